/- The functions run in the evaluator as their plain functions say. No condition. -/
import Derived.Test.YthmoekhkjgikpaaGreatS
set_option linter.unusedVariables false
set_option linter.unusedSimpArgs false
set_option linter.unusedSectionVars false
/- Proofs: printed by gen.py. -/
namespace Go.Ev.G
open Go.Ev Go.Proofs
set_option linter.unusedVariables false
def L_iwithin : List (Nat × LSpec (denRs (S_iwithin.res ++ outM S_iwithin.ps))) := []
def N_iwithin : List (Nat × Sig) := []
theorem t_iwithin : ∀ k x, runF tt (alook N_iwithin) k Tryz.f67 S_iwithin.ps S_iwithin.res (alook L_iwithin) x = S_iwithin.F k x := by intro k x; kernel_rfl
def L_iShaBlock_0 : LSpec (denRs (S_iShaBlock.res ++ outM S_iShaBlock.ps)) := .mkR [(0, .sh is), (1, .sh bs), (33, .sh is), (34, .sh i64), (35, .sh i64)] [(0, .sh is), (1, .sh bs)] [] fun k x => iShaBlock_l0 k x.1 x.2.1 x.2.2.1 x.2.2.2.1 x.2.2.2.2
def L_iShaBlock_2 : LSpec (denRs (S_iShaBlock.res ++ outM S_iShaBlock.ps)) := .mk [(0, .sh is), (1, .sh bs), (7, .pbox (.sh (.arr 64 i64))), (8, .own i64 true), (9, .pbox (.sh (.arr 8 i64))), (46, .sh i64)] [(0, .sh is), (7, .pbox (.sh (.arr 64 i64))), (8, .own i64 true), (9, .pbox (.sh (.arr 8 i64)))] [] fun k x => iShaBlock_l2 k x.1 x.2.1 x.2.2.1 x.2.2.2.1 x.2.2.2.2.1 x.2.2.2.2.2
def L_iShaBlock_4 : LSpec (denRs (S_iShaBlock.res ++ outM S_iShaBlock.ps)) := .mk [(0, .sh is), (7, .pbox (.sh (.arr 64 i64))), (8, .own i64 true), (9, .pbox (.sh (.arr 8 i64))), (11, .sh i64)] [(0, .sh is), (7, .pbox (.sh (.arr 64 i64))), (8, .own i64 true), (9, .pbox (.sh (.arr 8 i64)))] [] fun k x => iShaBlock_l4 k x.1 x.2.1 x.2.2.1 x.2.2.2.1 x.2.2.2.2
def L_iShaBlock_6 : LSpec (denRs (S_iShaBlock.res ++ outM S_iShaBlock.ps)) := .mk [(0, .sh is), (7, .pbox (.sh (.arr 64 i64))), (8, .own i64 true), (9, .pbox (.sh (.arr 8 i64))), (132, .sh i64)] [(0, .sh is), (9, .pbox (.sh (.arr 8 i64)))] [] fun k x => iShaBlock_l6 k x.1 x.2.1 x.2.2.1 x.2.2.2.1 x.2.2.2.2
def L_iShaBlock_8 : LSpec (denRs (S_iShaBlock.res ++ outM S_iShaBlock.ps)) := .mk [(0, .sh is), (9, .pbox (.sh (.arr 8 i64))), (23, .own i64 true), (218, .sh i64)] [(23, .own i64 true)] [] fun k x => iShaBlock_l8 k x.1 x.2.1 x.2.2.1 x.2.2.2
def L_iShaBlock : List (Nat × LSpec (denRs (S_iShaBlock.res ++ outM S_iShaBlock.ps))) := [(0, L_iShaBlock_0), (2, L_iShaBlock_2), (4, L_iShaBlock_4), (6, L_iShaBlock_6), (8, L_iShaBlock_8)]
def N_iShaBlock : List (Nat × Sig) := [(159, S_iisWord), (160, S_irounds), (161, S_iTurnRight)]
theorem r_iShaBlock_0 : ∀ k, runL tt (alook N_iShaBlock) k Tryz.f114 S_iShaBlock.ps S_iShaBlock.res (alook L_iShaBlock) 0 L_iShaBlock_0 := by intro k x; kernel_rfl
theorem r_iShaBlock_2 : ∀ k, runL tt (alook N_iShaBlock) k Tryz.f114 S_iShaBlock.ps S_iShaBlock.res (alook L_iShaBlock) 2 L_iShaBlock_2 := by intro k x; kernel_rfl
theorem r_iShaBlock_4 : ∀ k, runL tt (alook N_iShaBlock) k Tryz.f114 S_iShaBlock.ps S_iShaBlock.res (alook L_iShaBlock) 4 L_iShaBlock_4 := by intro k x; kernel_rfl
theorem r_iShaBlock_6 : ∀ k, runL tt (alook N_iShaBlock) k Tryz.f114 S_iShaBlock.ps S_iShaBlock.res (alook L_iShaBlock) 6 L_iShaBlock_6 := by intro k x; kernel_rfl
theorem r_iShaBlock_8 : ∀ k, runL tt (alook N_iShaBlock) k Tryz.f114 S_iShaBlock.ps S_iShaBlock.res (alook L_iShaBlock) 8 L_iShaBlock_8 := by intro k x; kernel_rfl
theorem t_iShaBlock : ∀ k x, runF tt (alook N_iShaBlock) k Tryz.f114 S_iShaBlock.ps S_iShaBlock.res (alook L_iShaBlock) x = S_iShaBlock.F k x := by intro k x; kernel_rfl
def L_iCrc : List (Nat × LSpec (denRs (S_iCrc.res ++ outM S_iCrc.ps))) := []
def N_iCrc : List (Nat × Sig) := [(181, S_iCrcMore)]
theorem t_iCrc : ∀ k x, runF tt (alook N_iCrc) k Tryz.f163 S_iCrc.ps S_iCrc.res (alook L_iCrc) x = S_iCrc.F k x := by intro k x; kernel_rfl
def L_iwriter_num : List (Nat × LSpec (denRs (S_iwriter_num.res ++ outM S_iwriter_num.ps))) := []
def N_iwriter_num : List (Nat × Sig) := [(179, S_iPutVar)]
theorem t_iwriter_num : ∀ k x, runF tt (alook N_iwriter_num) k Tryz.f156 S_iwriter_num.ps S_iwriter_num.res (alook L_iwriter_num) x = S_iwriter_num.F k x := by intro k x; kernel_rfl
def L_iwriter_qc_0 : LSpec (denRs (S_iwriter_qc.res ++ outM S_iwriter_qc.ps)) := .mk [(0, .pbox (.pair (.own u8 false) .unit)), (23, .sh (.slice bs)), (24, .sh i64), (25, .sh i64)] [(0, .pbox (.pair (.own u8 false) .unit))] [] fun k x => iwriter_qc_l0 k x.1 x.2.1 x.2.2.1 x.2.2.2
def L_iwriter_qc : List (Nat × LSpec (denRs (S_iwriter_qc.res ++ outM S_iwriter_qc.ps))) := [(0, L_iwriter_qc_0)]
def N_iwriter_qc : List (Nat × Sig) := [(156, S_iwriter_num), (157, S_iwriter_raw)]
theorem r_iwriter_qc_0 : ∀ k, runL tt (alook N_iwriter_qc) k Tryz.f158 S_iwriter_qc.ps S_iwriter_qc.res (alook L_iwriter_qc) 0 L_iwriter_qc_0 := by intro k x; kernel_rfl
theorem t_iwriter_qc : ∀ k x, runF tt (alook N_iwriter_qc) k Tryz.f158 S_iwriter_qc.ps S_iwriter_qc.res (alook L_iwriter_qc) x = S_iwriter_qc.F k x := by intro k x; kernel_rfl
def L_sLimitsOk : List (Nat × LSpec (denRs (S_sLimitsOk.res ++ outM S_sLimitsOk.ps))) := []
def N_sLimitsOk : List (Nat × Sig) := [(92, S_sl02Signers), (96, S_sl01In)]
theorem t_sLimitsOk : ∀ k x, runF tt (alook N_sLimitsOk) k Tryz.f93 S_sLimitsOk.ps S_sLimitsOk.res (alook L_sLimitsOk) x = S_sLimitsOk.F k x := by intro k x; kernel_rfl
def L_ipathRoot : List (Nat × LSpec (denRs (S_ipathRoot.res ++ outM S_ipathRoot.ps))) := []
def N_ipathRoot : List (Nat × Sig) := [(38, S_icopyBytes), (172, S_iSplitAt), (173, S_iNodeHash)]
theorem t_ipathRoot : ∀ k x, runF tt (alook ((140, S_ipathRoot) :: N_ipathRoot)) k Tryz.f140 S_ipathRoot.ps S_ipathRoot.res (alook L_ipathRoot) x = S_ipathRoot.F (k + 1) x := by intro k x; kernel_rfl
def L_iChainCode_0 : LSpec (denRs (S_iChainCode.res ++ outM S_iChainCode.ps)) := .mkR [(1, .sh (.slice tHead)), (2, .pbox (.sh tLimits)), (5, .sh i64)] [] [] fun k x => iChainCode_l0 k x.1 x.2.1 x.2.2
def L_iChainCode : List (Nat × LSpec (denRs (S_iChainCode.res ++ outM S_iChainCode.ps))) := [(0, L_iChainCode_0)]
def N_iChainCode : List (Nat × Sig) := [(41, S_iLinks), (68, S_iareHeads)]
theorem r_iChainCode_0 : ∀ k, runL tt (alook N_iChainCode) k Tryz.f138 S_iChainCode.ps S_iChainCode.res (alook L_iChainCode) 0 L_iChainCode_0 := by intro k x; kernel_rfl
theorem t_iChainCode : ∀ k x, runF tt (alook N_iChainCode) k Tryz.f138 S_iChainCode.ps S_iChainCode.res (alook L_iChainCode) x = S_iChainCode.F k x := by intro k x; kernel_rfl
def L_iOfIncl : List (Nat × LSpec (denRs (S_iOfIncl.res ++ outM S_iOfIncl.ps))) := []
def N_iOfIncl : List (Nat × Sig) := [(170, S_iIncl_copied)]
theorem t_iOfIncl : ∀ k x, runF tt (alook N_iOfIncl) k Tryz.f132 S_iOfIncl.ps S_iOfIncl.res (alook L_iOfIncl) x = S_iOfIncl.F k x := by intro k x; kernel_rfl
def L_iOfVote : List (Nat × LSpec (denRs (S_iOfVote.res ++ outM S_iOfVote.ps))) := []
def N_iOfVote : List (Nat × Sig) := [(38, S_icopyBytes)]
theorem t_iOfVote : ∀ k x, runF tt (alook N_iOfVote) k Tryz.f127 S_iOfVote.ps S_iOfVote.res (alook L_iOfVote) x = S_iOfVote.F k x := by intro k x; kernel_rfl
def L_iProofSame : List (Nat × LSpec (denRs (S_iProofSame.res ++ outM S_iProofSame.ps))) := []
def N_iProofSame : List (Nat × Sig) := [(44, S_iQcSame), (46, S_iheadsSame)]
theorem t_iProofSame : ∀ k x, runF tt (alook N_iProofSame) k Tryz.f125 S_iProofSame.ps S_iProofSame.res (alook L_iProofSame) x = S_iProofSame.F k x := by intro k x; kernel_rfl
def L_iTcSame_0 : LSpec (denRs (S_iTcSame.res ++ outM S_iTcSame.ps)) := .mkR [(2, .pbox (.sh tTc)), (3, .pbox (.sh tTc)), (22, .sh i64), (23, .sh i64)] [] [] fun k x => iTcSame_l0 k x.1 x.2.1 x.2.2.1 x.2.2.2
def L_iTcSame : List (Nat × LSpec (denRs (S_iTcSame.res ++ outM S_iTcSame.ps))) := [(0, L_iTcSame_0)]
def N_iTcSame : List (Nat × Sig) := [(136, S_ientrySame)]
theorem r_iTcSame_0 : ∀ k, runL tt (alook N_iTcSame) k Tryz.f124 S_iTcSame.ps S_iTcSame.res (alook L_iTcSame) 0 L_iTcSame_0 := by intro k x; kernel_rfl
theorem t_iTcSame : ∀ k x, runF tt (alook N_iTcSame) k Tryz.f124 S_iTcSame.ps S_iTcSame.res (alook L_iTcSame) x = S_iTcSame.F k x := by intro k x; kernel_rfl
def L_iPutQc : List (Nat × LSpec (denRs (S_iPutQc.res ++ outM S_iPutQc.ps))) := []
def N_iPutQc : List (Nat × Sig) := [(38, S_icopyBytes), (64, S_iQcOk), (158, S_iwriter_qc)]
theorem t_iPutQc : ∀ k x, runF tt (alook N_iPutQc) k Tryz.f117 S_iPutQc.ps S_iPutQc.res (alook L_iPutQc) x = S_iPutQc.F k x := by intro k x; kernel_rfl
def L_iFrameAt : List (Nat × LSpec (denRs (S_iFrameAt.res ++ outM S_iFrameAt.ps))) := []
def N_iFrameAt : List (Nat × Sig) := [(59, S_iLimitsOk), (67, S_iwithin), (162, S_iGetFix), (163, S_iCrc)]
theorem t_iFrameAt : ∀ k x, runF tt (alook N_iFrameAt) k Tryz.f115 S_iFrameAt.ps S_iFrameAt.res (alook L_iFrameAt) x = S_iFrameAt.F k x := by intro k x; kernel_rfl
def L_iCommits : List (Nat × LSpec (denRs (S_iCommits.res ++ outM S_iCommits.ps))) := []
def N_iCommits : List (Nat × Sig) := [(27, S_iProofOk), (42, S_iHead_copied)]
theorem t_iCommits : ∀ k x, runF tt (alook N_iCommits) k Tryz.f82 S_iCommits.ps S_iCommits.res (alook L_iCommits) x = S_iCommits.F k x := by intro k x; kernel_rfl
def L_iQcCode_0 : LSpec (denRs (S_iQcCode.res ++ outM S_iQcCode.ps)) := .mkR [(4, .pbox (.sh tTable)), (5, .pbox (.sh tQc)), (20, .own tVote false), (21, .sh i64), (22, .sh i64)] [(4, .pbox (.sh tTable)), (5, .pbox (.sh tQc))] [] fun k x => iQcCode_l0 k x.1 x.2.1 x.2.2.1 x.2.2.2.1 x.2.2.2.2
def L_iQcCode : List (Nat × LSpec (denRs (S_iQcCode.res ++ outM S_iQcCode.ps))) := [(0, L_iQcCode_0)]
def N_iQcCode : List (Nat × Sig) := [(22, S_ibelongs), (64, S_iQcOk), (75, S_iQcVotes), (76, S_iVoteGood), (77, S_iIsQuorum)]
theorem r_iQcCode_0 : ∀ k, runL tt (alook N_iQcCode) k Tryz.f32 S_iQcCode.ps S_iQcCode.res (alook L_iQcCode) 0 L_iQcCode_0 := by intro k x; kernel_rfl
theorem t_iQcCode : ∀ k x, runF tt (alook N_iQcCode) k Tryz.f32 S_iQcCode.ps S_iQcCode.res (alook L_iQcCode) x = S_iQcCode.F k x := by intro k x; kernel_rfl
def L_iPushOk : List (Nat × LSpec (denRs (S_iPushOk.res ++ outM S_iPushOk.ps))) := []
def N_iPushOk : List (Nat × Sig) := [(59, S_iLimitsOk), (87, S_iisNum), (115, S_iFrameAt)]
theorem t_iPushOk : ∀ k x, runF tt (alook N_iPushOk) k Tryz.f71 S_iPushOk.ps S_iPushOk.res (alook L_iPushOk) x = S_iPushOk.F k x := by intro k x; kernel_rfl
def L_sPutFix_0 : LSpec (denRs (S_sPutFix.res ++ outM S_sPutFix.ps)) := .mk [(1, .sh i64), (2, .sh i64), (8, .own u8 true), (9, .sh i64)] [(8, .own u8 true)] [] fun k x => sPutFix_l0 k x.1 x.2.1 x.2.2.1 x.2.2.2
def L_sPutFix : List (Nat × LSpec (denRs (S_sPutFix.res ++ outM S_sPutFix.ps))) := [(0, L_sPutFix_0)]
def N_sPutFix : List (Nat × Sig) := [(49, S_sl01Copy), (96, S_sl01In), (106, S_sl01Top)]
theorem r_sPutFix_0 : ∀ k, runL tt (alook N_sPutFix) k Tryz.f57 S_sPutFix.ps S_sPutFix.res (alook L_sPutFix) 0 L_sPutFix_0 := by intro k x; kernel_rfl
theorem t_sPutFix : ∀ k x, runF tt (alook N_sPutFix) k Tryz.f57 S_sPutFix.ps S_sPutFix.res (alook L_sPutFix) x = S_sPutFix.F k x := by intro k x; kernel_rfl
def L_iPathOk : List (Nat × LSpec (denRs (S_iPathOk.res ++ outM S_iPathOk.ps))) := []
def N_iPathOk : List (Nat × Sig) := [(43, S_iSameBytes), (83, S_iPathRoot), (84, S_iLeafHash)]
theorem t_iPathOk : ∀ k x, runF tt (alook N_iPathOk) k Tryz.f36 S_iPathOk.ps S_iPathOk.res (alook L_iPathOk) x = S_iPathOk.F k x := by intro k x; kernel_rfl
def L_iTable_copied_0 : LSpec (denRs (S_iTable_copied.res ++ outM S_iTable_copied.ps)) := .mk [(2, .pbox (.pair (.own tPush false) .unit)), (3, .pbox (.pair (.own tPush false) .unit)), (8, .sh (.slice tPush)), (9, .sh i64), (10, .sh i64)] [(2, .pbox (.pair (.own tPush false) .unit)), (3, .pbox (.pair (.own tPush false) .unit))] [] fun k x => iTable_copied_l0 k x.1 x.2.1 x.2.2.1 x.2.2.2.1 x.2.2.2.2
def L_iTable_copied : List (Nat × LSpec (denRs (S_iTable_copied.res ++ outM S_iTable_copied.ps))) := [(0, L_iTable_copied_0)]
def N_iTable_copied : List (Nat × Sig) := [(38, S_icopyBytes)]
theorem r_iTable_copied_0 : ∀ k, runL tt (alook N_iTable_copied) k Tryz.f23 S_iTable_copied.ps S_iTable_copied.res (alook L_iTable_copied) 0 L_iTable_copied_0 := by intro k x; kernel_rfl
theorem t_iTable_copied : ∀ k x, runF tt (alook N_iTable_copied) k Tryz.f23 S_iTable_copied.ps S_iTable_copied.res (alook L_iTable_copied) x = S_iTable_copied.F k x := by intro k x; kernel_rfl
def L_iMsgOk : List (Nat × LSpec (denRs (S_iMsgOk.res ++ outM S_iMsgOk.ps))) := []
def N_iMsgOk : List (Nat × Sig) := [(72, S_iMsg_put), (73, S_iMsgSame), (74, S_iMsg_alone)]
theorem t_iMsgOk : ∀ k x, runF tt (alook N_iMsgOk) k Tryz.f30 S_iMsgOk.ps S_iMsgOk.res (alook L_iMsgOk) x = S_iMsgOk.F k x := by intro k x; kernel_rfl
def L_sl11Hash : List (Nat × LSpec (denRs (S_sl11Hash.res ++ outM S_sl11Hash.ps))) := []
def N_sl11Hash : List (Nat × Sig) := [(18, S_sl01Below), (53, S_sl01Byte)]
theorem t_sl11Hash : ∀ k x, runF tt (alook N_sl11Hash) k Tryz.f19 S_sl11Hash.ps S_sl11Hash.res (alook L_sl11Hash) x = S_sl11Hash.F k x := by intro k x; kernel_rfl
def L_sl23Pair : List (Nat × LSpec (denRs (S_sl23Pair.res ++ outM S_sl23Pair.ps))) := []
def N_sl23Pair : List (Nat × Sig) := [(18, S_sl01Below), (47, S_sl10Draw), (48, S_sl21Draw)]
theorem t_sl23Pair : ∀ k x, runF tt (alook N_sl23Pair) k Tryz.f16 S_sl23Pair.ps S_sl23Pair.res (alook L_sl23Pair) x = S_sl23Pair.F k x := by intro k x; kernel_rfl
def L_sMakeHash : List (Nat × LSpec (denRs (S_sMakeHash.res ++ outM S_sMakeHash.ps))) := []
def N_sMakeHash : List (Nat × Sig) := [(15, S_sl01New), (19, S_sl11Hash)]
theorem t_sMakeHash : ∀ k x, runF tt (alook N_sMakeHash) k Tryz.f11 S_sMakeHash.ps S_sMakeHash.res (alook L_sMakeHash) x = S_sMakeHash.F k x := by intro k x; kernel_rfl
def L_iFirstHead : List (Nat × LSpec (denRs (S_iFirstHead.res ++ outM S_iFirstHead.ps))) := []
def N_iFirstHead : List (Nat × Sig) := [(22, S_ibelongs), (38, S_icopyBytes), (39, S_iBitsNew), (40, S_iHeadOk)]
theorem t_iFirstHead : ∀ k x, runF tt (alook N_iFirstHead) k Tryz.f10 S_iFirstHead.ps S_iFirstHead.res (alook L_iFirstHead) x = S_iFirstHead.F k x := by intro k x; kernel_rfl
def L_wFnClash : List (Nat × LSpec (denRs (S_wFnClash.res ++ outM S_wFnClash.ps))) := []
def N_wFnClash : List (Nat × Sig) := [(4, S_sMakeChain), (5, S_sMakeFull), (6, S_iLightNew), (7, S_iBuildProof), (8, S_iJudge), (9, S_iOfProof), (10, S_iFirstHead), (11, S_sMakeHash), (12, S_iNextHead), (13, S_iHeadSame), (14, S_iLightSame)]
theorem t_wFnClash : ∀ k x, runF tt (alook N_wFnClash) k Tryz.f3 S_wFnClash.ps S_wFnClash.res (alook L_wFnClash) x = S_wFnClash.F k x := by intro k x; kernel_rfl
end Go.Ev.G
