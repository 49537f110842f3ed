/- The functions run in the evaluator as their plain functions say. No condition. -/
import Derived.Test.YtmbpdaffnabjcaaGreatS
set_option linter.unusedVariables false
set_option linter.unusedSimpArgs false
set_option linter.unusedSectionVars false
/- Proofs: printed by gen.py. -/
namespace Go.Ev.G
open Go.Ev Go.Proofs
set_option linter.unusedVariables false
def L_sl04Word : List (Nat × LSpec (denRs (S_sl04Word.res ++ outM S_sl04Word.ps))) := []
def N_sl04Word : List (Nat × Sig) := [(271, S_sl01In)]
theorem t_sl04Word : ∀ k x, runF tt (alook N_sl04Word) k Tryz.f378 S_sl04Word.ps S_sl04Word.res (alook L_sl04Word) x = S_sl04Word.F k x := by intro k x; kernel_rfl
def L_sShaBlock_0 : LSpec (denRs (S_sShaBlock.res ++ outM S_sShaBlock.ps)) := .mkR [(0, .sh is), (1, .sh bs), (31, .sh is), (32, .sh i64), (33, .sh i64)] [(0, .sh is), (1, .sh bs)] [] fun k x => sShaBlock_l0 k x.1 x.2.1 x.2.2.1 x.2.2.2.1 x.2.2.2.2
def L_sShaBlock_2 : LSpec (denRs (S_sShaBlock.res ++ outM S_sShaBlock.ps)) := .mk [(0, .sh is), (1, .sh bs), (7, .own i64 true), (8, .sh i64)] [(0, .sh is), (7, .own i64 true)] [] fun k x => sShaBlock_l2 k x.1 x.2.1 x.2.2.1 x.2.2.2
def L_sShaBlock_4 : LSpec (denRs (S_sShaBlock.res ++ outM S_sShaBlock.ps)) := .mk [(0, .sh is), (7, .own i64 true), (9, .sh i64)] [(0, .sh is), (7, .own i64 true)] [] fun k x => sShaBlock_l4 k x.1 x.2.1 x.2.2
def L_sShaBlock_6 : LSpec (denRs (S_sShaBlock.res ++ outM S_sShaBlock.ps)) := .mk [(0, .sh is), (7, .own i64 true), (14, .own i64 true), (15, .own i64 true), (16, .sh i64)] [(0, .sh is), (15, .own i64 true)] [] fun k x => sShaBlock_l6 k x.1 x.2.1 x.2.2.1 x.2.2.2.1 x.2.2.2.2
def L_sShaBlock_8 : LSpec (denRs (S_sShaBlock.res ++ outM S_sShaBlock.ps)) := .mk [(0, .sh is), (15, .own i64 true), (21, .own i64 true), (235, .sh i64), (236, .sh i64)] [(21, .own i64 true)] [] fun k x => sShaBlock_l8 k x.1 x.2.1 x.2.2.1 x.2.2.2.1 x.2.2.2.2
def L_sShaBlock : List (Nat × LSpec (denRs (S_sShaBlock.res ++ outM S_sShaBlock.ps))) := [(0, L_sShaBlock_0), (2, L_sShaBlock_2), (4, L_sShaBlock_4), (6, L_sShaBlock_6), (8, L_sShaBlock_8)]
def N_sShaBlock : List (Nat × Sig) := [(378, S_sl04Word), (379, S_sl04Turn), (380, S_sl04K)]
theorem r_sShaBlock_0 : ∀ k, runL tt (alook N_sShaBlock) k Tryz.f360 S_sShaBlock.ps S_sShaBlock.res (alook L_sShaBlock) 0 L_sShaBlock_0 := by intro k x; kernel_rfl
theorem r_sShaBlock_2 : ∀ k, runL tt (alook N_sShaBlock) k Tryz.f360 S_sShaBlock.ps S_sShaBlock.res (alook L_sShaBlock) 2 L_sShaBlock_2 := by intro k x; kernel_rfl
theorem r_sShaBlock_4 : ∀ k, runL tt (alook N_sShaBlock) k Tryz.f360 S_sShaBlock.ps S_sShaBlock.res (alook L_sShaBlock) 4 L_sShaBlock_4 := by intro k x; kernel_rfl
theorem r_sShaBlock_6 : ∀ k, runL tt (alook N_sShaBlock) k Tryz.f360 S_sShaBlock.ps S_sShaBlock.res (alook L_sShaBlock) 6 L_sShaBlock_6 := by intro k x; kernel_rfl
theorem r_sShaBlock_8 : ∀ k, runL tt (alook N_sShaBlock) k Tryz.f360 S_sShaBlock.ps S_sShaBlock.res (alook L_sShaBlock) 8 L_sShaBlock_8 := by intro k x; kernel_rfl
theorem t_sShaBlock : ∀ k x, runF tt (alook N_sShaBlock) k Tryz.f360 S_sShaBlock.ps S_sShaBlock.res (alook L_sShaBlock) x = S_sShaBlock.F k x := by intro k x; kernel_rfl
def L_sl01Byte : List (Nat × LSpec (denRs (S_sl01Byte.res ++ outM S_sl01Byte.ps))) := []
def N_sl01Byte : List (Nat × Sig) := []
theorem t_sl01Byte : ∀ k x, runF tt (alook N_sl01Byte) k Tryz.f203 S_sl01Byte.ps S_sl01Byte.res (alook L_sl01Byte) x = S_sl01Byte.F k x := by intro k x; kernel_rfl
def L_sPutQc_0 : LSpec (denRs (S_sPutQc.res ++ outM S_sPutQc.ps)) := .mk [(8, .own u8 false), (30, .sh (.slice bs)), (31, .sh i64), (32, .sh i64)] [(8, .own u8 false)] [] fun k x => sPutQc_l0 k x.1 x.2.1 x.2.2.1 x.2.2.2
def L_sPutQc : List (Nat × LSpec (denRs (S_sPutQc.res ++ outM S_sPutQc.ps))) := [(0, L_sPutQc_0)]
def N_sPutQc : List (Nat × Sig) := [(303, S_sQcOk), (348, S_sl11Num)]
theorem r_sPutQc_0 : ∀ k, runL tt (alook N_sPutQc) k Tryz.f280 S_sPutQc.ps S_sPutQc.res (alook L_sPutQc) 0 L_sPutQc_0 := by intro k x; kernel_rfl
theorem t_sPutQc : ∀ k x, runF tt (alook N_sPutQc) k Tryz.f280 S_sPutQc.ps S_sPutQc.res (alook L_sPutQc) x = S_sPutQc.F k x := by intro k x; kernel_rfl
def L_sl01Bytes_0 : LSpec (denRs (S_sl01Bytes.res ++ outM S_sl01Bytes.ps)) := .mk [(0, .pbox (.sh tl01Cur)), (5, .own u8 true), (6, .sh i64)] [(0, .pbox (.sh tl01Cur)), (5, .own u8 true)] [] fun k x => sl01Bytes_l0 k x.1 x.2.1 x.2.2
def L_sl01Bytes : List (Nat × LSpec (denRs (S_sl01Bytes.res ++ outM S_sl01Bytes.ps))) := [(0, L_sl01Bytes_0)]
def N_sl01Bytes : List (Nat × Sig) := [(90, S_sl01Below), (203, S_sl01Byte)]
theorem r_sl01Bytes_0 : ∀ k, runL tt (alook N_sl01Bytes) k Tryz.f184 S_sl01Bytes.ps S_sl01Bytes.res (alook L_sl01Bytes) 0 L_sl01Bytes_0 := by intro k x; kernel_rfl
theorem t_sl01Bytes : ∀ k x, runF tt (alook N_sl01Bytes) k Tryz.f184 S_sl01Bytes.ps S_sl01Bytes.res (alook L_sl01Bytes) x = S_sl01Bytes.F k x := by intro k x; kernel_rfl
def L_iGetVar_0 : LSpec (denRs (S_iGetVar.res ++ outM S_iGetVar.ps)) := .mkR [(0, .sh bs), (1, .sh i64), (7, .sh i64), (8, .sh i64)] [] [] fun k x => iGetVar_l0 k x.1 x.2.1 x.2.2.1 x.2.2.2
def L_iGetVar : List (Nat × LSpec (denRs (S_iGetVar.res ++ outM S_iGetVar.ps))) := [(0, L_iGetVar_0)]
def N_iGetVar : List (Nat × Sig) := [(150, S_iisNum), (213, S_iwithin)]
theorem r_iGetVar_0 : ∀ k, runL tt (alook N_iGetVar) k Tryz.f322 S_iGetVar.ps S_iGetVar.res (alook L_iGetVar) 0 L_iGetVar_0 := by intro k x; kernel_rfl
theorem t_iGetVar : ∀ k x, runF tt (alook N_iGetVar) k Tryz.f322 S_iGetVar.ps S_iGetVar.res (alook L_iGetVar) x = S_iGetVar.F k x := by intro k x; kernel_rfl
def L_iBlock_copied : List (Nat × LSpec (denRs (S_iBlock_copied.res ++ outM S_iBlock_copied.ps))) := []
def N_iBlock_copied : List (Nat × Sig) := [(112, S_iHead_copied), (320, S_icopyList)]
theorem t_iBlock_copied : ∀ k x, runF tt (alook N_iBlock_copied) k Tryz.f294 S_iBlock_copied.ps S_iBlock_copied.res (alook L_iBlock_copied) x = S_iBlock_copied.F k x := by intro k x; kernel_rfl
def L_sPutBlock_0 : LSpec (denRs (S_sPutBlock.res ++ outM S_sPutBlock.ps)) := .mk [(8, .own u8 false), (30, .sh (.slice bs)), (31, .sh i64), (32, .sh i64)] [(8, .own u8 false)] [] fun k x => sPutBlock_l0 k x.1 x.2.1 x.2.2.1 x.2.2.2
def L_sPutBlock : List (Nat × LSpec (denRs (S_sPutBlock.res ++ outM S_sPutBlock.ps))) := [(0, L_sPutBlock_0)]
def N_sPutBlock : List (Nat × Sig) := [(281, S_sPutHead), (348, S_sl11Num), (349, S_sBlockOk), (350, S_sPutText)]
theorem r_sPutBlock_0 : ∀ k, runL tt (alook N_sPutBlock) k Tryz.f282 S_sPutBlock.ps S_sPutBlock.res (alook L_sPutBlock) 0 L_sPutBlock_0 := by intro k x; kernel_rfl
theorem t_sPutBlock : ∀ k x, runF tt (alook N_sPutBlock) k Tryz.f282 S_sPutBlock.ps S_sPutBlock.res (alook L_sPutBlock) x = S_sPutBlock.F k x := by intro k x; kernel_rfl
def L_sProofSame_0 : LSpec (denRs (S_sProofSame.res ++ outM S_sProofSame.ps)) := .mkR [(2, .pbox (.sh tProof)), (3, .pbox (.sh tProof)), (15, .sh i64), (16, .sh i64)] [(2, .pbox (.sh tProof)), (3, .pbox (.sh tProof))] [] fun k x => sProofSame_l0 k x.1 x.2.1 x.2.2.1 x.2.2.2
def L_sProofSame : List (Nat × LSpec (denRs (S_sProofSame.res ++ outM S_sProofSame.ps))) := [(0, L_sProofSame_0)]
def N_sProofSame : List (Nat × Sig) := [(273, S_sQcSame), (274, S_sHeadSame)]
theorem r_sProofSame_0 : ∀ k, runL tt (alook N_sProofSame) k Tryz.f277 S_sProofSame.ps S_sProofSame.res (alook L_sProofSame) 0 L_sProofSame_0 := by intro k x; kernel_rfl
theorem t_sProofSame : ∀ k x, runF tt (alook N_sProofSame) k Tryz.f277 S_sProofSame.ps S_sProofSame.res (alook L_sProofSame) x = S_sProofSame.F k x := by intro k x; kernel_rfl
def L_sl16Draw : List (Nat × LSpec (denRs (S_sl16Draw.res ++ outM S_sl16Draw.ps))) := []
def N_sl16Draw : List (Nat × Sig) := [(90, S_sl01Below), (204, S_sHeadHash), (250, S_sl12Draw), (342, S_sl13Chain)]
theorem t_sl16Draw : ∀ k x, runF tt (alook N_sl16Draw) k Tryz.f258 S_sl16Draw.ps S_sl16Draw.res (alook L_sl16Draw) x = S_sl16Draw.F k x := by intro k x; kernel_rfl
def L_sOfHead : List (Nat × LSpec (denRs (S_sOfHead.res ++ outM S_sOfHead.ps))) := []
def N_sOfHead : List (Nat × Sig) := [(336, S_sl13Copy)]
theorem t_sOfHead : ∀ k x, runF tt (alook N_sOfHead) k Tryz.f251 S_sOfHead.ps S_sOfHead.res (alook L_sOfHead) x = S_sOfHead.F k x := by intro k x; kernel_rfl
def L_sl17Kind : List (Nat × LSpec (denRs (S_sl17Kind.res ++ outM S_sl17Kind.ps))) := []
def N_sl17Kind : List (Nat × Sig) := [(271, S_sl01In)]
theorem t_sl17Kind : ∀ k x, runF tt (alook N_sl17Kind) k Tryz.f166 S_sl17Kind.ps S_sl17Kind.res (alook L_sl17Kind) x = S_sl17Kind.F k x := by intro k x; kernel_rfl
def L_sl17Put : List (Nat × LSpec (denRs (S_sl17Put.res ++ outM S_sl17Put.ps))) := []
def N_sl17Put : List (Nat × Sig) := [(279, S_sPutVote), (280, S_sPutQc), (281, S_sPutHead), (282, S_sPutBlock), (283, S_sPutTc), (284, S_sPutProof), (285, S_sPutIncl)]
theorem t_sl17Put : ∀ k x, runF tt (alook N_sl17Put) k Tryz.f169 S_sl17Put.ps S_sl17Put.res (alook L_sl17Put) x = S_sl17Put.F k x := by intro k x; kernel_rfl
def L_iLeafHash : List (Nat × LSpec (denRs (S_iLeafHash.res ++ outM S_iLeafHash.ps))) := []
def N_iLeafHash : List (Nat × Sig) := [(130, S_iSha)]
theorem t_iLeafHash : ∀ k x, runF tt (alook N_iLeafHash) k Tryz.f224 S_iLeafHash.ps S_iLeafHash.res (alook L_iLeafHash) x = S_iLeafHash.F k x := by intro k x; kernel_rfl
def L_ireader_num : List (Nat × LSpec (denRs (S_ireader_num.res ++ outM S_ireader_num.ps))) := []
def N_ireader_num : List (Nat × Sig) := [(322, S_iGetVar)]
theorem t_ireader_num : ∀ k x, runF tt (alook N_ireader_num) k Tryz.f233 S_ireader_num.ps S_ireader_num.res (alook L_ireader_num) x = S_ireader_num.F k x := by intro k x; kernel_rfl
def L_iProof_closes : List (Nat × LSpec (denRs (S_iProof_closes.res ++ outM S_iProof_closes.ps))) := []
def N_iProof_closes : List (Nat × Sig) := []
theorem t_iProof_closes : ∀ k x, runF tt (alook N_iProof_closes) k Tryz.f215 S_iProof_closes.ps S_iProof_closes.res (alook L_iProof_closes) x = S_iProof_closes.F k x := by intro k x; kernel_rfl
def L_iProof_copied : List (Nat × LSpec (denRs (S_iProof_copied.res ++ outM S_iProof_copied.ps))) := []
def N_iProof_copied : List (Nat × Sig) := [(97, S_icopyHeads), (225, S_iQc_copied)]
theorem t_iProof_copied : ∀ k x, runF tt (alook N_iProof_copied) k Tryz.f107 S_iProof_copied.ps S_iProof_copied.res (alook L_iProof_copied) x = S_iProof_copied.F k x := by intro k x; kernel_rfl
def L_inameAt : List (Nat × LSpec (denRs (S_inameAt.res ++ outM S_inameAt.ps))) := []
def N_inameAt : List (Nat × Sig) := [(213, S_iwithin)]
theorem t_inameAt : ∀ k x, runF tt (alook N_inameAt) k Tryz.f154 S_inameAt.ps S_inameAt.res (alook L_inameAt) x = S_inameAt.F k x := by intro k x; kernel_rfl
def L_iPutQc : List (Nat × LSpec (denRs (S_iPutQc.res ++ outM S_iPutQc.ps))) := []
def N_iPutQc : List (Nat × Sig) := [(108, S_icopyBytes), (122, S_iQcOk), (123, S_iwriter_qc)]
theorem t_iPutQc : ∀ k x, runF tt (alook N_iPutQc) k Tryz.f32 S_iPutQc.ps S_iPutQc.res (alook L_iPutQc) x = S_iPutQc.F k x := by intro k x; kernel_rfl
def L_iPutBlock_0 : LSpec (denRs (S_iPutBlock.res ++ outM S_iPutBlock.ps)) := .mk [(8, .pbox (.pair (.own u8 false) .unit)), (29, .sh (.slice bs)), (30, .sh i64), (31, .sh i64)] [(8, .pbox (.pair (.own u8 false) .unit))] [] fun k x => iPutBlock_l0 k x.1 x.2.1 x.2.2.1 x.2.2.2
def L_iPutBlock : List (Nat × LSpec (denRs (S_iPutBlock.res ++ outM S_iPutBlock.ps))) := [(0, L_iPutBlock_0)]
def N_iPutBlock : List (Nat × Sig) := [(108, S_icopyBytes), (118, S_iwriter_num), (127, S_iwriter_head), (131, S_iBlockOk), (132, S_iPutText)]
theorem r_iPutBlock_0 : ∀ k, runL tt (alook N_iPutBlock) k Tryz.f38 S_iPutBlock.ps S_iPutBlock.res (alook L_iPutBlock) 0 L_iPutBlock_0 := by intro k x; kernel_rfl
theorem t_iPutBlock : ∀ k x, runF tt (alook N_iPutBlock) k Tryz.f38 S_iPutBlock.ps S_iPutBlock.res (alook L_iPutBlock) x = S_iPutBlock.F k x := by intro k x; kernel_rfl
def L_iKindName : List (Nat × LSpec (denRs (S_iKindName.res ++ outM S_iKindName.ps))) := []
def N_iKindName : List (Nat × Sig) := [(154, S_inameAt)]
theorem t_iKindName : ∀ k x, runF tt (alook N_iKindName) k Tryz.f61 S_iKindName.ps S_iKindName.res (alook L_iKindName) x = S_iKindName.F k x := by intro k x; kernel_rfl
def L_iGetVote : List (Nat × LSpec (denRs (S_iGetVote.res ++ outM S_iGetVote.ps))) := []
def N_iGetVote : List (Nat × Sig) := [(120, S_iget_implVote)]
theorem t_iGetVote : ∀ k x, runF tt (alook N_iGetVote) k Tryz.f30 S_iGetVote.ps S_iGetVote.res (alook L_iGetVote) x = S_iGetVote.F k x := by intro k x; kernel_rfl
def L_iGetQc : List (Nat × LSpec (denRs (S_iGetQc.res ++ outM S_iGetQc.ps))) := []
def N_iGetQc : List (Nat × Sig) := [(124, S_iget_implQc)]
theorem t_iGetQc : ∀ k x, runF tt (alook N_iGetQc) k Tryz.f33 S_iGetQc.ps S_iGetQc.res (alook L_iGetQc) x = S_iGetQc.F k x := by intro k x; kernel_rfl
def L_ireadBlock_0 : LSpec (denRs (S_ireadBlock.res ++ outM S_ireadBlock.ps)) := .mk [(1, .pbox (.sh tl01Cur)), (2, .pbox (.sh tLimits)), (4, .pbox (.pair (.pair (.sh i64) (.pair (.sh i64) (.pair (.sh i64) (.pair (.own u8 false) (.pair (.own u8 false) (.pair (.pair (.sh i64) (.pair (.sh i64) (.pair (.own u8 false) (.pair (.own u8 false) (.pair (.own bs false) .unit))))) .unit)))))) (.pair (.own bs false) .unit))), (5, .pbox (.pair (.sh tHead) (.pair (.own bs false) .unit))), (6, .sh i64), (7, .sh i64)] [(1, .pbox (.sh tl01Cur)), (4, .pbox (.pair (.pair (.sh i64) (.pair (.sh i64) (.pair (.sh i64) (.pair (.own u8 false) (.pair (.own u8 false) (.pair (.pair (.sh i64) (.pair (.sh i64) (.pair (.own u8 false) (.pair (.own u8 false) (.pair (.own bs false) .unit))))) .unit)))))) (.pair (.own bs false) .unit))), (5, .pbox (.pair (.sh tHead) (.pair (.own bs false) .unit)))] [] fun k x => ireadBlock_l0 k x.1 x.2.1 x.2.2.1 x.2.2.2.1 x.2.2.2.2.1 x.2.2.2.2.2
def L_ireadBlock : List (Nat × LSpec (denRs (S_ireadBlock.res ++ outM S_ireadBlock.ps))) := [(0, L_ireadBlock_0)]
def N_ireadBlock : List (Nat × Sig) := [(65, S_iSameBytes), (129, S_ireadHead), (235, S_ireader_below), (238, S_ireader_must), (242, S_iTreeRoot), (243, S_ireader_text)]
theorem r_ireadBlock_0 : ∀ k, runL tt (alook N_ireadBlock) k Tryz.f134 S_ireadBlock.ps S_ireadBlock.res (alook L_ireadBlock) 0 L_ireadBlock_0 := by intro k x; kernel_rfl
theorem t_ireadBlock : ∀ k x, runF tt (alook N_ireadBlock) k Tryz.f134 S_ireadBlock.ps S_ireadBlock.res (alook L_ireadBlock) x = S_ireadBlock.F k x := by intro k x; kernel_rfl
def L_iTreeSame_0 : LSpec (denRs (S_iTreeSame.res ++ outM S_iTreeSame.ps)) := .mkR [(0, .sh (.slice bs)), (1, .sh (.slice bs)), (12, .sh i64), (13, .sh i64)] [] [] fun k x => iTreeSame_l0 k x.1 x.2.1 x.2.2.1 x.2.2.2
def L_iTreeSame : List (Nat × LSpec (denRs (S_iTreeSame.res ++ outM S_iTreeSame.ps))) := [(0, L_iTreeSame_0)]
def N_iTreeSame : List (Nat × Sig) := [(65, S_iSameBytes)]
theorem r_iTreeSame_0 : ∀ k, runL tt (alook N_iTreeSame) k Tryz.f126 S_iTreeSame.ps S_iTreeSame.res (alook L_iTreeSame) 0 L_iTreeSame_0 := by intro k x; kernel_rfl
theorem t_iTreeSame : ∀ k x, runF tt (alook N_iTreeSame) k Tryz.f126 S_iTreeSame.ps S_iTreeSame.res (alook L_iTreeSame) x = S_iTreeSame.F k x := by intro k x; kernel_rfl
def L_iMsgSame : List (Nat × LSpec (denRs (S_iMsgSame.res ++ outM S_iMsgSame.ps))) := []
def N_iMsgSame : List (Nat × Sig) := [(24, S_iHeadSame), (31, S_iVoteSame), (34, S_iQcSame), (40, S_iBlockSame), (43, S_iTcSame), (46, S_iProofSame), (49, S_iInclSame)]
theorem t_iMsgSame : ∀ k x, runF tt (alook N_iMsgSame) k Tryz.f60 S_iMsgSame.ps S_iMsgSame.res (alook L_iMsgSame) x = S_iMsgSame.F k x := by intro k x; kernel_rfl
def L_sMakeNum : List (Nat × LSpec (denRs (S_sMakeNum.res ++ outM S_sMakeNum.ps))) := []
def N_sMakeNum : List (Nat × Sig) := [(87, S_sl01New), (90, S_sl01Below)]
theorem t_sMakeNum : ∀ k x, runF tt (alook N_sMakeNum) k Tryz.f28 S_sMakeNum.ps S_sMakeNum.res (alook L_sMakeNum) x = S_sMakeNum.F k x := by intro k x; kernel_rfl
end Go.Ev.G
