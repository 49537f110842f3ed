/- The functions run in the evaluator as their plain functions say. No condition. -/
import Derived.Test.YtmbpdaffnabjcaaGreatS
set_option linter.unusedVariables false
set_option linter.unusedSimpArgs false
set_option linter.unusedSectionVars false
/- Proofs: printed by gen.py. -/
namespace Go.Ev.G
open Go.Ev Go.Proofs
set_option linter.unusedVariables false
def L_sl01Copy : List (Nat × LSpec (denRs (S_sl01Copy.res ++ outM S_sl01Copy.ps))) := []
def N_sl01Copy : List (Nat × Sig) := []
theorem t_sl01Copy : ∀ k x, runF tt (alook N_sl01Copy) k Tryz.f199 S_sl01Copy.ps S_sl01Copy.res (alook L_sl01Copy) x = S_sl01Copy.F k x := by intro k x; kernel_rfl
def L_sl04K : List (Nat × LSpec (denRs (S_sl04K.res ++ outM S_sl04K.ps))) := []
def N_sl04K : List (Nat × Sig) := []
theorem t_sl04K : ∀ k x, runF tt (alook N_sl04K) k Tryz.f380 S_sl04K.ps S_sl04K.res (alook L_sl04K) x = S_sl04K.F k x := by intro k x; kernel_rfl
def L_sl08In : List (Nat × LSpec (denRs (S_sl08In.res ++ outM S_sl08In.ps))) := []
def N_sl08In : List (Nat × Sig) := [(271, S_sl01In)]
theorem t_sl08In : ∀ k x, runF tt (alook N_sl08In) k Tryz.f372 S_sl08In.ps S_sl08In.res (alook L_sl08In) x = S_sl08In.F k x := by intro k x; kernel_rfl
def L_sl13Copy : List (Nat × LSpec (denRs (S_sl13Copy.res ++ outM S_sl13Copy.ps))) := []
def N_sl13Copy : List (Nat × Sig) := [(199, S_sl01Copy), (333, S_sl12Copy)]
theorem t_sl13Copy : ∀ k x, runF tt (alook N_sl13Copy) k Tryz.f336 S_sl13Copy.ps S_sl13Copy.res (alook L_sl13Copy) x = S_sl13Copy.F k x := by intro k x; kernel_rfl
def L_iisNum : List (Nat × LSpec (denRs (S_iisNum.res ++ outM S_iisNum.ps))) := []
def N_iisNum : List (Nat × Sig) := [(213, S_iwithin)]
theorem t_iisNum : ∀ k x, runF tt (alook N_iisNum) k Tryz.f150 S_iisNum.ps S_iisNum.res (alook L_iisNum) x = S_iisNum.F k x := by intro k x; kernel_rfl
def L_iShaInit : List (Nat × LSpec (denRs (S_iShaInit.res ++ outM S_iShaInit.ps))) := []
def N_iShaInit : List (Nat × Sig) := []
theorem t_iShaInit : ∀ k x, runF tt (alook N_iShaInit) k Tryz.f239 S_iShaInit.ps S_iShaInit.res (alook L_iShaInit) x = S_iShaInit.F k x := by intro k x; kernel_rfl
def L_iisWord : List (Nat × LSpec (denRs (S_iisWord.res ++ outM S_iisWord.ps))) := []
def N_iisWord : List (Nat × Sig) := [(213, S_iwithin)]
theorem t_iisWord : ∀ k x, runF tt (alook N_iisWord) k Tryz.f326 S_iisWord.ps S_iisWord.res (alook L_iisWord) x = S_iisWord.F k x := by intro k x; kernel_rfl
def L_iShaBlock_0 : LSpec (denRs (S_iShaBlock.res ++ outM S_iShaBlock.ps)) := .mkR [(0, .sh is), (1, .sh bs), (33, .sh is), (34, .sh i64), (35, .sh i64)] [(0, .sh is), (1, .sh bs)] [] fun k x => iShaBlock_l0 k x.1 x.2.1 x.2.2.1 x.2.2.2.1 x.2.2.2.2
def L_iShaBlock_2 : LSpec (denRs (S_iShaBlock.res ++ outM S_iShaBlock.ps)) := .mk [(0, .sh is), (1, .sh bs), (7, .pbox (.sh (.arr 64 i64))), (8, .own i64 true), (9, .pbox (.sh (.arr 8 i64))), (46, .sh i64)] [(0, .sh is), (7, .pbox (.sh (.arr 64 i64))), (8, .own i64 true), (9, .pbox (.sh (.arr 8 i64)))] [] fun k x => iShaBlock_l2 k x.1 x.2.1 x.2.2.1 x.2.2.2.1 x.2.2.2.2.1 x.2.2.2.2.2
def L_iShaBlock_4 : LSpec (denRs (S_iShaBlock.res ++ outM S_iShaBlock.ps)) := .mk [(0, .sh is), (7, .pbox (.sh (.arr 64 i64))), (8, .own i64 true), (9, .pbox (.sh (.arr 8 i64))), (11, .sh i64)] [(0, .sh is), (7, .pbox (.sh (.arr 64 i64))), (8, .own i64 true), (9, .pbox (.sh (.arr 8 i64)))] [] fun k x => iShaBlock_l4 k x.1 x.2.1 x.2.2.1 x.2.2.2.1 x.2.2.2.2
def L_iShaBlock_6 : LSpec (denRs (S_iShaBlock.res ++ outM S_iShaBlock.ps)) := .mk [(0, .sh is), (7, .pbox (.sh (.arr 64 i64))), (8, .own i64 true), (9, .pbox (.sh (.arr 8 i64))), (132, .sh i64)] [(0, .sh is), (9, .pbox (.sh (.arr 8 i64)))] [] fun k x => iShaBlock_l6 k x.1 x.2.1 x.2.2.1 x.2.2.2.1 x.2.2.2.2
def L_iShaBlock_8 : LSpec (denRs (S_iShaBlock.res ++ outM S_iShaBlock.ps)) := .mk [(0, .sh is), (9, .pbox (.sh (.arr 8 i64))), (23, .own i64 true), (218, .sh i64)] [(23, .own i64 true)] [] fun k x => iShaBlock_l8 k x.1 x.2.1 x.2.2.1 x.2.2.2
def L_iShaBlock : List (Nat × LSpec (denRs (S_iShaBlock.res ++ outM S_iShaBlock.ps))) := [(0, L_iShaBlock_0), (2, L_iShaBlock_2), (4, L_iShaBlock_4), (6, L_iShaBlock_6), (8, L_iShaBlock_8)]
def N_iShaBlock : List (Nat × Sig) := [(326, S_iisWord), (327, S_irounds), (328, S_iTurnRight)]
theorem r_iShaBlock_0 : ∀ k, runL tt (alook N_iShaBlock) k Tryz.f241 S_iShaBlock.ps S_iShaBlock.res (alook L_iShaBlock) 0 L_iShaBlock_0 := by intro k x; kernel_rfl
theorem r_iShaBlock_2 : ∀ k, runL tt (alook N_iShaBlock) k Tryz.f241 S_iShaBlock.ps S_iShaBlock.res (alook L_iShaBlock) 2 L_iShaBlock_2 := by intro k x; kernel_rfl
theorem r_iShaBlock_4 : ∀ k, runL tt (alook N_iShaBlock) k Tryz.f241 S_iShaBlock.ps S_iShaBlock.res (alook L_iShaBlock) 4 L_iShaBlock_4 := by intro k x; kernel_rfl
theorem r_iShaBlock_6 : ∀ k, runL tt (alook N_iShaBlock) k Tryz.f241 S_iShaBlock.ps S_iShaBlock.res (alook L_iShaBlock) 6 L_iShaBlock_6 := by intro k x; kernel_rfl
theorem r_iShaBlock_8 : ∀ k, runL tt (alook N_iShaBlock) k Tryz.f241 S_iShaBlock.ps S_iShaBlock.res (alook L_iShaBlock) 8 L_iShaBlock_8 := by intro k x; kernel_rfl
theorem t_iShaBlock : ∀ k x, runF tt (alook N_iShaBlock) k Tryz.f241 S_iShaBlock.ps S_iShaBlock.res (alook L_iShaBlock) x = S_iShaBlock.F k x := by intro k x; kernel_rfl
def L_sl14Copy : List (Nat × LSpec (denRs (S_sl14Copy.res ++ outM S_sl14Copy.ps))) := []
def N_sl14Copy : List (Nat × Sig) := [(336, S_sl13Copy), (369, S_sl06Copy)]
theorem t_sl14Copy : ∀ k x, runF tt (alook N_sl14Copy) k Tryz.f337 S_sl14Copy.ps S_sl14Copy.res (alook L_sl14Copy) x = S_sl14Copy.F k x := by intro k x; kernel_rfl
def L_iNodeHash : List (Nat × LSpec (denRs (S_iNodeHash.res ++ outM S_iNodeHash.ps))) := []
def N_iNodeHash : List (Nat × Sig) := [(130, S_iSha)]
theorem t_iNodeHash : ∀ k x, runF tt (alook N_iNodeHash) k Tryz.f330 S_iNodeHash.ps S_iNodeHash.res (alook L_iNodeHash) x = S_iNodeHash.F k x := by intro k x; kernel_rfl
def L_ireader_raw : List (Nat × LSpec (denRs (S_ireader_raw.res ++ outM S_ireader_raw.ps))) := []
def N_ireader_raw : List (Nat × Sig) := [(325, S_iGetRaw)]
theorem t_ireader_raw : ∀ k x, runF tt (alook N_ireader_raw) k Tryz.f323 S_ireader_raw.ps S_ireader_raw.res (alook L_ireader_raw) x = S_ireader_raw.F k x := by intro k x; kernel_rfl
def L_iBitsHas : List (Nat × LSpec (denRs (S_iBitsHas.res ++ outM S_iBitsHas.ps))) := []
def N_iBitsHas : List (Nat × Sig) := [(213, S_iwithin)]
theorem t_iBitsHas : ∀ k x, runF tt (alook N_iBitsHas) k Tryz.f311 S_iBitsHas.ps S_iBitsHas.res (alook L_iBitsHas) x = S_iBitsHas.F k x := by intro k x; kernel_rfl
def L_math_bits_OnesCount8 : List (Nat × LSpec (denRs (S_math_bits_OnesCount8.res ++ outM S_math_bits_OnesCount8.ps))) := []
def N_math_bits_OnesCount8 : List (Nat × Sig) := []
theorem t_math_bits_OnesCount8 : ∀ k x, runF tt (alook N_math_bits_OnesCount8) k Tryz.f324 S_math_bits_OnesCount8.ps S_math_bits_OnesCount8.res (alook L_math_bits_OnesCount8) x = S_math_bits_OnesCount8.F k x := by intro k x; kernel_rfl
def L_iwriter_raw : List (Nat × LSpec (denRs (S_iwriter_raw.res ++ outM S_iwriter_raw.ps))) := []
def N_iwriter_raw : List (Nat × Sig) := []
theorem t_iwriter_raw : ∀ k x, runF tt (alook N_iwriter_raw) k Tryz.f119 S_iwriter_raw.ps S_iwriter_raw.res (alook L_iwriter_raw) x = S_iwriter_raw.F k x := by intro k x; kernel_rfl
def L_iPutHead : List (Nat × LSpec (denRs (S_iPutHead.res ++ outM S_iPutHead.ps))) := []
def N_iPutHead : List (Nat × Sig) := [(108, S_icopyBytes), (110, S_iHeadOk), (127, S_iwriter_head)]
theorem t_iPutHead : ∀ k x, runF tt (alook N_iPutHead) k Tryz.f35 S_iPutHead.ps S_iPutHead.res (alook L_iPutHead) x = S_iPutHead.F k x := by intro k x; kernel_rfl
def L_iTc_copied_0 : LSpec (denRs (S_iTc_copied.res ++ outM S_iTc_copied.ps)) := .mk [(2, .pbox (.pair (.sh i64) (.pair (.own tEntry false) .unit))), (3, .pbox (.pair (.sh i64) (.pair (.own tEntry false) .unit))), (10, .sh (.slice tEntry)), (11, .sh i64), (12, .sh i64)] [(2, .pbox (.pair (.sh i64) (.pair (.own tEntry false) .unit))), (3, .pbox (.pair (.sh i64) (.pair (.own tEntry false) .unit)))] [] fun k x => iTc_copied_l0 k x.1 x.2.1 x.2.2.1 x.2.2.2.1 x.2.2.2.2
def L_iTc_copied : List (Nat × LSpec (denRs (S_iTc_copied.res ++ outM S_iTc_copied.ps))) := [(0, L_iTc_copied_0)]
def N_iTc_copied : List (Nat × Sig) := [(108, S_icopyBytes)]
theorem r_iTc_copied_0 : ∀ k, runL tt (alook N_iTc_copied) k Tryz.f295 S_iTc_copied.ps S_iTc_copied.res (alook L_iTc_copied) 0 L_iTc_copied_0 := by intro k x; kernel_rfl
theorem t_iTc_copied : ∀ k x, runF tt (alook N_iTc_copied) k Tryz.f295 S_iTc_copied.ps S_iTc_copied.res (alook L_iTc_copied) x = S_iTc_copied.F k x := by intro k x; kernel_rfl
def L_sInclSame : List (Nat × LSpec (denRs (S_sInclSame.res ++ outM S_sInclSame.ps))) := []
def N_sInclSame : List (Nat × Sig) := [(309, S_sSameBytes), (346, S_sTreeSame)]
theorem t_sInclSame : ∀ k x, runF tt (alook N_sInclSame) k Tryz.f278 S_sInclSame.ps S_sInclSame.res (alook L_sInclSame) x = S_sInclSame.F k x := by intro k x; kernel_rfl
def L_sBlockSame : List (Nat × LSpec (denRs (S_sBlockSame.res ++ outM S_sBlockSame.ps))) := []
def N_sBlockSame : List (Nat × Sig) := [(274, S_sHeadSame), (346, S_sTreeSame)]
theorem t_sBlockSame : ∀ k x, runF tt (alook N_sBlockSame) k Tryz.f275 S_sBlockSame.ps S_sBlockSame.res (alook L_sBlockSame) x = S_sBlockSame.F k x := by intro k x; kernel_rfl
def L_iOfTc : List (Nat × LSpec (denRs (S_iOfTc.res ++ outM S_iOfTc.ps))) := []
def N_iOfTc : List (Nat × Sig) := [(295, S_iTc_copied)]
theorem t_iOfTc : ∀ k x, runF tt (alook N_iOfTc) k Tryz.f265 S_iOfTc.ps S_iOfTc.res (alook L_iOfTc) x = S_iOfTc.F k x := by intro k x; kernel_rfl
def L_iOfVote : List (Nat × LSpec (denRs (S_iOfVote.res ++ outM S_iOfVote.ps))) := []
def N_iOfVote : List (Nat × Sig) := [(108, S_icopyBytes)]
theorem t_iOfVote : ∀ k x, runF tt (alook N_iOfVote) k Tryz.f261 S_iOfVote.ps S_iOfVote.res (alook L_iOfVote) x = S_iOfVote.F k x := by intro k x; kernel_rfl
def L_sOfTc : List (Nat × LSpec (denRs (S_sOfTc.res ++ outM S_sOfTc.ps))) := []
def N_sOfTc : List (Nat × Sig) := [(340, S_sl15Copy)]
theorem t_sOfTc : ∀ k x, runF tt (alook N_sOfTc) k Tryz.f255 S_sOfTc.ps S_sOfTc.res (alook L_sOfTc) x = S_sOfTc.F k x := by intro k x; kernel_rfl
def L_sl11Draw : List (Nat × LSpec (denRs (S_sl11Draw.res ++ outM S_sl11Draw.ps))) := []
def N_sl11Draw : List (Nat × Sig) := [(90, S_sl01Below), (91, S_sl11Hash), (321, S_sl01AnyNum)]
theorem t_sl11Draw : ∀ k x, runF tt (alook N_sl11Draw) k Tryz.f231 S_sl11Draw.ps S_sl11Draw.res (alook L_sl11Draw) x = S_sl11Draw.F k x := by intro k x; kernel_rfl
def L_sMsgSame : List (Nat × LSpec (denRs (S_sMsgSame.res ++ outM S_sMsgSame.ps))) := []
def N_sMsgSame : List (Nat × Sig) := [(272, S_sVoteSame), (273, S_sQcSame), (274, S_sHeadSame), (275, S_sBlockSame), (276, S_sTcSame), (277, S_sProofSame), (278, S_sInclSame)]
theorem t_sMsgSame : ∀ k x, runF tt (alook N_sMsgSame) k Tryz.f167 S_sMsgSame.ps S_sMsgSame.res (alook L_sMsgSame) x = S_sMsgSame.F k x := by intro k x; kernel_rfl
def L_ireader_must : List (Nat × LSpec (denRs (S_ireader_must.res ++ outM S_ireader_must.ps))) := []
def N_ireader_must : List (Nat × Sig) := []
theorem t_ireader_must : ∀ k x, runF tt (alook N_ireader_must) k Tryz.f238 S_ireader_must.ps S_ireader_must.res (alook L_ireader_must) x = S_ireader_must.F k x := by intro k x; kernel_rfl
def L_ireader_hash : List (Nat × LSpec (denRs (S_ireader_hash.res ++ outM S_ireader_hash.ps))) := []
def N_ireader_hash : List (Nat × Sig) := [(323, S_ireader_raw)]
theorem t_ireader_hash : ∀ k x, runF tt (alook N_ireader_hash) k Tryz.f234 S_ireader_hash.ps S_ireader_hash.res (alook L_ireader_hash) x = S_ireader_hash.F k x := by intro k x; kernel_rfl
def L_iVoteSame : List (Nat × LSpec (denRs (S_iVoteSame.res ++ outM S_iVoteSame.ps))) := []
def N_iVoteSame : List (Nat × Sig) := [(65, S_iSameBytes)]
theorem t_iVoteSame : ∀ k x, runF tt (alook N_iVoteSame) k Tryz.f31 S_iVoteSame.ps S_iVoteSame.res (alook L_iVoteSame) x = S_iVoteSame.F k x := by intro k x; kernel_rfl
def L_iVoteOk : List (Nat × LSpec (denRs (S_iVoteOk.res ++ outM S_iVoteOk.ps))) := []
def N_iVoteOk : List (Nat × Sig) := [(149, S_iLimitsOk), (150, S_iisNum), (213, S_iwithin), (227, S_iareHashes)]
theorem t_iVoteOk : ∀ k x, runF tt (alook N_iVoteOk) k Tryz.f117 S_iVoteOk.ps S_iVoteOk.res (alook L_iVoteOk) x = S_iVoteOk.F k x := by intro k x; kernel_rfl
def L_iPutText : List (Nat × LSpec (denRs (S_iPutText.res ++ outM S_iPutText.ps))) := []
def N_iPutText : List (Nat × Sig) := [(232, S_iPutVar)]
theorem t_iPutText : ∀ k x, runF tt (alook N_iPutText) k Tryz.f132 S_iPutText.ps S_iPutText.res (alook L_iPutText) x = S_iPutText.F k x := by intro k x; kernel_rfl
def L_iPutProof_0 : LSpec (denRs (S_iPutProof.res ++ outM S_iPutProof.ps)) := .mk [(5, .pbox (.sh tProof)), (8, .pbox (.pair (.own u8 false) .unit)), (25, .sh (.slice tHead)), (26, .sh i64), (27, .sh i64)] [(5, .pbox (.sh tProof)), (8, .pbox (.pair (.own u8 false) .unit))] [] fun k x => iPutProof_l0 k x.1 x.2.1 x.2.2.1 x.2.2.2.1 x.2.2.2.2
def L_iPutProof : List (Nat × LSpec (denRs (S_iPutProof.res ++ outM S_iPutProof.ps))) := [(0, L_iPutProof_0)]
def N_iPutProof : List (Nat × Sig) := [(98, S_iProofOk), (108, S_icopyBytes), (118, S_iwriter_num), (123, S_iwriter_qc), (127, S_iwriter_head)]
theorem r_iPutProof_0 : ∀ k, runL tt (alook N_iPutProof) k Tryz.f44 S_iPutProof.ps S_iPutProof.res (alook L_iPutProof) 0 L_iPutProof_0 := by intro k x; kernel_rfl
theorem t_iPutProof : ∀ k x, runF tt (alook N_iPutProof) k Tryz.f44 S_iPutProof.ps S_iPutProof.res (alook L_iPutProof) x = S_iPutProof.F k x := by intro k x; kernel_rfl
def L_ireadQc_0 : LSpec (denRs (S_ireadQc.res ++ outM S_ireadQc.ps)) := .mk [(1, .pbox (.sh tl01Cur)), (4, .pbox (.pair (.sh i64) (.pair (.sh i64) (.pair (.own u8 false) (.pair (.own u8 false) (.pair (.own bs false) .unit)))))), (5, .pbox (.pair (.sh i64) (.pair (.sh i64) (.pair (.own u8 false) (.pair (.own u8 false) (.pair (.own bs false) .unit)))))), (43, .sh i64), (44, .sh i64)] [(1, .pbox (.sh tl01Cur)), (4, .pbox (.pair (.sh i64) (.pair (.sh i64) (.pair (.own u8 false) (.pair (.own u8 false) (.pair (.own bs false) .unit)))))), (5, .pbox (.pair (.sh i64) (.pair (.sh i64) (.pair (.own u8 false) (.pair (.own u8 false) (.pair (.own bs false) .unit))))))] [] fun k x => ireadQc_l0 k x.1 x.2.1 x.2.2.1 x.2.2.2.1 x.2.2.2.2
def L_ireadQc : List (Nat × LSpec (denRs (S_ireadQc.res ++ outM S_ireadQc.ps))) := [(0, L_ireadQc_0)]
def N_ireadQc : List (Nat × Sig) := [(233, S_ireader_num), (234, S_ireader_hash), (236, S_iBitsCount), (237, S_iGetBits)]
theorem r_ireadQc_0 : ∀ k, runL tt (alook N_ireadQc) k Tryz.f125 S_ireadQc.ps S_ireadQc.res (alook L_ireadQc) 0 L_ireadQc_0 := by intro k x; kernel_rfl
theorem t_ireadQc : ∀ k x, runF tt (alook N_ireadQc) k Tryz.f125 S_ireadQc.ps S_ireadQc.res (alook L_ireadQc) x = S_ireadQc.F k x := by intro k x; kernel_rfl
def L_iGetProof : List (Nat × LSpec (denRs (S_iGetProof.res ++ outM S_iGetProof.ps))) := []
def N_iGetProof : List (Nat × Sig) := [(139, S_iget_implProof)]
theorem t_iGetProof : ∀ k x, runF tt (alook N_iGetProof) k Tryz.f45 S_iGetProof.ps S_iGetProof.res (alook L_iGetProof) x = S_iGetProof.F k x := by intro k x; kernel_rfl
def L_iget_implIncl : List (Nat × LSpec (denRs (S_iget_implIncl.res ++ outM S_iget_implIncl.ps))) := []
def N_iget_implIncl : List (Nat × Sig) := [(143, S_ireadIncl), (149, S_iLimitsOk)]
theorem t_iget_implIncl : ∀ k x, runF tt (alook N_iget_implIncl) k Tryz.f142 S_iget_implIncl.ps S_iget_implIncl.res (alook L_iget_implIncl) x = S_iget_implIncl.F k x := by intro k x; kernel_rfl
def L_iQcSame : List (Nat × LSpec (denRs (S_iQcSame.res ++ outM S_iQcSame.ps))) := []
def N_iQcSame : List (Nat × Sig) := [(65, S_iSameBytes), (126, S_iTreeSame)]
theorem t_iQcSame : ∀ k x, runF tt (alook N_iQcSame) k Tryz.f34 S_iQcSame.ps S_iQcSame.res (alook L_iQcSame) x = S_iQcSame.F k x := by intro k x; kernel_rfl
def L_iBlockSame : List (Nat × LSpec (denRs (S_iBlockSame.res ++ outM S_iBlockSame.ps))) := []
def N_iBlockSame : List (Nat × Sig) := [(24, S_iHeadSame), (126, S_iTreeSame)]
theorem t_iBlockSame : ∀ k x, runF tt (alook N_iBlockSame) k Tryz.f40 S_iBlockSame.ps S_iBlockSame.res (alook L_iBlockSame) x = S_iBlockSame.F k x := by intro k x; kernel_rfl
def L_iInclSame : List (Nat × LSpec (denRs (S_iInclSame.res ++ outM S_iInclSame.ps))) := []
def N_iInclSame : List (Nat × Sig) := [(65, S_iSameBytes), (126, S_iTreeSame)]
theorem t_iInclSame : ∀ k x, runF tt (alook N_iInclSame) k Tryz.f49 S_iInclSame.ps S_iInclSame.res (alook L_iInclSame) x = S_iInclSame.F k x := by intro k x; kernel_rfl
def L_sl10Draw : List (Nat × LSpec (denRs (S_sl10Draw.res ++ outM S_sl10Draw.ps))) := []
def N_sl10Draw : List (Nat × Sig) := [(90, S_sl01Below), (229, S_sl01Pick)]
theorem t_sl10Draw : ∀ k x, runF tt (alook N_sl10Draw) k Tryz.f115 S_sl10Draw.ps S_sl10Draw.res (alook L_sl10Draw) x = S_sl10Draw.F k x := by intro k x; kernel_rfl
def L_iMsgSize : List (Nat × LSpec (denRs (S_iMsgSize.res ++ outM S_iMsgSize.ps))) := []
def N_iMsgSize : List (Nat × Sig) := [(58, S_iEncode)]
theorem t_iMsgSize : ∀ k x, runF tt (alook N_iMsgSize) k Tryz.f50 S_iMsgSize.ps S_iMsgSize.res (alook L_iMsgSize) x = S_iMsgSize.F k x := by intro k x; kernel_rfl
def L_wFnDecode : List (Nat × LSpec (denRs (S_wFnDecode.res ++ outM S_wFnDecode.ps))) := []
def N_wFnDecode : List (Nat × Sig) := [(26, S_sMakeLimits), (27, S_sMakeMsg), (28, S_sMakeNum), (50, S_iMsgSize), (58, S_iEncode), (59, S_iDecode), (60, S_iMsgSame), (61, S_iKindName)]
theorem t_wFnDecode : ∀ k x, runF tt (alook N_wFnDecode) k Tryz.f6 S_wFnDecode.ps S_wFnDecode.res (alook L_wFnDecode) x = S_wFnDecode.F k x := by intro k x; kernel_rfl
end Go.Ev.G
