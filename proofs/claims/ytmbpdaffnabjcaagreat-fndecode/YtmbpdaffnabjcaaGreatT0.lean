/- The functions run in the evaluator as their plain functions say. No condition. -/
import Derived.Test.YtmbpdaffnabjcaaGreatS
set_option linter.unusedVariables false
set_option linter.unusedSimpArgs false
set_option linter.unusedSectionVars false
/- Proofs: printed by gen.py. -/
namespace Go.Ev.G
open Go.Ev Go.Proofs
set_option linter.unusedVariables false
def L_sShaInit : List (Nat × LSpec (denRs (S_sShaInit.res ++ outM S_sShaInit.ps))) := []
def N_sShaInit : List (Nat × Sig) := []
theorem t_sShaInit : ∀ k x, runF tt (alook N_sShaInit) k Tryz.f358 S_sShaInit.ps S_sShaInit.res (alook L_sShaInit) x = S_sShaInit.F k x := by intro k x; kernel_rfl
def L_sNodeHash : List (Nat × LSpec (denRs (S_sNodeHash.res ++ outM S_sNodeHash.ps))) := []
def N_sNodeHash : List (Nat × Sig) := [(305, S_sSha)]
theorem t_sNodeHash : ∀ k x, runF tt (alook N_sNodeHash) k Tryz.f383 S_sNodeHash.ps S_sNodeHash.res (alook L_sNodeHash) x = S_sNodeHash.F k x := by intro k x; kernel_rfl
def L_sl16Fits : List (Nat × LSpec (denRs (S_sl16Fits.res ++ outM S_sl16Fits.ps))) := []
def N_sl16Fits : List (Nat × Sig) := []
theorem t_sl16Fits : ∀ k x, runF tt (alook N_sl16Fits) k Tryz.f375 S_sl16Fits.ps S_sl16Fits.res (alook L_sl16Fits) x = S_sl16Fits.F k x := by intro k x; kernel_rfl
def L_sSplitAt_0 : LSpec (denRs (S_sSplitAt.res ++ outM S_sSplitAt.ps)) := .mk [(0, .sh i64), (3, .sh i64)] [(3, .sh i64)] [] fun k x => sSplitAt_l0 k x.1 x.2
def L_sSplitAt : List (Nat × LSpec (denRs (S_sSplitAt.res ++ outM S_sSplitAt.ps))) := [(0, L_sSplitAt_0)]
def N_sSplitAt : List (Nat × Sig) := []
theorem r_sSplitAt_0 : ∀ k, runL tt (alook N_sSplitAt) k Tryz.f373 S_sSplitAt.ps S_sSplitAt.res (alook L_sSplitAt) 0 L_sSplitAt_0 := by intro k x; kernel_rfl
theorem t_sSplitAt : ∀ k x, runF tt (alook N_sSplitAt) k Tryz.f373 S_sSplitAt.ps S_sSplitAt.res (alook L_sSplitAt) x = S_sSplitAt.F k x := by intro k x; kernel_rfl
def L_sl12Copy : List (Nat × LSpec (denRs (S_sl12Copy.res ++ outM S_sl12Copy.ps))) := []
def N_sl12Copy : List (Nat × Sig) := [(199, S_sl01Copy), (369, S_sl06Copy)]
theorem t_sl12Copy : ∀ k x, runF tt (alook N_sl12Copy) k Tryz.f333 S_sl12Copy.ps S_sl12Copy.res (alook L_sl12Copy) x = S_sl12Copy.F k x := by intro k x; kernel_rfl
def L_iwithin : List (Nat × LSpec (denRs (S_iwithin.res ++ outM S_iwithin.ps))) := []
def N_iwithin : List (Nat × Sig) := []
theorem t_iwithin : ∀ k x, runF tt (alook N_iwithin) k Tryz.f213 S_iwithin.ps S_iwithin.res (alook L_iwithin) x = S_iwithin.F k x := by intro k x; kernel_rfl
def L_icopyBytes : List (Nat × LSpec (denRs (S_icopyBytes.res ++ outM S_icopyBytes.ps))) := []
def N_icopyBytes : List (Nat × Sig) := []
theorem t_icopyBytes : ∀ k x, runF tt (alook N_icopyBytes) k Tryz.f108 S_icopyBytes.ps S_icopyBytes.res (alook L_icopyBytes) x = S_icopyBytes.F k x := by intro k x; kernel_rfl
def L_iShaPad_0 : LSpec (denRs (S_iShaPad.res ++ outM S_iShaPad.ps)) := .mk [(0, .sh bs), (3, .own u8 true)] [(0, .sh bs), (3, .own u8 true)] [] fun k x => iShaPad_l0 k x.1 x.2
def L_iShaPad_2 : LSpec (denRs (S_iShaPad.res ++ outM S_iShaPad.ps)) := .mk [(0, .sh bs), (3, .own u8 true), (4, .sh i64)] [(3, .own u8 true)] [] fun k x => iShaPad_l2 k x.1 x.2.1 x.2.2
def L_iShaPad : List (Nat × LSpec (denRs (S_iShaPad.res ++ outM S_iShaPad.ps))) := [(0, L_iShaPad_0), (2, L_iShaPad_2)]
def N_iShaPad : List (Nat × Sig) := [(108, S_icopyBytes)]
theorem r_iShaPad_0 : ∀ k, runL tt (alook N_iShaPad) k Tryz.f240 S_iShaPad.ps S_iShaPad.res (alook L_iShaPad) 0 L_iShaPad_0 := by intro k x; kernel_rfl
theorem r_iShaPad_2 : ∀ k, runL tt (alook N_iShaPad) k Tryz.f240 S_iShaPad.ps S_iShaPad.res (alook L_iShaPad) 2 L_iShaPad_2 := by intro k x; kernel_rfl
theorem t_iShaPad : ∀ k x, runF tt (alook N_iShaPad) k Tryz.f240 S_iShaPad.ps S_iShaPad.res (alook L_iShaPad) x = S_iShaPad.F k x := by intro k x; kernel_rfl
def L_sl02Signers : List (Nat × LSpec (denRs (S_sl02Signers.res ++ outM S_sl02Signers.ps))) := []
def N_sl02Signers : List (Nat × Sig) := [(271, S_sl01In)]
theorem t_sl02Signers : ∀ k x, runF tt (alook N_sl02Signers) k Tryz.f299 S_sl02Signers.ps S_sl02Signers.res (alook L_sl02Signers) x = S_sl02Signers.F k x := by intro k x; kernel_rfl
def L_sLimitsOk : List (Nat × LSpec (denRs (S_sLimitsOk.res ++ outM S_sLimitsOk.ps))) := []
def N_sLimitsOk : List (Nat × Sig) := [(271, S_sl01In), (299, S_sl02Signers)]
theorem t_sLimitsOk : ∀ k x, runF tt (alook N_sLimitsOk) k Tryz.f297 S_sLimitsOk.ps S_sLimitsOk.res (alook L_sLimitsOk) x = S_sLimitsOk.F k x := by intro k x; kernel_rfl
def L_sBitsSize : List (Nat × LSpec (denRs (S_sBitsSize.res ++ outM S_sBitsSize.ps))) := []
def N_sBitsSize : List (Nat × Sig) := []
theorem t_sBitsSize : ∀ k x, runF tt (alook N_sBitsSize) k Tryz.f208 S_sBitsSize.ps S_sBitsSize.res (alook L_sBitsSize) x = S_sBitsSize.F k x := by intro k x; kernel_rfl
def L_sBitsCount : List (Nat × LSpec (denRs (S_sBitsCount.res ++ outM S_sBitsCount.ps))) := []
def N_sBitsCount : List (Nat × Sig) := [(307, S_sBitsList)]
theorem t_sBitsCount : ∀ k x, runF tt (alook N_sBitsCount) k Tryz.f335 S_sBitsCount.ps S_sBitsCount.res (alook L_sBitsCount) x = S_sBitsCount.F k x := by intro k x; kernel_rfl
def L_sQcOk : List (Nat × LSpec (denRs (S_sQcOk.res ++ outM S_sQcOk.ps))) := []
def N_sQcOk : List (Nat × Sig) := [(297, S_sLimitsOk), (301, S_sl01Num), (302, S_sl07Hash), (306, S_sBitsOk), (335, S_sBitsCount), (357, S_sl08Hashes)]
theorem t_sQcOk : ∀ k x, runF tt (alook N_sQcOk) k Tryz.f303 S_sQcOk.ps S_sQcOk.res (alook L_sQcOk) x = S_sQcOk.F k x := by intro k x; kernel_rfl
def L_sPutText : List (Nat × LSpec (denRs (S_sPutText.res ++ outM S_sPutText.ps))) := []
def N_sPutText : List (Nat × Sig) := [(374, S_sPutVar)]
theorem t_sPutText : ∀ k x, runF tt (alook N_sPutText) k Tryz.f350 S_sPutText.ps S_sPutText.res (alook L_sPutText) x = S_sPutText.F k x := by intro k x; kernel_rfl
def L_sBlockOk_0 : LSpec (denRs (S_sBlockOk.res ++ outM S_sBlockOk.ps)) := .mkR [(2, .pbox (.sh tLimits)), (3, .pbox (.sh tBlock)), (21, .sh (.slice bs)), (22, .sh i64), (23, .sh i64)] [(3, .pbox (.sh tBlock))] [] fun k x => sBlockOk_l0 k x.1 x.2.1 x.2.2.1 x.2.2.2.1 x.2.2.2.2
def L_sBlockOk : List (Nat × LSpec (denRs (S_sBlockOk.res ++ outM S_sBlockOk.ps))) := [(0, L_sBlockOk_0)]
def N_sBlockOk : List (Nat × Sig) := [(202, S_sHeadOk), (309, S_sSameBytes), (370, S_sTreeRoot)]
theorem r_sBlockOk_0 : ∀ k, runL tt (alook N_sBlockOk) k Tryz.f349 S_sBlockOk.ps S_sBlockOk.res (alook L_sBlockOk) 0 L_sBlockOk_0 := by intro k x; kernel_rfl
theorem t_sBlockOk : ∀ k x, runF tt (alook N_sBlockOk) k Tryz.f349 S_sBlockOk.ps S_sBlockOk.res (alook L_sBlockOk) x = S_sBlockOk.F k x := by intro k x; kernel_rfl
def L_sl11Hash : List (Nat × LSpec (denRs (S_sl11Hash.res ++ outM S_sl11Hash.ps))) := []
def N_sl11Hash : List (Nat × Sig) := [(90, S_sl01Below), (203, S_sl01Byte)]
theorem t_sl11Hash : ∀ k x, runF tt (alook N_sl11Hash) k Tryz.f91 S_sl11Hash.ps S_sl11Hash.res (alook L_sl11Hash) x = S_sl11Hash.F k x := by intro k x; kernel_rfl
def L_sl01Once : List (Nat × LSpec (denRs (S_sl01Once.res ++ outM S_sl01Once.ps))) := []
def N_sl01Once : List (Nat × Sig) := [(90, S_sl01Below)]
theorem t_sl01Once : ∀ k x, runF tt (alook N_sl01Once) k Tryz.f156 S_sl01Once.ps S_sl01Once.res (alook L_sl01Once) x = S_sl01Once.F k x := by intro k x; kernel_rfl
def L_sPutHead : List (Nat × LSpec (denRs (S_sPutHead.res ++ outM S_sPutHead.ps))) := []
def N_sPutHead : List (Nat × Sig) := [(202, S_sHeadOk), (280, S_sPutQc), (348, S_sl11Num)]
theorem t_sPutHead : ∀ k x, runF tt (alook N_sPutHead) k Tryz.f281 S_sPutHead.ps S_sPutHead.res (alook L_sPutHead) x = S_sPutHead.F k x := by intro k x; kernel_rfl
def L_sHeadHash : List (Nat × LSpec (denRs (S_sHeadHash.res ++ outM S_sHeadHash.ps))) := []
def N_sHeadHash : List (Nat × Sig) := [(281, S_sPutHead), (305, S_sSha)]
theorem t_sHeadHash : ∀ k x, runF tt (alook N_sHeadHash) k Tryz.f204 S_sHeadHash.ps S_sHeadHash.res (alook L_sHeadHash) x = S_sHeadHash.F k x := by intro k x; kernel_rfl
def L_sl16Copy : List (Nat × LSpec (denRs (S_sl16Copy.res ++ outM S_sl16Copy.ps))) := []
def N_sl16Copy : List (Nat × Sig) := [(333, S_sl12Copy), (371, S_sl16Heads)]
theorem t_sl16Copy : ∀ k x, runF tt (alook N_sl16Copy) k Tryz.f341 S_sl16Copy.ps S_sl16Copy.res (alook L_sl16Copy) x = S_sl16Copy.F k x := by intro k x; kernel_rfl
def L_sBlockOf : List (Nat × LSpec (denRs (S_sBlockOf.res ++ outM S_sBlockOf.ps))) := []
def N_sBlockOf : List (Nat × Sig) := [(336, S_sl13Copy), (349, S_sBlockOk), (369, S_sl06Copy), (370, S_sTreeRoot)]
theorem t_sBlockOf : ∀ k x, runF tt (alook N_sBlockOf) k Tryz.f338 S_sBlockOf.ps S_sBlockOf.res (alook L_sBlockOf) x = S_sBlockOf.F k x := by intro k x; kernel_rfl
def L_iGetRaw : List (Nat × LSpec (denRs (S_iGetRaw.res ++ outM S_iGetRaw.ps))) := []
def N_iGetRaw : List (Nat × Sig) := [(108, S_icopyBytes), (213, S_iwithin)]
theorem t_iGetRaw : ∀ k x, runF tt (alook N_iGetRaw) k Tryz.f325 S_iGetRaw.ps S_iGetRaw.res (alook L_iGetRaw) x = S_iGetRaw.F k x := by intro k x; kernel_rfl
def L_iareHashes_0 : LSpec (denRs (S_iareHashes.res ++ outM S_iareHashes.ps)) := .mkR [(5, .sh (.slice bs)), (6, .sh i64), (7, .sh i64)] [] [] fun k x => iareHashes_l0 k x.1 x.2.1 x.2.2
def L_iareHashes : List (Nat × LSpec (denRs (S_iareHashes.res ++ outM S_iareHashes.ps))) := [(0, L_iareHashes_0)]
def N_iareHashes : List (Nat × Sig) := []
theorem r_iareHashes_0 : ∀ k, runL tt (alook N_iareHashes) k Tryz.f227 S_iareHashes.ps S_iareHashes.res (alook L_iareHashes) 0 L_iareHashes_0 := by intro k x; kernel_rfl
theorem t_iareHashes : ∀ k x, runF tt (alook N_iareHashes) k Tryz.f227 S_iareHashes.ps S_iareHashes.res (alook L_iareHashes) x = S_iareHashes.F k x := by intro k x; kernel_rfl
def L_iQcOk : List (Nat × LSpec (denRs (S_iQcOk.res ++ outM S_iQcOk.ps))) := []
def N_iQcOk : List (Nat × Sig) := [(149, S_iLimitsOk), (150, S_iisNum), (210, S_iBitsOk), (227, S_iareHashes), (236, S_iBitsCount)]
theorem t_iQcOk : ∀ k x, runF tt (alook N_iQcOk) k Tryz.f122 S_iQcOk.ps S_iQcOk.res (alook L_iQcOk) x = S_iQcOk.F k x := by intro k x; kernel_rfl
def L_iwriter_num : List (Nat × LSpec (denRs (S_iwriter_num.res ++ outM S_iwriter_num.ps))) := []
def N_iwriter_num : List (Nat × Sig) := [(232, S_iPutVar)]
theorem t_iwriter_num : ∀ k x, runF tt (alook N_iwriter_num) k Tryz.f118 S_iwriter_num.ps S_iwriter_num.res (alook L_iwriter_num) x = S_iwriter_num.F k x := by intro k x; kernel_rfl
def L_iwriter_head : List (Nat × LSpec (denRs (S_iwriter_head.res ++ outM S_iwriter_head.ps))) := []
def N_iwriter_head : List (Nat × Sig) := [(118, S_iwriter_num), (119, S_iwriter_raw), (123, S_iwriter_qc)]
theorem t_iwriter_head : ∀ k x, runF tt (alook N_iwriter_head) k Tryz.f127 S_iwriter_head.ps S_iwriter_head.res (alook L_iwriter_head) x = S_iwriter_head.F k x := by intro k x; kernel_rfl
def L_iHead_copied : List (Nat × LSpec (denRs (S_iHead_copied.res ++ outM S_iHead_copied.ps))) := []
def N_iHead_copied : List (Nat × Sig) := [(108, S_icopyBytes), (225, S_iQc_copied)]
theorem t_iHead_copied : ∀ k x, runF tt (alook N_iHead_copied) k Tryz.f112 S_iHead_copied.ps S_iHead_copied.res (alook L_iHead_copied) x = S_iHead_copied.F k x := by intro k x; kernel_rfl
def L_sPutVote : List (Nat × LSpec (denRs (S_sPutVote.res ++ outM S_sPutVote.ps))) := []
def N_sPutVote : List (Nat × Sig) := [(347, S_sVoteOk), (348, S_sl11Num)]
theorem t_sPutVote : ∀ k x, runF tt (alook N_sPutVote) k Tryz.f279 S_sPutVote.ps S_sPutVote.res (alook L_sPutVote) x = S_sPutVote.F k x := by intro k x; kernel_rfl
def L_sQcSame : List (Nat × LSpec (denRs (S_sQcSame.res ++ outM S_sQcSame.ps))) := []
def N_sQcSame : List (Nat × Sig) := [(309, S_sSameBytes), (346, S_sTreeSame)]
theorem t_sQcSame : ∀ k x, runF tt (alook N_sQcSame) k Tryz.f273 S_sQcSame.ps S_sQcSame.res (alook L_sQcSame) x = S_sQcSame.F k x := by intro k x; kernel_rfl
def L_iOfIncl : List (Nat × LSpec (denRs (S_iOfIncl.res ++ outM S_iOfIncl.ps))) := []
def N_iOfIncl : List (Nat × Sig) := [(296, S_iIncl_copied)]
theorem t_iOfIncl : ∀ k x, runF tt (alook N_iOfIncl) k Tryz.f266 S_iOfIncl.ps S_iOfIncl.res (alook L_iOfIncl) x = S_iOfIncl.F k x := by intro k x; kernel_rfl
def L_iOfHead : List (Nat × LSpec (denRs (S_iOfHead.res ++ outM S_iOfHead.ps))) := []
def N_iOfHead : List (Nat × Sig) := [(112, S_iHead_copied)]
theorem t_iOfHead : ∀ k x, runF tt (alook N_iOfHead) k Tryz.f263 S_iOfHead.ps S_iOfHead.res (alook L_iOfHead) x = S_iOfHead.F k x := by intro k x; kernel_rfl
def L_sOfIncl : List (Nat × LSpec (denRs (S_sOfIncl.res ++ outM S_sOfIncl.ps))) := []
def N_sOfIncl : List (Nat × Sig) := [(343, S_sl16Incl)]
theorem t_sOfIncl : ∀ k x, runF tt (alook N_sOfIncl) k Tryz.f259 S_sOfIncl.ps S_sOfIncl.res (alook L_sOfIncl) x = S_sOfIncl.F k x := by intro k x; kernel_rfl
def L_sl14Draw : List (Nat × LSpec (denRs (S_sl14Draw.res ++ outM S_sl14Draw.ps))) := []
def N_sl14Draw : List (Nat × Sig) := [(252, S_sl13Draw), (338, S_sBlockOf), (339, S_sl14Txs)]
theorem t_sl14Draw : ∀ k x, runF tt (alook N_sl14Draw) k Tryz.f254 S_sl14Draw.ps S_sl14Draw.res (alook L_sl14Draw) x = S_sl14Draw.F k x := by intro k x; kernel_rfl
def L_sOfQc : List (Nat × LSpec (denRs (S_sOfQc.res ++ outM S_sOfQc.ps))) := []
def N_sOfQc : List (Nat × Sig) := [(333, S_sl12Copy)]
theorem t_sOfQc : ∀ k x, runF tt (alook N_sOfQc) k Tryz.f249 S_sOfQc.ps S_sOfQc.res (alook L_sOfQc) x = S_sOfQc.F k x := by intro k x; kernel_rfl
def L_sl17Only : List (Nat × LSpec (denRs (S_sl17Only.res ++ outM S_sl17Only.ps))) := []
def N_sl17Only : List (Nat × Sig) := [(230, S_sOfVote), (249, S_sOfQc), (251, S_sOfHead), (253, S_sOfBlock), (255, S_sOfTc), (257, S_sOfProof), (259, S_sOfIncl)]
theorem t_sl17Only : ∀ k x, runF tt (alook N_sl17Only) k Tryz.f168 S_sl17Only.ps S_sl17Only.res (alook L_sl17Only) x = S_sl17Only.F k x := by intro k x; kernel_rfl
def L_iTreeRoot : List (Nat × LSpec (denRs (S_iTreeRoot.res ++ outM S_iTreeRoot.ps))) := []
def N_iTreeRoot : List (Nat × Sig) := [(130, S_iSha), (224, S_iLeafHash), (329, S_iSplitAt), (330, S_iNodeHash)]
theorem t_iTreeRoot : ∀ k x, runF tt (alook ((242, S_iTreeRoot) :: N_iTreeRoot)) k Tryz.f242 S_iTreeRoot.ps S_iTreeRoot.res (alook L_iTreeRoot) x = S_iTreeRoot.F (k + 1) x := by intro k x; kernel_rfl
def L_icopyHeads_0 : LSpec (denRs (S_icopyHeads.res ++ outM S_icopyHeads.ps)) := .mk [(3, .own tHead true), (7, .sh (.slice tHead)), (8, .sh i64), (9, .sh i64)] [(3, .own tHead true)] [] fun k x => icopyHeads_l0 k x.1 x.2.1 x.2.2.1 x.2.2.2
def L_icopyHeads : List (Nat × LSpec (denRs (S_icopyHeads.res ++ outM S_icopyHeads.ps))) := [(0, L_icopyHeads_0)]
def N_icopyHeads : List (Nat × Sig) := [(112, S_iHead_copied)]
theorem r_icopyHeads_0 : ∀ k, runL tt (alook N_icopyHeads) k Tryz.f97 S_icopyHeads.ps S_icopyHeads.res (alook L_icopyHeads) 0 L_icopyHeads_0 := by intro k x; kernel_rfl
theorem t_icopyHeads : ∀ k x, runF tt (alook N_icopyHeads) k Tryz.f97 S_icopyHeads.ps S_icopyHeads.res (alook L_icopyHeads) x = S_icopyHeads.F k x := by intro k x; kernel_rfl
def L_iBlockOk_0 : LSpec (denRs (S_iBlockOk.res ++ outM S_iBlockOk.ps)) := .mkR [(2, .pbox (.sh tLimits)), (3, .pbox (.sh tBlock)), (8, .sh (.slice bs)), (9, .sh i64), (10, .sh i64)] [(2, .pbox (.sh tLimits)), (3, .pbox (.sh tBlock))] [] fun k x => iBlockOk_l0 k x.1 x.2.1 x.2.2.1 x.2.2.2.1 x.2.2.2.2
def L_iBlockOk : List (Nat × LSpec (denRs (S_iBlockOk.res ++ outM S_iBlockOk.ps))) := [(0, L_iBlockOk_0)]
def N_iBlockOk : List (Nat × Sig) := [(65, S_iSameBytes), (110, S_iHeadOk), (242, S_iTreeRoot)]
theorem r_iBlockOk_0 : ∀ k, runL tt (alook N_iBlockOk) k Tryz.f131 S_iBlockOk.ps S_iBlockOk.res (alook L_iBlockOk) 0 L_iBlockOk_0 := by intro k x; kernel_rfl
theorem t_iBlockOk : ∀ k x, runF tt (alook N_iBlockOk) k Tryz.f131 S_iBlockOk.ps S_iBlockOk.res (alook L_iBlockOk) x = S_iBlockOk.F k x := by intro k x; kernel_rfl
def L_iMsg_put : List (Nat × LSpec (denRs (S_iMsg_put.res ++ outM S_iMsg_put.ps))) := []
def N_iMsg_put : List (Nat × Sig) := [(29, S_iPutVote), (32, S_iPutQc), (35, S_iPutHead), (38, S_iPutBlock), (41, S_iPutTc), (44, S_iPutProof), (47, S_iPutIncl)]
theorem t_iMsg_put : ∀ k x, runF tt (alook N_iMsg_put) k Tryz.f153 S_iMsg_put.ps S_iMsg_put.res (alook L_iMsg_put) x = S_iMsg_put.F k x := by intro k x; kernel_rfl
def L_iget_implHead : List (Nat × LSpec (denRs (S_iget_implHead.res ++ outM S_iget_implHead.ps))) := []
def N_iget_implHead : List (Nat × Sig) := [(129, S_ireadHead), (149, S_iLimitsOk)]
theorem t_iget_implHead : ∀ k x, runF tt (alook N_iget_implHead) k Tryz.f128 S_iget_implHead.ps S_iget_implHead.res (alook L_iget_implHead) x = S_iget_implHead.F k x := by intro k x; kernel_rfl
def L_ireadTc_0 : LSpec (denRs (S_ireadTc.res ++ outM S_ireadTc.ps)) := .mk [(1, .pbox (.sh tl01Cur)), (2, .pbox (.sh tLimits)), (4, .pbox (.pair (.sh i64) (.pair (.own tEntry false) .unit))), (5, .pbox (.pair (.sh i64) (.pair (.own tEntry false) .unit))), (6, .sh i64), (7, .sh i64), (8, .sh i64)] [(1, .pbox (.sh tl01Cur)), (4, .pbox (.pair (.sh i64) (.pair (.own tEntry false) .unit))), (5, .pbox (.pair (.sh i64) (.pair (.own tEntry false) .unit)))] [] fun k x => ireadTc_l0 k x.1 x.2.1 x.2.2.1 x.2.2.2.1 x.2.2.2.2.1 x.2.2.2.2.2.1 x.2.2.2.2.2.2
def L_ireadTc : List (Nat × LSpec (denRs (S_ireadTc.res ++ outM S_ireadTc.ps))) := [(0, L_ireadTc_0)]
def N_ireadTc : List (Nat × Sig) := [(233, S_ireader_num), (234, S_ireader_hash), (235, S_ireader_below), (238, S_ireader_must)]
theorem r_ireadTc_0 : ∀ k, runL tt (alook N_ireadTc) k Tryz.f137 S_ireadTc.ps S_ireadTc.res (alook L_ireadTc) 0 L_ireadTc_0 := by intro k x; kernel_rfl
theorem t_ireadTc : ∀ k x, runF tt (alook N_ireadTc) k Tryz.f137 S_ireadTc.ps S_ireadTc.res (alook L_ireadTc) x = S_ireadTc.F k x := by intro k x; kernel_rfl
def L_iHeadSame : List (Nat × LSpec (denRs (S_iHeadSame.res ++ outM S_iHeadSame.ps))) := []
def N_iHeadSame : List (Nat × Sig) := [(34, S_iQcSame), (65, S_iSameBytes)]
theorem t_iHeadSame : ∀ k x, runF tt (alook N_iHeadSame) k Tryz.f24 S_iHeadSame.ps S_iHeadSame.res (alook L_iHeadSame) x = S_iHeadSame.F k x := by intro k x; kernel_rfl
def L_iTcSame_0 : LSpec (denRs (S_iTcSame.res ++ outM S_iTcSame.ps)) := .mkR [(2, .pbox (.sh tTc)), (3, .pbox (.sh tTc)), (22, .sh i64), (23, .sh i64)] [] [] fun k x => iTcSame_l0 k x.1 x.2.1 x.2.2.1 x.2.2.2
def L_iTcSame : List (Nat × LSpec (denRs (S_iTcSame.res ++ outM S_iTcSame.ps))) := [(0, L_iTcSame_0)]
def N_iTcSame : List (Nat × Sig) := [(138, S_ientrySame)]
theorem r_iTcSame_0 : ∀ k, runL tt (alook N_iTcSame) k Tryz.f43 S_iTcSame.ps S_iTcSame.res (alook L_iTcSame) 0 L_iTcSame_0 := by intro k x; kernel_rfl
theorem t_iTcSame : ∀ k x, runF tt (alook N_iTcSame) k Tryz.f43 S_iTcSame.ps S_iTcSame.res (alook L_iTcSame) x = S_iTcSame.F k x := by intro k x; kernel_rfl
def L_iMsgOk : List (Nat × LSpec (denRs (S_iMsgOk.res ++ outM S_iMsgOk.ps))) := []
def N_iMsgOk : List (Nat × Sig) := [(60, S_iMsgSame), (153, S_iMsg_put), (158, S_iMsg_alone)]
theorem t_iMsgOk : ∀ k x, runF tt (alook N_iMsgOk) k Tryz.f64 S_iMsgOk.ps S_iMsgOk.res (alook L_iMsgOk) x = S_iMsgOk.F k x := by intro k x; kernel_rfl
def L_sMakeMsg : List (Nat × LSpec (denRs (S_sMakeMsg.res ++ outM S_sMakeMsg.ps))) := []
def N_sMakeMsg : List (Nat × Sig) := [(87, S_sl01New), (116, S_sl31Right)]
theorem t_sMakeMsg : ∀ k x, runF tt (alook N_sMakeMsg) k Tryz.f27 S_sMakeMsg.ps S_sMakeMsg.res (alook L_sMakeMsg) x = S_sMakeMsg.F k x := by intro k x; kernel_rfl
end Go.Ev.G
