/- The functions run in the evaluator as their plain functions say. No condition. -/
import Derived.Test.YtmbpdaffnabjcaaGreatS
set_option linter.unusedVariables false
set_option linter.unusedSimpArgs false
set_option linter.unusedSectionVars false
/- Proofs: printed by gen.py. -/
namespace Go.Ev.G
open Go.Ev Go.Proofs
set_option linter.unusedVariables false
def L_sShaPad_0 : LSpec (denRs (S_sShaPad.res ++ outM S_sShaPad.ps)) := .mk [(0, .sh bs), (3, .own u8 true)] [(0, .sh bs), (3, .own u8 true)] [] fun k x => sShaPad_l0 k x.1 x.2
def L_sShaPad_2 : LSpec (denRs (S_sShaPad.res ++ outM S_sShaPad.ps)) := .mk [(3, .own u8 true), (4, .sh i64), (5, .sh i64)] [(3, .own u8 true)] [] fun k x => sShaPad_l2 k x.1 x.2.1 x.2.2
def L_sShaPad : List (Nat × LSpec (denRs (S_sShaPad.res ++ outM S_sShaPad.ps))) := [(0, L_sShaPad_0), (2, L_sShaPad_2)]
def N_sShaPad : List (Nat × Sig) := [(199, S_sl01Copy)]
theorem r_sShaPad_0 : ∀ k, runL tt (alook N_sShaPad) k Tryz.f359 S_sShaPad.ps S_sShaPad.res (alook L_sShaPad) 0 L_sShaPad_0 := by intro k x; kernel_rfl
theorem r_sShaPad_2 : ∀ k, runL tt (alook N_sShaPad) k Tryz.f359 S_sShaPad.ps S_sShaPad.res (alook L_sShaPad) 2 L_sShaPad_2 := by intro k x; kernel_rfl
theorem t_sShaPad : ∀ k x, runF tt (alook N_sShaPad) k Tryz.f359 S_sShaPad.ps S_sShaPad.res (alook L_sShaPad) x = S_sShaPad.F k x := by intro k x; kernel_rfl
def L_sl06Copy_0 : LSpec (denRs (S_sl06Copy.res ++ outM S_sl06Copy.ps)) := .mk [(3, .own bs true), (7, .sh (.slice bs)), (8, .sh i64), (9, .sh i64)] [(3, .own bs true)] [] fun k x => sl06Copy_l0 k x.1 x.2.1 x.2.2.1 x.2.2.2
def L_sl06Copy : List (Nat × LSpec (denRs (S_sl06Copy.res ++ outM S_sl06Copy.ps))) := [(0, L_sl06Copy_0)]
def N_sl06Copy : List (Nat × Sig) := [(199, S_sl01Copy)]
theorem r_sl06Copy_0 : ∀ k, runL tt (alook N_sl06Copy) k Tryz.f369 S_sl06Copy.ps S_sl06Copy.res (alook L_sl06Copy) 0 L_sl06Copy_0 := by intro k x; kernel_rfl
theorem t_sl06Copy : ∀ k x, runF tt (alook N_sl06Copy) k Tryz.f369 S_sl06Copy.ps S_sl06Copy.res (alook L_sl06Copy) x = S_sl06Copy.F k x := by intro k x; kernel_rfl
def L_iPutVar_0 : LSpec (denRs (S_iPutVar.res ++ outM S_iPutVar.ps)) := .mk [(1, .sh i64), (6, .own u8 true)] [(1, .sh i64), (6, .own u8 true)] [] fun k x => iPutVar_l0 k x.1 x.2
def L_iPutVar : List (Nat × LSpec (denRs (S_iPutVar.res ++ outM S_iPutVar.ps))) := [(0, L_iPutVar_0)]
def N_iPutVar : List (Nat × Sig) := [(108, S_icopyBytes), (150, S_iisNum)]
theorem r_iPutVar_0 : ∀ k, runL tt (alook N_iPutVar) k Tryz.f232 S_iPutVar.ps S_iPutVar.res (alook L_iPutVar) 0 L_iPutVar_0 := by intro k x; kernel_rfl
theorem t_iPutVar : ∀ k x, runF tt (alook N_iPutVar) k Tryz.f232 S_iPutVar.ps S_iPutVar.res (alook L_iPutVar) x = S_iPutVar.F k x := by intro k x; kernel_rfl
def L_iSha_0 : LSpec (denRs (S_iSha.res ++ outM S_iSha.ps)) := .mk [(3, .own i64 false), (4, .own u8 true), (5, .sh i64)] [(3, .own i64 false)] [] fun k x => iSha_l0 k x.1 x.2.1 x.2.2
def L_iSha_2 : LSpec (denRs (S_iSha.res ++ outM S_iSha.ps)) := .mk [(6, .own u8 true), (26, .own i64 false), (27, .sh i64), (28, .sh i64)] [(6, .own u8 true)] [] fun k x => iSha_l2 k x.1 x.2.1 x.2.2.1 x.2.2.2
def L_iSha : List (Nat × LSpec (denRs (S_iSha.res ++ outM S_iSha.ps))) := [(0, L_iSha_0), (2, L_iSha_2)]
def N_iSha : List (Nat × Sig) := [(239, S_iShaInit), (240, S_iShaPad), (241, S_iShaBlock)]
theorem r_iSha_0 : ∀ k, runL tt (alook N_iSha) k Tryz.f130 S_iSha.ps S_iSha.res (alook L_iSha) 0 L_iSha_0 := by intro k x; kernel_rfl
theorem r_iSha_2 : ∀ k, runL tt (alook N_iSha) k Tryz.f130 S_iSha.ps S_iSha.res (alook L_iSha) 2 L_iSha_2 := by intro k x; kernel_rfl
theorem t_iSha : ∀ k x, runF tt (alook N_iSha) k Tryz.f130 S_iSha.ps S_iSha.res (alook L_iSha) x = S_iSha.F k x := by intro k x; kernel_rfl
def L_sBitsList_0 : LSpec (denRs (S_sBitsList.res ++ outM S_sBitsList.ps)) := .mk [(0, .sh bs), (3, .own i64 true), (4, .sh i64)] [(3, .own i64 true)] [] fun k x => sBitsList_l0 k x.1 x.2.1 x.2.2
def L_sBitsList : List (Nat × LSpec (denRs (S_sBitsList.res ++ outM S_sBitsList.ps))) := [(0, L_sBitsList_0)]
def N_sBitsList : List (Nat × Sig) := [(361, S_sBitsHas)]
theorem r_sBitsList_0 : ∀ k, runL tt (alook N_sBitsList) k Tryz.f307 S_sBitsList.ps S_sBitsList.res (alook L_sBitsList) 0 L_sBitsList_0 := by intro k x; kernel_rfl
theorem t_sBitsList : ∀ k x, runF tt (alook N_sBitsList) k Tryz.f307 S_sBitsList.ps S_sBitsList.res (alook L_sBitsList) x = S_sBitsList.F k x := by intro k x; kernel_rfl
def L_sProofOk_0 : LSpec (denRs (S_sProofOk.res ++ outM S_sProofOk.ps)) := .mkR [(2, .pbox (.sh tLimits)), (3, .pbox (.sh tProof)), (20, .sh (.slice tHead)), (21, .sh i64), (22, .sh i64)] [(2, .pbox (.sh tLimits)), (3, .pbox (.sh tProof))] [] fun k x => sProofOk_l0 k x.1 x.2.1 x.2.2.1 x.2.2.2.1 x.2.2.2.2
def L_sProofOk : List (Nat × LSpec (denRs (S_sProofOk.res ++ outM S_sProofOk.ps))) := [(0, L_sProofOk_0)]
def N_sProofOk : List (Nat × Sig) := [(202, S_sHeadOk), (271, S_sl01In), (297, S_sLimitsOk), (303, S_sQcOk), (375, S_sl16Fits)]
theorem r_sProofOk_0 : ∀ k, runL tt (alook N_sProofOk) k Tryz.f352 S_sProofOk.ps S_sProofOk.res (alook L_sProofOk) 0 L_sProofOk_0 := by intro k x; kernel_rfl
theorem t_sProofOk : ∀ k x, runF tt (alook N_sProofOk) k Tryz.f352 S_sProofOk.ps S_sProofOk.res (alook L_sProofOk) x = S_sProofOk.F k x := by intro k x; kernel_rfl
def L_sTreeSame_0 : LSpec (denRs (S_sTreeSame.res ++ outM S_sTreeSame.ps)) := .mkR [(0, .sh (.slice bs)), (1, .sh (.slice bs)), (12, .sh i64), (13, .sh i64)] [] [] fun k x => sTreeSame_l0 k x.1 x.2.1 x.2.2.1 x.2.2.2
def L_sTreeSame : List (Nat × LSpec (denRs (S_sTreeSame.res ++ outM S_sTreeSame.ps))) := [(0, L_sTreeSame_0)]
def N_sTreeSame : List (Nat × Sig) := [(309, S_sSameBytes)]
theorem r_sTreeSame_0 : ∀ k, runL tt (alook N_sTreeSame) k Tryz.f346 S_sTreeSame.ps S_sTreeSame.res (alook L_sTreeSame) 0 L_sTreeSame_0 := by intro k x; kernel_rfl
theorem t_sTreeSame : ∀ k x, runF tt (alook N_sTreeSame) k Tryz.f346 S_sTreeSame.ps S_sTreeSame.res (alook L_sTreeSame) x = S_sTreeSame.F k x := by intro k x; kernel_rfl
def L_sl01AnyNum : List (Nat × LSpec (denRs (S_sl01AnyNum.res ++ outM S_sl01AnyNum.ps))) := []
def N_sl01AnyNum : List (Nat × Sig) := [(90, S_sl01Below), (229, S_sl01Pick)]
theorem t_sl01AnyNum : ∀ k x, runF tt (alook N_sl01AnyNum) k Tryz.f321 S_sl01AnyNum.ps S_sl01AnyNum.res (alook L_sl01AnyNum) x = S_sl01AnyNum.F k x := by intro k x; kernel_rfl
def L_sl13Draw : List (Nat × LSpec (denRs (S_sl13Draw.res ++ outM S_sl13Draw.ps))) := []
def N_sl13Draw : List (Nat × Sig) := [(90, S_sl01Below), (91, S_sl11Hash), (199, S_sl01Copy), (250, S_sl12Draw)]
theorem t_sl13Draw : ∀ k x, runF tt (alook N_sl13Draw) k Tryz.f252 S_sl13Draw.ps S_sl13Draw.res (alook L_sl13Draw) x = S_sl13Draw.F k x := by intro k x; kernel_rfl
def L_sl13Chain_0 : LSpec (denRs (S_sl13Chain.res ++ outM S_sl13Chain.ps)) := .mk [(0, .pbox (.sh tl01Cur)), (2, .sh i64), (4, .pbox (.sh tLimits)), (7, .own tHead true)] [(0, .pbox (.sh tl01Cur)), (7, .own tHead true)] [] fun k x => sl13Chain_l0 k x.1 x.2.1 x.2.2.1 x.2.2.2
def L_sl13Chain : List (Nat × LSpec (denRs (S_sl13Chain.res ++ outM S_sl13Chain.ps))) := [(0, L_sl13Chain_0)]
def N_sl13Chain : List (Nat × Sig) := [(90, S_sl01Below), (199, S_sl01Copy), (204, S_sHeadHash), (252, S_sl13Draw)]
theorem r_sl13Chain_0 : ∀ k, runL tt (alook N_sl13Chain) k Tryz.f342 S_sl13Chain.ps S_sl13Chain.res (alook L_sl13Chain) 0 L_sl13Chain_0 := by intro k x; kernel_rfl
theorem t_sl13Chain : ∀ k x, runF tt (alook N_sl13Chain) k Tryz.f342 S_sl13Chain.ps S_sl13Chain.res (alook L_sl13Chain) x = S_sl13Chain.F k x := by intro k x; kernel_rfl
def L_iSplitAt_0 : LSpec (denRs (S_iSplitAt.res ++ outM S_iSplitAt.ps)) := .mk [(0, .sh i64), (3, .sh i64)] [(3, .sh i64)] [] fun k x => iSplitAt_l0 k x.1 x.2
def L_iSplitAt : List (Nat × LSpec (denRs (S_iSplitAt.res ++ outM S_iSplitAt.ps))) := [(0, L_iSplitAt_0)]
def N_iSplitAt : List (Nat × Sig) := []
theorem r_iSplitAt_0 : ∀ k, runL tt (alook N_iSplitAt) k Tryz.f329 S_iSplitAt.ps S_iSplitAt.res (alook L_iSplitAt) 0 L_iSplitAt_0 := by intro k x; kernel_rfl
theorem t_iSplitAt : ∀ k x, runF tt (alook N_iSplitAt) k Tryz.f329 S_iSplitAt.ps S_iSplitAt.res (alook L_iSplitAt) x = S_iSplitAt.F k x := by intro k x; kernel_rfl
def L_iBitsSize : List (Nat × LSpec (denRs (S_iBitsSize.res ++ outM S_iBitsSize.ps))) := []
def N_iBitsSize : List (Nat × Sig) := []
theorem t_iBitsSize : ∀ k x, runF tt (alook N_iBitsSize) k Tryz.f226 S_iBitsSize.ps S_iBitsSize.res (alook L_iBitsSize) x = S_iBitsSize.F k x := by intro k x; kernel_rfl
def L_iBitsList_0 : LSpec (denRs (S_iBitsList.res ++ outM S_iBitsList.ps)) := .mk [(0, .sh bs), (3, .own i64 true), (8, .sh i64), (9, .sh i64)] [(3, .own i64 true)] [] fun k x => iBitsList_l0 k x.1 x.2.1 x.2.2.1 x.2.2.2
def L_iBitsList : List (Nat × LSpec (denRs (S_iBitsList.res ++ outM S_iBitsList.ps))) := [(0, L_iBitsList_0)]
def N_iBitsList : List (Nat × Sig) := [(311, S_iBitsHas)]
theorem r_iBitsList_0 : ∀ k, runL tt (alook N_iBitsList) k Tryz.f211 S_iBitsList.ps S_iBitsList.res (alook L_iBitsList) 0 L_iBitsList_0 := by intro k x; kernel_rfl
theorem t_iBitsList : ∀ k x, runF tt (alook N_iBitsList) k Tryz.f211 S_iBitsList.ps S_iBitsList.res (alook L_iBitsList) x = S_iBitsList.F k x := by intro k x; kernel_rfl
def L_iSameBytes : List (Nat × LSpec (denRs (S_iSameBytes.res ++ outM S_iSameBytes.ps))) := []
def N_iSameBytes : List (Nat × Sig) := []
theorem t_iSameBytes : ∀ k x, runF tt (alook N_iSameBytes) k Tryz.f65 S_iSameBytes.ps S_iSameBytes.res (alook L_iSameBytes) x = S_iSameBytes.F k x := by intro k x; kernel_rfl
def L_iHeadOk : List (Nat × LSpec (denRs (S_iHeadOk.res ++ outM S_iHeadOk.ps))) := []
def N_iHeadOk : List (Nat × Sig) := [(122, S_iQcOk), (150, S_iisNum), (213, S_iwithin), (227, S_iareHashes), (228, S_iHead_matches)]
theorem t_iHeadOk : ∀ k x, runF tt (alook N_iHeadOk) k Tryz.f110 S_iHeadOk.ps S_iHeadOk.res (alook L_iHeadOk) x = S_iHeadOk.F k x := by intro k x; kernel_rfl
def L_iIncl_copied : List (Nat × LSpec (denRs (S_iIncl_copied.res ++ outM S_iIncl_copied.ps))) := []
def N_iIncl_copied : List (Nat × Sig) := [(108, S_icopyBytes), (320, S_icopyList)]
theorem t_iIncl_copied : ∀ k x, runF tt (alook N_iIncl_copied) k Tryz.f296 S_iIncl_copied.ps S_iIncl_copied.res (alook L_iIncl_copied) x = S_iIncl_copied.F k x := by intro k x; kernel_rfl
def L_sPutIncl_0 : LSpec (denRs (S_sPutIncl.res ++ outM S_sPutIncl.ps)) := .mk [(8, .own u8 false), (29, .sh (.slice bs)), (30, .sh i64), (31, .sh i64)] [(8, .own u8 false)] [] fun k x => sPutIncl_l0 k x.1 x.2.1 x.2.2.1 x.2.2.2
def L_sPutIncl : List (Nat × LSpec (denRs (S_sPutIncl.res ++ outM S_sPutIncl.ps))) := [(0, L_sPutIncl_0)]
def N_sPutIncl : List (Nat × Sig) := [(348, S_sl11Num), (350, S_sPutText), (353, S_sInclOk)]
theorem r_sPutIncl_0 : ∀ k, runL tt (alook N_sPutIncl) k Tryz.f285 S_sPutIncl.ps S_sPutIncl.res (alook L_sPutIncl) 0 L_sPutIncl_0 := by intro k x; kernel_rfl
theorem t_sPutIncl : ∀ k x, runF tt (alook N_sPutIncl) k Tryz.f285 S_sPutIncl.ps S_sPutIncl.res (alook L_sPutIncl) x = S_sPutIncl.F k x := by intro k x; kernel_rfl
def L_sHeadSame : List (Nat × LSpec (denRs (S_sHeadSame.res ++ outM S_sHeadSame.ps))) := []
def N_sHeadSame : List (Nat × Sig) := [(273, S_sQcSame), (309, S_sSameBytes)]
theorem t_sHeadSame : ∀ k x, runF tt (alook N_sHeadSame) k Tryz.f274 S_sHeadSame.ps S_sHeadSame.res (alook L_sHeadSame) x = S_sHeadSame.F k x := by intro k x; kernel_rfl
def L_iOfBlock : List (Nat × LSpec (denRs (S_iOfBlock.res ++ outM S_iOfBlock.ps))) := []
def N_iOfBlock : List (Nat × Sig) := [(294, S_iBlock_copied)]
theorem t_iOfBlock : ∀ k x, runF tt (alook N_iOfBlock) k Tryz.f264 S_iOfBlock.ps S_iOfBlock.res (alook L_iOfBlock) x = S_iOfBlock.F k x := by intro k x; kernel_rfl
def L_sl16Some_0 : LSpec (denRs (S_sl16Some.res ++ outM S_sl16Some.ps)) := .mk [(0, .pbox (.sh tl01Cur)), (4, .pbox (.pair (.sh i64) (.pair (.sh i64) (.pair (.sh i64) (.pair (.own u8 false) (.pair (.own bs false) .unit)))))), (6, .pbox (.pair (.sh i64) (.pair (.sh i64) (.pair (.sh i64) (.pair (.own u8 false) (.pair (.own bs false) .unit)))))), (7, .sh i64)] [(0, .pbox (.sh tl01Cur)), (4, .pbox (.pair (.sh i64) (.pair (.sh i64) (.pair (.sh i64) (.pair (.own u8 false) (.pair (.own bs false) .unit)))))), (6, .pbox (.pair (.sh i64) (.pair (.sh i64) (.pair (.sh i64) (.pair (.own u8 false) (.pair (.own bs false) .unit))))))] [] fun k x => sl16Some_l0 k x.1 x.2.1 x.2.2.1 x.2.2.2
def L_sl16Some : List (Nat × LSpec (denRs (S_sl16Some.res ++ outM S_sl16Some.ps))) := [(0, L_sl16Some_0)]
def N_sl16Some : List (Nat × Sig) := [(90, S_sl01Below), (91, S_sl11Hash), (184, S_sl01Bytes), (344, S_sPathLen)]
theorem r_sl16Some_0 : ∀ k, runL tt (alook N_sl16Some) k Tryz.f260 S_sl16Some.ps S_sl16Some.res (alook L_sl16Some) 0 L_sl16Some_0 := by intro k x; kernel_rfl
theorem t_sl16Some : ∀ k x, runF tt (alook N_sl16Some) k Tryz.f260 S_sl16Some.ps S_sl16Some.res (alook L_sl16Some) x = S_sl16Some.F k x := by intro k x; kernel_rfl
def L_ireader_text : List (Nat × LSpec (denRs (S_ireader_text.res ++ outM S_ireader_text.ps))) := []
def N_ireader_text : List (Nat × Sig) := [(331, S_iGetText)]
theorem t_ireader_text : ∀ k x, runF tt (alook N_ireader_text) k Tryz.f243 S_ireader_text.ps S_ireader_text.res (alook L_ireader_text) x = S_ireader_text.F k x := by intro k x; kernel_rfl
def L_ireader_below : List (Nat × LSpec (denRs (S_ireader_below.res ++ outM S_ireader_below.ps))) := []
def N_ireader_below : List (Nat × Sig) := [(233, S_ireader_num), (238, S_ireader_must)]
theorem t_ireader_below : ∀ k x, runF tt (alook N_ireader_below) k Tryz.f235 S_ireader_below.ps S_ireader_below.res (alook L_ireader_below) x = S_ireader_below.F k x := by intro k x; kernel_rfl
def L_ientrySame : List (Nat × LSpec (denRs (S_ientrySame.res ++ outM S_ientrySame.ps))) := []
def N_ientrySame : List (Nat × Sig) := [(65, S_iSameBytes)]
theorem t_ientrySame : ∀ k x, runF tt (alook N_ientrySame) k Tryz.f138 S_ientrySame.ps S_ientrySame.res (alook L_ientrySame) x = S_ientrySame.F k x := by intro k x; kernel_rfl
def L_iOfProof : List (Nat × LSpec (denRs (S_iOfProof.res ++ outM S_iOfProof.ps))) := []
def N_iOfProof : List (Nat × Sig) := [(107, S_iProof_copied)]
theorem t_iOfProof : ∀ k x, runF tt (alook N_iOfProof) k Tryz.f20 S_iOfProof.ps S_iOfProof.res (alook L_iOfProof) x = S_iOfProof.F k x := by intro k x; kernel_rfl
def L_iPutVote : List (Nat × LSpec (denRs (S_iPutVote.res ++ outM S_iPutVote.ps))) := []
def N_iPutVote : List (Nat × Sig) := [(108, S_icopyBytes), (117, S_iVoteOk), (118, S_iwriter_num), (119, S_iwriter_raw)]
theorem t_iPutVote : ∀ k x, runF tt (alook N_iPutVote) k Tryz.f29 S_iPutVote.ps S_iPutVote.res (alook L_iPutVote) x = S_iPutVote.F k x := by intro k x; kernel_rfl
def L_iPutTc_0 : LSpec (denRs (S_iPutTc.res ++ outM S_iPutTc.ps)) := .mk [(8, .pbox (.pair (.own u8 false) .unit)), (29, .sh (.slice tEntry)), (30, .sh i64), (31, .sh i64)] [(8, .pbox (.pair (.own u8 false) .unit))] [] fun k x => iPutTc_l0 k x.1 x.2.1 x.2.2.1 x.2.2.2
def L_iPutTc : List (Nat × LSpec (denRs (S_iPutTc.res ++ outM S_iPutTc.ps))) := [(0, L_iPutTc_0)]
def N_iPutTc : List (Nat × Sig) := [(108, S_icopyBytes), (118, S_iwriter_num), (119, S_iwriter_raw), (135, S_iTcOk)]
theorem r_iPutTc_0 : ∀ k, runL tt (alook N_iPutTc) k Tryz.f41 S_iPutTc.ps S_iPutTc.res (alook L_iPutTc) 0 L_iPutTc_0 := by intro k x; kernel_rfl
theorem t_iPutTc : ∀ k x, runF tt (alook N_iPutTc) k Tryz.f41 S_iPutTc.ps S_iPutTc.res (alook L_iPutTc) x = S_iPutTc.F k x := by intro k x; kernel_rfl
def L_iget_implVote : List (Nat × LSpec (denRs (S_iget_implVote.res ++ outM S_iget_implVote.ps))) := []
def N_iget_implVote : List (Nat × Sig) := [(121, S_ireadVote), (149, S_iLimitsOk)]
theorem t_iget_implVote : ∀ k x, runF tt (alook N_iget_implVote) k Tryz.f120 S_iget_implVote.ps S_iget_implVote.res (alook L_iget_implVote) x = S_iget_implVote.F k x := by intro k x; kernel_rfl
def L_iGetHead : List (Nat × LSpec (denRs (S_iGetHead.res ++ outM S_iGetHead.ps))) := []
def N_iGetHead : List (Nat × Sig) := [(128, S_iget_implHead)]
theorem t_iGetHead : ∀ k x, runF tt (alook N_iGetHead) k Tryz.f36 S_iGetHead.ps S_iGetHead.res (alook L_iGetHead) x = S_iGetHead.F k x := by intro k x; kernel_rfl
def L_iget_implBlock : List (Nat × LSpec (denRs (S_iget_implBlock.res ++ outM S_iget_implBlock.ps))) := []
def N_iget_implBlock : List (Nat × Sig) := [(134, S_ireadBlock), (149, S_iLimitsOk)]
theorem t_iget_implBlock : ∀ k x, runF tt (alook N_iget_implBlock) k Tryz.f133 S_iget_implBlock.ps S_iget_implBlock.res (alook L_iget_implBlock) x = S_iget_implBlock.F k x := by intro k x; kernel_rfl
def L_ireadProof_0 : LSpec (denRs (S_ireadProof.res ++ outM S_ireadProof.ps)) := .mk [(1, .pbox (.sh tl01Cur)), (2, .pbox (.sh tLimits)), (4, .pbox (.pair (.own tHead false) (.pair (.pair (.sh i64) (.pair (.sh i64) (.pair (.own u8 false) (.pair (.own u8 false) (.pair (.own bs false) .unit))))) .unit))), (5, .pbox (.pair (.own tHead false) (.pair (.pair (.sh i64) (.pair (.sh i64) (.pair (.own u8 false) (.pair (.own u8 false) (.pair (.own bs false) .unit))))) .unit))), (6, .sh i64), (7, .sh i64)] [(1, .pbox (.sh tl01Cur)), (2, .pbox (.sh tLimits)), (4, .pbox (.pair (.own tHead false) (.pair (.pair (.sh i64) (.pair (.sh i64) (.pair (.own u8 false) (.pair (.own u8 false) (.pair (.own bs false) .unit))))) .unit))), (5, .pbox (.pair (.own tHead false) (.pair (.pair (.sh i64) (.pair (.sh i64) (.pair (.own u8 false) (.pair (.own u8 false) (.pair (.own bs false) .unit))))) .unit)))] [] fun k x => ireadProof_l0 k x.1 x.2.1 x.2.2.1 x.2.2.2.1 x.2.2.2.2.1 x.2.2.2.2.2
def L_ireadProof : List (Nat × LSpec (denRs (S_ireadProof.res ++ outM S_ireadProof.ps))) := [(0, L_ireadProof_0)]
def N_ireadProof : List (Nat × Sig) := [(125, S_ireadQc), (129, S_ireadHead), (215, S_iProof_closes), (233, S_ireader_num), (238, S_ireader_must)]
theorem r_ireadProof_0 : ∀ k, runL tt (alook N_ireadProof) k Tryz.f140 S_ireadProof.ps S_ireadProof.res (alook L_ireadProof) 0 L_ireadProof_0 := by intro k x; kernel_rfl
theorem t_ireadProof : ∀ k x, runF tt (alook N_ireadProof) k Tryz.f140 S_ireadProof.ps S_ireadProof.res (alook L_ireadProof) x = S_ireadProof.F k x := by intro k x; kernel_rfl
def L_iheadsSame_0 : LSpec (denRs (S_iheadsSame.res ++ outM S_iheadsSame.ps)) := .mkR [(0, .sh (.slice tHead)), (1, .sh (.slice tHead)), (12, .sh i64), (13, .sh i64)] [] [] fun k x => iheadsSame_l0 k x.1 x.2.1 x.2.2.1 x.2.2.2
def L_iheadsSame : List (Nat × LSpec (denRs (S_iheadsSame.res ++ outM S_iheadsSame.ps))) := [(0, L_iheadsSame_0)]
def N_iheadsSame : List (Nat × Sig) := [(24, S_iHeadSame)]
theorem r_iheadsSame_0 : ∀ k, runL tt (alook N_iheadsSame) k Tryz.f114 S_iheadsSame.ps S_iheadsSame.res (alook L_iheadsSame) 0 L_iheadsSame_0 := by intro k x; kernel_rfl
theorem t_iheadsSame : ∀ k x, runF tt (alook N_iheadsSame) k Tryz.f114 S_iheadsSame.ps S_iheadsSame.res (alook L_iheadsSame) x = S_iheadsSame.F k x := by intro k x; kernel_rfl
def L_iEncode : List (Nat × LSpec (denRs (S_iEncode.res ++ outM S_iEncode.ps))) := []
def N_iEncode : List (Nat × Sig) := [(64, S_iMsgOk), (153, S_iMsg_put)]
theorem t_iEncode : ∀ k x, runF tt (alook N_iEncode) k Tryz.f58 S_iEncode.ps S_iEncode.res (alook L_iEncode) x = S_iEncode.F k x := by intro k x; kernel_rfl
def L_sMakeLimits : List (Nat × LSpec (denRs (S_sMakeLimits.res ++ outM S_sMakeLimits.ps))) := []
def N_sMakeLimits : List (Nat × Sig) := [(87, S_sl01New), (115, S_sl10Draw)]
theorem t_sMakeLimits : ∀ k x, runF tt (alook N_sMakeLimits) k Tryz.f26 S_sMakeLimits.ps S_sMakeLimits.res (alook L_sMakeLimits) x = S_sMakeLimits.F k x := by intro k x; kernel_rfl
end Go.Ev.G
