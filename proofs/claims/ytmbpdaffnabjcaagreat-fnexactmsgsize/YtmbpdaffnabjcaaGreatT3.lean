/- The functions run in the evaluator as their plain functions say. No condition. -/
import Derived.Test.YtmbpdaffnabjcaaGreatS
set_option linter.unusedVariables false
set_option linter.unusedSimpArgs false
set_option linter.unusedSectionVars false
/- Proofs: printed by gen.py. -/
namespace Go.Ev.G
open Go.Ev Go.Proofs
set_option linter.unusedVariables false
def L_sl01In : List (Nat × LSpec (denRs (S_sl01In.res ++ outM S_sl01In.ps))) := []
def N_sl01In : List (Nat × Sig) := []
theorem t_sl01In : ∀ k x, runF tt (alook N_sl01In) k Tryz.f271 S_sl01In.ps S_sl01In.res (alook L_sl01In) x = S_sl01In.F k x := by intro k x; kernel_rfl
def L_sSha_0 : LSpec (denRs (S_sSha.res ++ outM S_sSha.ps)) := .mk [(3, .own i64 false), (4, .own u8 true), (5, .sh i64)] [(3, .own i64 false)] [] fun k x => sSha_l0 k x.1 x.2.1 x.2.2
def L_sSha_2 : LSpec (denRs (S_sSha.res ++ outM S_sSha.ps)) := .mk [(6, .own u8 true), (26, .own i64 false), (27, .sh i64), (28, .sh i64)] [(6, .own u8 true)] [] fun k x => sSha_l2 k x.1 x.2.1 x.2.2.1 x.2.2.2
def L_sSha : List (Nat × LSpec (denRs (S_sSha.res ++ outM S_sSha.ps))) := [(0, L_sSha_0), (2, L_sSha_2)]
def N_sSha : List (Nat × Sig) := [(358, S_sShaInit), (359, S_sShaPad), (360, S_sShaBlock)]
theorem r_sSha_0 : ∀ k, runL tt (alook N_sSha) k Tryz.f305 S_sSha.ps S_sSha.res (alook L_sSha) 0 L_sSha_0 := by intro k x; kernel_rfl
theorem r_sSha_2 : ∀ k, runL tt (alook N_sSha) k Tryz.f305 S_sSha.ps S_sSha.res (alook L_sSha) 2 L_sSha_2 := by intro k x; kernel_rfl
theorem t_sSha : ∀ k x, runF tt (alook N_sSha) k Tryz.f305 S_sSha.ps S_sSha.res (alook L_sSha) x = S_sSha.F k x := by intro k x; kernel_rfl
def L_sl12Copy : List (Nat × LSpec (denRs (S_sl12Copy.res ++ outM S_sl12Copy.ps))) := []
def N_sl12Copy : List (Nat × Sig) := [(199, S_sl01Copy), (369, S_sl06Copy)]
theorem t_sl12Copy : ∀ k x, runF tt (alook N_sl12Copy) k Tryz.f333 S_sl12Copy.ps S_sl12Copy.res (alook L_sl12Copy) x = S_sl12Copy.F k x := by intro k x; kernel_rfl
def L_sTreeRoot : List (Nat × LSpec (denRs (S_sTreeRoot.res ++ outM S_sTreeRoot.ps))) := []
def N_sTreeRoot : List (Nat × Sig) := [(305, S_sSha), (373, S_sSplitAt), (382, S_sLeafHash), (383, S_sNodeHash)]
theorem t_sTreeRoot : ∀ k x, runF tt (alook ((370, S_sTreeRoot) :: N_sTreeRoot)) k Tryz.f370 S_sTreeRoot.ps S_sTreeRoot.res (alook L_sTreeRoot) x = S_sTreeRoot.F (k + 1) x := by intro k x; kernel_rfl
def L_iShaInit : List (Nat × LSpec (denRs (S_iShaInit.res ++ outM S_iShaInit.ps))) := []
def N_iShaInit : List (Nat × Sig) := []
theorem t_iShaInit : ∀ k x, runF tt (alook N_iShaInit) k Tryz.f239 S_iShaInit.ps S_iShaInit.res (alook L_iShaInit) x = S_iShaInit.F k x := by intro k x; kernel_rfl
def L_iShaPad_0 : LSpec (denRs (S_iShaPad.res ++ outM S_iShaPad.ps)) := .mk [(0, .sh bs), (3, .own u8 true)] [(0, .sh bs), (3, .own u8 true)] [] fun k x => iShaPad_l0 k x.1 x.2
def L_iShaPad_2 : LSpec (denRs (S_iShaPad.res ++ outM S_iShaPad.ps)) := .mk [(0, .sh bs), (3, .own u8 true), (4, .sh i64)] [(3, .own u8 true)] [] fun k x => iShaPad_l2 k x.1 x.2.1 x.2.2
def L_iShaPad : List (Nat × LSpec (denRs (S_iShaPad.res ++ outM S_iShaPad.ps))) := [(0, L_iShaPad_0), (2, L_iShaPad_2)]
def N_iShaPad : List (Nat × Sig) := [(108, S_icopyBytes)]
theorem r_iShaPad_0 : ∀ k, runL tt (alook N_iShaPad) k Tryz.f240 S_iShaPad.ps S_iShaPad.res (alook L_iShaPad) 0 L_iShaPad_0 := by intro k x; kernel_rfl
theorem r_iShaPad_2 : ∀ k, runL tt (alook N_iShaPad) k Tryz.f240 S_iShaPad.ps S_iShaPad.res (alook L_iShaPad) 2 L_iShaPad_2 := by intro k x; kernel_rfl
theorem t_iShaPad : ∀ k x, runF tt (alook N_iShaPad) k Tryz.f240 S_iShaPad.ps S_iShaPad.res (alook L_iShaPad) x = S_iShaPad.F k x := by intro k x; kernel_rfl
def L_sl07Hash : List (Nat × LSpec (denRs (S_sl07Hash.res ++ outM S_sl07Hash.ps))) := []
def N_sl07Hash : List (Nat × Sig) := []
theorem t_sl07Hash : ∀ k x, runF tt (alook N_sl07Hash) k Tryz.f302 S_sl07Hash.ps S_sl07Hash.res (alook L_sl07Hash) x = S_sl07Hash.F k x := by intro k x; kernel_rfl
def L_sl11Num : List (Nat × LSpec (denRs (S_sl11Num.res ++ outM S_sl11Num.ps))) := []
def N_sl11Num : List (Nat × Sig) := [(374, S_sPutVar)]
theorem t_sl11Num : ∀ k x, runF tt (alook N_sl11Num) k Tryz.f348 S_sl11Num.ps S_sl11Num.res (alook L_sl11Num) x = S_sl11Num.F k x := by intro k x; kernel_rfl
def L_sBitsHas : List (Nat × LSpec (denRs (S_sBitsHas.res ++ outM S_sBitsHas.ps))) := []
def N_sBitsHas : List (Nat × Sig) := []
theorem t_sBitsHas : ∀ k x, runF tt (alook N_sBitsHas) k Tryz.f361 S_sBitsHas.ps S_sBitsHas.res (alook L_sBitsHas) x = S_sBitsHas.F k x := by intro k x; kernel_rfl
def L_sCrcMore_0 : LSpec (denRs (S_sCrcMore.res ++ outM S_sCrcMore.ps)) := .mk [(5, .sh i64), (14, .sh bs), (15, .sh i64), (16, .sh i64)] [(5, .sh i64)] [] fun k x => sCrcMore_l0 k x.1 x.2.1 x.2.2.1 x.2.2.2
def L_sCrcMore_2 : LSpec (denRs (S_sCrcMore.res ++ outM S_sCrcMore.ps)) := .mk [(5, .sh i64), (8, .sh i64), (14, .sh bs), (15, .sh i64), (16, .sh i64)] [(5, .sh i64), (14, .sh bs), (15, .sh i64), (16, .sh i64)] [] fun k x => sCrcMore_l2 k x.1 x.2.1 x.2.2.1 x.2.2.2.1 x.2.2.2.2
def L_sCrcMore : List (Nat × LSpec (denRs (S_sCrcMore.res ++ outM S_sCrcMore.ps))) := [(0, L_sCrcMore_0), (2, L_sCrcMore_2)]
def N_sCrcMore : List (Nat × Sig) := [(376, S_sl03Sum), (377, S_sl03Turn)]
theorem r_sCrcMore_0 : ∀ k, runL tt (alook N_sCrcMore) k Tryz.f356 S_sCrcMore.ps S_sCrcMore.res (alook L_sCrcMore) 0 L_sCrcMore_0 := by intro k x; kernel_rfl
theorem r_sCrcMore_2 : ∀ k, runL tt (alook N_sCrcMore) k Tryz.f356 S_sCrcMore.ps S_sCrcMore.res (alook L_sCrcMore) 2 L_sCrcMore_2 := by intro k x; kernel_rfl
theorem t_sCrcMore : ∀ k x, runF tt (alook N_sCrcMore) k Tryz.f356 S_sCrcMore.ps S_sCrcMore.res (alook L_sCrcMore) x = S_sCrcMore.F k x := by intro k x; kernel_rfl
def L_sBitsSize : List (Nat × LSpec (denRs (S_sBitsSize.res ++ outM S_sBitsSize.ps))) := []
def N_sBitsSize : List (Nat × Sig) := []
theorem t_sBitsSize : ∀ k x, runF tt (alook N_sBitsSize) k Tryz.f208 S_sBitsSize.ps S_sBitsSize.res (alook L_sBitsSize) x = S_sBitsSize.F k x := by intro k x; kernel_rfl
def L_sBitsList_0 : LSpec (denRs (S_sBitsList.res ++ outM S_sBitsList.ps)) := .mk [(0, .sh bs), (3, .own i64 true), (4, .sh i64)] [(3, .own i64 true)] [] fun k x => sBitsList_l0 k x.1 x.2.1 x.2.2
def L_sBitsList : List (Nat × LSpec (denRs (S_sBitsList.res ++ outM S_sBitsList.ps))) := [(0, L_sBitsList_0)]
def N_sBitsList : List (Nat × Sig) := [(361, S_sBitsHas)]
theorem r_sBitsList_0 : ∀ k, runL tt (alook N_sBitsList) k Tryz.f307 S_sBitsList.ps S_sBitsList.res (alook L_sBitsList) 0 L_sBitsList_0 := by intro k x; kernel_rfl
theorem t_sBitsList : ∀ k x, runF tt (alook N_sBitsList) k Tryz.f307 S_sBitsList.ps S_sBitsList.res (alook L_sBitsList) x = S_sBitsList.F k x := by intro k x; kernel_rfl
def L_sTcOk_0 : LSpec (denRs (S_sTcOk.res ++ outM S_sTcOk.ps)) := .mkR [(2, .pbox (.sh tLimits)), (3, .pbox (.sh tTc)), (25, .sh (.slice tEntry)), (26, .sh i64), (27, .sh i64)] [] [] fun k x => sTcOk_l0 k x.1 x.2.1 x.2.2.1 x.2.2.2.1 x.2.2.2.2
def L_sTcOk : List (Nat × LSpec (denRs (S_sTcOk.res ++ outM S_sTcOk.ps))) := [(0, L_sTcOk_0)]
def N_sTcOk : List (Nat × Sig) := [(271, S_sl01In), (297, S_sLimitsOk), (301, S_sl01Num), (302, S_sl07Hash)]
theorem r_sTcOk_0 : ∀ k, runL tt (alook N_sTcOk) k Tryz.f351 S_sTcOk.ps S_sTcOk.res (alook L_sTcOk) 0 L_sTcOk_0 := by intro k x; kernel_rfl
theorem t_sTcOk : ∀ k x, runF tt (alook N_sTcOk) k Tryz.f351 S_sTcOk.ps S_sTcOk.res (alook L_sTcOk) x = S_sTcOk.F k x := by intro k x; kernel_rfl
def L_sl11Hash : List (Nat × LSpec (denRs (S_sl11Hash.res ++ outM S_sl11Hash.ps))) := []
def N_sl11Hash : List (Nat × Sig) := [(90, S_sl01Below), (203, S_sl01Byte)]
theorem t_sl11Hash : ∀ k x, runF tt (alook N_sl11Hash) k Tryz.f91 S_sl11Hash.ps S_sl11Hash.res (alook L_sl11Hash) x = S_sl11Hash.F k x := by intro k x; kernel_rfl
def L_sl01Once : List (Nat × LSpec (denRs (S_sl01Once.res ++ outM S_sl01Once.ps))) := []
def N_sl01Once : List (Nat × Sig) := [(90, S_sl01Below)]
theorem t_sl01Once : ∀ k x, runF tt (alook N_sl01Once) k Tryz.f156 S_sl01Once.ps S_sl01Once.res (alook L_sl01Once) x = S_sl01Once.F k x := by intro k x; kernel_rfl
def L_sPutQc_0 : LSpec (denRs (S_sPutQc.res ++ outM S_sPutQc.ps)) := .mk [(8, .own u8 false), (30, .sh (.slice bs)), (31, .sh i64), (32, .sh i64)] [(8, .own u8 false)] [] fun k x => sPutQc_l0 k x.1 x.2.1 x.2.2.1 x.2.2.2
def L_sPutQc : List (Nat × LSpec (denRs (S_sPutQc.res ++ outM S_sPutQc.ps))) := [(0, L_sPutQc_0)]
def N_sPutQc : List (Nat × Sig) := [(303, S_sQcOk), (348, S_sl11Num)]
theorem r_sPutQc_0 : ∀ k, runL tt (alook N_sPutQc) k Tryz.f280 S_sPutQc.ps S_sPutQc.res (alook L_sPutQc) 0 L_sPutQc_0 := by intro k x; kernel_rfl
theorem t_sPutQc : ∀ k x, runF tt (alook N_sPutQc) k Tryz.f280 S_sPutQc.ps S_sPutQc.res (alook L_sPutQc) x = S_sPutQc.F k x := by intro k x; kernel_rfl
def L_sBlockOf : List (Nat × LSpec (denRs (S_sBlockOf.res ++ outM S_sBlockOf.ps))) := []
def N_sBlockOf : List (Nat × Sig) := [(336, S_sl13Copy), (349, S_sBlockOk), (369, S_sl06Copy), (370, S_sTreeRoot)]
theorem t_sBlockOf : ∀ k x, runF tt (alook N_sBlockOf) k Tryz.f338 S_sBlockOf.ps S_sBlockOf.res (alook L_sBlockOf) x = S_sBlockOf.F k x := by intro k x; kernel_rfl
def L_iGetVar_0 : LSpec (denRs (S_iGetVar.res ++ outM S_iGetVar.ps)) := .mkR [(0, .sh bs), (1, .sh i64), (7, .sh i64), (8, .sh i64)] [] [] fun k x => iGetVar_l0 k x.1 x.2.1 x.2.2.1 x.2.2.2
def L_iGetVar : List (Nat × LSpec (denRs (S_iGetVar.res ++ outM S_iGetVar.ps))) := [(0, L_iGetVar_0)]
def N_iGetVar : List (Nat × Sig) := [(150, S_iisNum), (213, S_iwithin)]
theorem r_iGetVar_0 : ∀ k, runL tt (alook N_iGetVar) k Tryz.f322 S_iGetVar.ps S_iGetVar.res (alook L_iGetVar) 0 L_iGetVar_0 := by intro k x; kernel_rfl
theorem t_iGetVar : ∀ k x, runF tt (alook N_iGetVar) k Tryz.f322 S_iGetVar.ps S_iGetVar.res (alook L_iGetVar) x = S_iGetVar.F k x := by intro k x; kernel_rfl
def L_iHeadHash : List (Nat × LSpec (denRs (S_iHeadHash.res ++ outM S_iHeadHash.ps))) := []
def N_iHeadHash : List (Nat × Sig) := [(35, S_iPutHead), (130, S_iSha)]
theorem t_iHeadHash : ∀ k x, runF tt (alook N_iHeadHash) k Tryz.f37 S_iHeadHash.ps S_iHeadHash.res (alook L_iHeadHash) x = S_iHeadHash.F k x := by intro k x; kernel_rfl
def L_iBitsOf_0 : LSpec (denRs (S_iBitsOf.res ++ outM S_iBitsOf.ps)) := .mkR [(1, .sh i64), (6, .own u8 false), (14, .sh is), (15, .sh i64), (16, .sh i64)] [(6, .own u8 false)] [] fun k x => iBitsOf_l0 k x.1 x.2.1 x.2.2.1 x.2.2.2.1 x.2.2.2.2
def L_iBitsOf : List (Nat × LSpec (denRs (S_iBitsOf.res ++ outM S_iBitsOf.ps))) := [(0, L_iBitsOf_0)]
def N_iBitsOf : List (Nat × Sig) := [(109, S_iBitsNew), (213, S_iwithin)]
theorem r_iBitsOf_0 : ∀ k, runL tt (alook N_iBitsOf) k Tryz.f317 S_iBitsOf.ps S_iBitsOf.res (alook L_iBitsOf) 0 L_iBitsOf_0 := by intro k x; kernel_rfl
theorem t_iBitsOf : ∀ k x, runF tt (alook N_iBitsOf) k Tryz.f317 S_iBitsOf.ps S_iBitsOf.res (alook L_iBitsOf) x = S_iBitsOf.F k x := by intro k x; kernel_rfl
def L_iIncl_copied : List (Nat × LSpec (denRs (S_iIncl_copied.res ++ outM S_iIncl_copied.ps))) := []
def N_iIncl_copied : List (Nat × Sig) := [(108, S_icopyBytes), (320, S_icopyList)]
theorem t_iIncl_copied : ∀ k x, runF tt (alook N_iIncl_copied) k Tryz.f296 S_iIncl_copied.ps S_iIncl_copied.res (alook L_iIncl_copied) x = S_iIncl_copied.F k x := by intro k x; kernel_rfl
def L_iHead_copied : List (Nat × LSpec (denRs (S_iHead_copied.res ++ outM S_iHead_copied.ps))) := []
def N_iHead_copied : List (Nat × Sig) := [(108, S_icopyBytes), (225, S_iQc_copied)]
theorem t_iHead_copied : ∀ k x, runF tt (alook N_iHead_copied) k Tryz.f112 S_iHead_copied.ps S_iHead_copied.res (alook L_iHead_copied) x = S_iHead_copied.F k x := by intro k x; kernel_rfl
def L_weqHead : List (Nat × LSpec (denRs (S_weqHead.res ++ outM S_weqHead.ps))) := []
def N_weqHead : List (Nat × Sig) := [(76, S_weqByteS), (178, S_weqQc)]
theorem t_weqHead : ∀ k x, runF tt (alook N_weqHead) k Tryz.f179 S_weqHead.ps S_weqHead.res (alook L_weqHead) x = S_weqHead.F k x := by intro k x; kernel_rfl
def L_wtoQc : List (Nat × LSpec (denRs (S_wtoQc.res ++ outM S_wtoQc.ps))) := []
def N_wtoQc : List (Nat × Sig) := [(286, S_wtoByteS), (287, S_wtoByteSS)]
theorem t_wtoQc : ∀ k x, runF tt (alook N_wtoQc) k Tryz.f171 S_wtoQc.ps S_wtoQc.res (alook L_wtoQc) x = S_wtoQc.F k x := by intro k x; kernel_rfl
def L_sPutIncl_0 : LSpec (denRs (S_sPutIncl.res ++ outM S_sPutIncl.ps)) := .mk [(8, .own u8 false), (29, .sh (.slice bs)), (30, .sh i64), (31, .sh i64)] [(8, .own u8 false)] [] fun k x => sPutIncl_l0 k x.1 x.2.1 x.2.2.1 x.2.2.2
def L_sPutIncl : List (Nat × LSpec (denRs (S_sPutIncl.res ++ outM S_sPutIncl.ps))) := [(0, L_sPutIncl_0)]
def N_sPutIncl : List (Nat × Sig) := [(348, S_sl11Num), (350, S_sPutText), (353, S_sInclOk)]
theorem r_sPutIncl_0 : ∀ k, runL tt (alook N_sPutIncl) k Tryz.f285 S_sPutIncl.ps S_sPutIncl.res (alook L_sPutIncl) 0 L_sPutIncl_0 := by intro k x; kernel_rfl
theorem t_sPutIncl : ∀ k x, runF tt (alook N_sPutIncl) k Tryz.f285 S_sPutIncl.ps S_sPutIncl.res (alook L_sPutIncl) x = S_sPutIncl.F k x := by intro k x; kernel_rfl
def L_sQcSame : List (Nat × LSpec (denRs (S_sQcSame.res ++ outM S_sQcSame.ps))) := []
def N_sQcSame : List (Nat × Sig) := [(309, S_sSameBytes), (346, S_sTreeSame)]
theorem t_sQcSame : ∀ k x, runF tt (alook N_sQcSame) k Tryz.f273 S_sQcSame.ps S_sQcSame.res (alook L_sQcSame) x = S_sQcSame.F k x := by intro k x; kernel_rfl
def L_wszByteSS_0 : LSpec (denRs (S_wszByteSS.res ++ outM S_wszByteSS.ps)) := .mkR [(0, .sh (.slice bs)), (1, .sh i64), (5, .sh i64)] [(1, .sh i64)] [] fun k x => wszByteSS_l0 k x.1 x.2.1 x.2.2
def L_wszByteSS : List (Nat × LSpec (denRs (S_wszByteSS.res ++ outM S_wszByteSS.ps))) := [(0, L_wszByteSS_0)]
def N_wszByteSS : List (Nat × Sig) := [(267, S_wszByteS)]
theorem r_wszByteSS_0 : ∀ k, runL tt (alook N_wszByteSS) k Tryz.f268 S_wszByteSS.ps S_wszByteSS.res (alook L_wszByteSS) 0 L_wszByteSS_0 := by intro k x; kernel_rfl
theorem t_wszByteSS : ∀ k x, runF tt (alook N_wszByteSS) k Tryz.f268 S_wszByteSS.ps S_wszByteSS.res (alook L_wszByteSS) x = S_wszByteSS.F k x := by intro k x; kernel_rfl
def L_iOfHead : List (Nat × LSpec (denRs (S_iOfHead.res ++ outM S_iOfHead.ps))) := []
def N_iOfHead : List (Nat × Sig) := [(112, S_iHead_copied)]
theorem t_iOfHead : ∀ k x, runF tt (alook N_iOfHead) k Tryz.f263 S_iOfHead.ps S_iOfHead.res (alook L_iOfHead) x = S_iOfHead.F k x := by intro k x; kernel_rfl
def L_sl16Draw : List (Nat × LSpec (denRs (S_sl16Draw.res ++ outM S_sl16Draw.ps))) := []
def N_sl16Draw : List (Nat × Sig) := [(90, S_sl01Below), (204, S_sHeadHash), (250, S_sl12Draw), (342, S_sl13Chain)]
theorem t_sl16Draw : ∀ k x, runF tt (alook N_sl16Draw) k Tryz.f258 S_sl16Draw.ps S_sl16Draw.res (alook L_sl16Draw) x = S_sl16Draw.F k x := by intro k x; kernel_rfl
def L_sOfHead : List (Nat × LSpec (denRs (S_sOfHead.res ++ outM S_sOfHead.ps))) := []
def N_sOfHead : List (Nat × Sig) := [(336, S_sl13Copy)]
theorem t_sOfHead : ∀ k x, runF tt (alook N_sOfHead) k Tryz.f251 S_sOfHead.ps S_sOfHead.res (alook L_sOfHead) x = S_sOfHead.F k x := by intro k x; kernel_rfl
def L_iFrameAt : List (Nat × LSpec (denRs (S_iFrameAt.res ++ outM S_iFrameAt.ps))) := []
def N_iFrameAt : List (Nat × Sig) := [(149, S_iLimitsOk), (213, S_iwithin), (246, S_iGetFix), (247, S_iCrc)]
theorem t_iFrameAt : ∀ k x, runF tt (alook N_iFrameAt) k Tryz.f148 S_iFrameAt.ps S_iFrameAt.res (alook L_iFrameAt) x = S_iFrameAt.F k x := by intro k x; kernel_rfl
def L_iPathLen : List (Nat × LSpec (denRs (S_iPathLen.res ++ outM S_iPathLen.ps))) := []
def N_iPathLen : List (Nat × Sig) := [(213, S_iwithin), (329, S_iSplitAt)]
theorem t_iPathLen : ∀ k x, runF tt (alook ((244, S_iPathLen) :: N_iPathLen)) k Tryz.f244 S_iPathLen.ps S_iPathLen.res (alook L_iPathLen) x = S_iPathLen.F (k + 1) x := by intro k x; kernel_rfl
def L_ireader_must : List (Nat × LSpec (denRs (S_ireader_must.res ++ outM S_ireader_must.ps))) := []
def N_ireader_must : List (Nat × Sig) := []
theorem t_ireader_must : ∀ k x, runF tt (alook N_ireader_must) k Tryz.f238 S_ireader_must.ps S_ireader_must.res (alook L_ireader_must) x = S_ireader_must.F k x := by intro k x; kernel_rfl
def L_ireader_below : List (Nat × LSpec (denRs (S_ireader_below.res ++ outM S_ireader_below.ps))) := []
def N_ireader_below : List (Nat × Sig) := [(233, S_ireader_num), (238, S_ireader_must)]
theorem t_ireader_below : ∀ k x, runF tt (alook N_ireader_below) k Tryz.f235 S_ireader_below.ps S_ireader_below.res (alook L_ireader_below) x = S_ireader_below.F k x := by intro k x; kernel_rfl
def L_iQcVotes_0 : LSpec (denRs (S_iQcVotes.res ++ outM S_iQcVotes.ps)) := .mk [(1, .pbox (.sh tQc)), (3, .own tVote true), (16, .own i64 true), (17, .sh i64), (18, .sh i64)] [(3, .own tVote true)] [] fun k x => iQcVotes_l0 k x.1 x.2.1 x.2.2.1 x.2.2.2.1 x.2.2.2.2
def L_iQcVotes : List (Nat × LSpec (denRs (S_iQcVotes.res ++ outM S_iQcVotes.ps))) := [(0, L_iQcVotes_0)]
def N_iQcVotes : List (Nat × Sig) := [(108, S_icopyBytes), (211, S_iBitsList), (236, S_iBitsCount)]
theorem r_iQcVotes_0 : ∀ k, runL tt (alook N_iQcVotes) k Tryz.f216 S_iQcVotes.ps S_iQcVotes.res (alook L_iQcVotes) 0 L_iQcVotes_0 := by intro k x; kernel_rfl
theorem t_iQcVotes : ∀ k x, runF tt (alook N_iQcVotes) k Tryz.f216 S_iQcVotes.ps S_iQcVotes.res (alook L_iQcVotes) x = S_iQcVotes.F k x := by intro k x; kernel_rfl
def L_iEntryGood : List (Nat × LSpec (denRs (S_iEntryGood.res ++ outM S_iEntryGood.ps))) := []
def N_iEntryGood : List (Nat × Sig) := [(138, S_ientrySame), (316, S_iSignLeave)]
theorem t_iEntryGood : ∀ k x, runF tt (alook N_iEntryGood) k Tryz.f219 S_iEntryGood.ps S_iEntryGood.res (alook L_iEntryGood) x = S_iEntryGood.F k x := by intro k x; kernel_rfl
def L_sl23Goes : List (Nat × LSpec (denRs (S_sl23Goes.res ++ outM S_sl23Goes.ps))) := []
def N_sl23Goes : List (Nat × Sig) := [(297, S_sLimitsOk), (300, S_sTableOk)]
theorem t_sl23Goes : ∀ k x, runF tt (alook N_sl23Goes) k Tryz.f201 S_sl23Goes.ps S_sl23Goes.res (alook L_sl23Goes) x = S_sl23Goes.F k x := by intro k x; kernel_rfl
def L_icopyHeads_0 : LSpec (denRs (S_icopyHeads.res ++ outM S_icopyHeads.ps)) := .mk [(3, .own tHead true), (7, .sh (.slice tHead)), (8, .sh i64), (9, .sh i64)] [(3, .own tHead true)] [] fun k x => icopyHeads_l0 k x.1 x.2.1 x.2.2.1 x.2.2.2
def L_icopyHeads : List (Nat × LSpec (denRs (S_icopyHeads.res ++ outM S_icopyHeads.ps))) := [(0, L_icopyHeads_0)]
def N_icopyHeads : List (Nat × Sig) := [(112, S_iHead_copied)]
theorem r_icopyHeads_0 : ∀ k, runL tt (alook N_icopyHeads) k Tryz.f97 S_icopyHeads.ps S_icopyHeads.res (alook L_icopyHeads) 0 L_icopyHeads_0 := by intro k x; kernel_rfl
theorem t_icopyHeads : ∀ k x, runF tt (alook N_icopyHeads) k Tryz.f97 S_icopyHeads.ps S_icopyHeads.res (alook L_icopyHeads) x = S_icopyHeads.F k x := by intro k x; kernel_rfl
def L_weqProof : List (Nat × LSpec (denRs (S_weqProof.res ++ outM S_weqProof.ps))) := []
def N_weqProof : List (Nat × Sig) := [(178, S_weqQc), (292, S_weqHeadS)]
theorem t_weqProof : ∀ k x, runF tt (alook N_weqProof) k Tryz.f182 S_weqProof.ps S_weqProof.res (alook L_weqProof) x = S_weqProof.F k x := by intro k x; kernel_rfl
def L_weqVote : List (Nat × LSpec (denRs (S_weqVote.res ++ outM S_weqVote.ps))) := []
def N_weqVote : List (Nat × Sig) := [(76, S_weqByteS)]
theorem t_weqVote : ∀ k x, runF tt (alook N_weqVote) k Tryz.f177 S_weqVote.ps S_weqVote.res (alook L_weqVote) x = S_weqVote.F k x := by intro k x; kernel_rfl
def L_wszBlock : List (Nat × LSpec (denRs (S_wszBlock.res ++ outM S_wszBlock.ps))) := []
def N_wszBlock : List (Nat × Sig) := [(161, S_wszHead), (268, S_wszByteSS)]
theorem t_wszBlock : ∀ k x, runF tt (alook N_wszBlock) k Tryz.f162 S_wszBlock.ps S_wszBlock.res (alook L_wszBlock) x = S_wszBlock.F k x := by intro k x; kernel_rfl
def L_iVoteOk : List (Nat × LSpec (denRs (S_iVoteOk.res ++ outM S_iVoteOk.ps))) := []
def N_iVoteOk : List (Nat × Sig) := [(149, S_iLimitsOk), (150, S_iisNum), (213, S_iwithin), (227, S_iareHashes)]
theorem t_iVoteOk : ∀ k x, runF tt (alook N_iVoteOk) k Tryz.f117 S_iVoteOk.ps S_iVoteOk.res (alook L_iVoteOk) x = S_iVoteOk.F k x := by intro k x; kernel_rfl
def L_iPutText : List (Nat × LSpec (denRs (S_iPutText.res ++ outM S_iPutText.ps))) := []
def N_iPutText : List (Nat × Sig) := [(232, S_iPutVar)]
theorem t_iPutText : ∀ k x, runF tt (alook N_iPutText) k Tryz.f132 S_iPutText.ps S_iPutText.res (alook L_iPutText) x = S_iPutText.F k x := by intro k x; kernel_rfl
def L_iInclOk : List (Nat × LSpec (denRs (S_iInclOk.res ++ outM S_iInclOk.ps))) := []
def N_iInclOk : List (Nat × Sig) := [(149, S_iLimitsOk), (150, S_iisNum), (213, S_iwithin), (227, S_iareHashes), (244, S_iPathLen)]
theorem t_iInclOk : ∀ k x, runF tt (alook N_iInclOk) k Tryz.f141 S_iInclOk.ps S_iInclOk.res (alook L_iInclOk) x = S_iInclOk.F k x := by intro k x; kernel_rfl
def L_ireadVote : List (Nat × LSpec (denRs (S_ireadVote.res ++ outM S_ireadVote.ps))) := []
def N_ireadVote : List (Nat × Sig) := [(233, S_ireader_num), (234, S_ireader_hash), (235, S_ireader_below)]
theorem t_ireadVote : ∀ k x, runF tt (alook N_ireadVote) k Tryz.f121 S_ireadVote.ps S_ireadVote.res (alook L_ireadVote) x = S_ireadVote.F k x := by intro k x; kernel_rfl
def L_iGetQc : List (Nat × LSpec (denRs (S_iGetQc.res ++ outM S_iGetQc.ps))) := []
def N_iGetQc : List (Nat × Sig) := [(124, S_iget_implQc)]
theorem t_iGetQc : ∀ k x, runF tt (alook N_iGetQc) k Tryz.f33 S_iGetQc.ps S_iGetQc.res (alook L_iGetQc) x = S_iGetQc.F k x := by intro k x; kernel_rfl
def L_ireadBlock_0 : LSpec (denRs (S_ireadBlock.res ++ outM S_ireadBlock.ps)) := .mk [(1, .pbox (.sh tl01Cur)), (2, .pbox (.sh tLimits)), (4, .pbox (.pair (.pair (.sh i64) (.pair (.sh i64) (.pair (.sh i64) (.pair (.own u8 false) (.pair (.own u8 false) (.pair (.pair (.sh i64) (.pair (.sh i64) (.pair (.own u8 false) (.pair (.own u8 false) (.pair (.own bs false) .unit))))) .unit)))))) (.pair (.own bs false) .unit))), (5, .pbox (.pair (.sh tHead) (.pair (.own bs false) .unit))), (6, .sh i64), (7, .sh i64)] [(1, .pbox (.sh tl01Cur)), (4, .pbox (.pair (.pair (.sh i64) (.pair (.sh i64) (.pair (.sh i64) (.pair (.own u8 false) (.pair (.own u8 false) (.pair (.pair (.sh i64) (.pair (.sh i64) (.pair (.own u8 false) (.pair (.own u8 false) (.pair (.own bs false) .unit))))) .unit)))))) (.pair (.own bs false) .unit))), (5, .pbox (.pair (.sh tHead) (.pair (.own bs false) .unit)))] [] fun k x => ireadBlock_l0 k x.1 x.2.1 x.2.2.1 x.2.2.2.1 x.2.2.2.2.1 x.2.2.2.2.2
def L_ireadBlock : List (Nat × LSpec (denRs (S_ireadBlock.res ++ outM S_ireadBlock.ps))) := [(0, L_ireadBlock_0)]
def N_ireadBlock : List (Nat × Sig) := [(65, S_iSameBytes), (129, S_ireadHead), (235, S_ireader_below), (238, S_ireader_must), (242, S_iTreeRoot), (243, S_ireader_text)]
theorem r_ireadBlock_0 : ∀ k, runL tt (alook N_ireadBlock) k Tryz.f134 S_ireadBlock.ps S_ireadBlock.res (alook L_ireadBlock) 0 L_ireadBlock_0 := by intro k x; kernel_rfl
theorem t_ireadBlock : ∀ k x, runF tt (alook N_ireadBlock) k Tryz.f134 S_ireadBlock.ps S_ireadBlock.res (alook L_ireadBlock) x = S_ireadBlock.F k x := by intro k x; kernel_rfl
def L_iTreeSame_0 : LSpec (denRs (S_iTreeSame.res ++ outM S_iTreeSame.ps)) := .mkR [(0, .sh (.slice bs)), (1, .sh (.slice bs)), (12, .sh i64), (13, .sh i64)] [] [] fun k x => iTreeSame_l0 k x.1 x.2.1 x.2.2.1 x.2.2.2
def L_iTreeSame : List (Nat × LSpec (denRs (S_iTreeSame.res ++ outM S_iTreeSame.ps))) := [(0, L_iTreeSame_0)]
def N_iTreeSame : List (Nat × Sig) := [(65, S_iSameBytes)]
theorem r_iTreeSame_0 : ∀ k, runL tt (alook N_iTreeSame) k Tryz.f126 S_iTreeSame.ps S_iTreeSame.res (alook L_iTreeSame) 0 L_iTreeSame_0 := by intro k x; kernel_rfl
theorem t_iTreeSame : ∀ k x, runF tt (alook N_iTreeSame) k Tryz.f126 S_iTreeSame.ps S_iTreeSame.res (alook L_iTreeSame) x = S_iTreeSame.F k x := by intro k x; kernel_rfl
def L_iheadsSame_0 : LSpec (denRs (S_iheadsSame.res ++ outM S_iheadsSame.ps)) := .mkR [(0, .sh (.slice tHead)), (1, .sh (.slice tHead)), (12, .sh i64), (13, .sh i64)] [] [] fun k x => iheadsSame_l0 k x.1 x.2.1 x.2.2.1 x.2.2.2
def L_iheadsSame : List (Nat × LSpec (denRs (S_iheadsSame.res ++ outM S_iheadsSame.ps))) := [(0, L_iheadsSame_0)]
def N_iheadsSame : List (Nat × Sig) := [(24, S_iHeadSame)]
theorem r_iheadsSame_0 : ∀ k, runL tt (alook N_iheadsSame) k Tryz.f114 S_iheadsSame.ps S_iheadsSame.res (alook L_iheadsSame) 0 L_iheadsSame_0 := by intro k x; kernel_rfl
theorem t_iheadsSame : ∀ k x, runF tt (alook N_iheadsSame) k Tryz.f114 S_iheadsSame.ps S_iheadsSame.res (alook L_iheadsSame) x = S_iheadsSame.F k x := by intro k x; kernel_rfl
def L_iPushOk : List (Nat × LSpec (denRs (S_iPushOk.res ++ outM S_iPushOk.ps))) := []
def N_iPushOk : List (Nat × Sig) := [(148, S_iFrameAt), (149, S_iLimitsOk), (150, S_iisNum)]
theorem t_iPushOk : ∀ k x, runF tt (alook N_iPushOk) k Tryz.f54 S_iPushOk.ps S_iPushOk.res (alook L_iPushOk) x = S_iPushOk.F k x := by intro k x; kernel_rfl
def L_iFeed : List (Nat × LSpec (denRs (S_iFeed.res ++ outM S_iFeed.ps))) := []
def N_iFeed : List (Nat × Sig) := [(54, S_iPushOk), (108, S_icopyBytes), (145, S_iPush_copied), (152, S_iscan)]
theorem t_iFeed : ∀ k x, runF tt (alook N_iFeed) k Tryz.f146 S_iFeed.ps S_iFeed.res (alook L_iFeed) x = S_iFeed.F k x := by intro k x; kernel_rfl
def L_iTableSame_0 : LSpec (denRs (S_iTableSame.res ++ outM S_iTableSame.ps)) := .mkR [(2, .pbox (.sh tTable)), (3, .pbox (.sh tTable)), (15, .sh i64), (16, .sh i64)] [] [] fun k x => iTableSame_l0 k x.1 x.2.1 x.2.2.1 x.2.2.2
def L_iTableSame : List (Nat × LSpec (denRs (S_iTableSame.res ++ outM S_iTableSame.ps))) := [(0, L_iTableSame_0)]
def N_iTableSame : List (Nat × Sig) := [(65, S_iSameBytes)]
theorem r_iTableSame_0 : ∀ k, runL tt (alook N_iTableSame) k Tryz.f113 S_iTableSame.ps S_iTableSame.res (alook L_iTableSame) 0 L_iTableSame_0 := by intro k x; kernel_rfl
theorem t_iTableSame : ∀ k x, runF tt (alook N_iTableSame) k Tryz.f113 S_iTableSame.ps S_iTableSame.res (alook L_iTableSame) x = S_iTableSame.F k x := by intro k x; kernel_rfl
def L_iTable_copied_0 : LSpec (denRs (S_iTable_copied.res ++ outM S_iTable_copied.ps)) := .mk [(2, .pbox (.pair (.own tPush false) .unit)), (3, .pbox (.pair (.own tPush false) .unit)), (8, .sh (.slice tPush)), (9, .sh i64), (10, .sh i64)] [(2, .pbox (.pair (.own tPush false) .unit)), (3, .pbox (.pair (.own tPush false) .unit))] [] fun k x => iTable_copied_l0 k x.1 x.2.1 x.2.2.1 x.2.2.2.1 x.2.2.2.2
def L_iTable_copied : List (Nat × LSpec (denRs (S_iTable_copied.res ++ outM S_iTable_copied.ps))) := [(0, L_iTable_copied_0)]
def N_iTable_copied : List (Nat × Sig) := [(108, S_icopyBytes)]
theorem r_iTable_copied_0 : ∀ k, runL tt (alook N_iTable_copied) k Tryz.f95 S_iTable_copied.ps S_iTable_copied.res (alook L_iTable_copied) 0 L_iTable_copied_0 := by intro k x; kernel_rfl
theorem t_iTable_copied : ∀ k x, runF tt (alook N_iTable_copied) k Tryz.f95 S_iTable_copied.ps S_iTable_copied.res (alook L_iTable_copied) x = S_iTable_copied.F k x := by intro k x; kernel_rfl
def L_iBuildQc_0 : LSpec (denRs (S_iBuildQc.res ++ outM S_iBuildQc.ps)) := .mk [(2, .sh i64), (3, .sh i64), (4, .sh bs), (6, .pbox (.sh tLimits)), (7, .pbox (.sh tTable)), (12, .pbox (.pair (.sh i64) (.pair (.sh i64) (.pair (.own u8 false) (.pair (.own u8 false) (.pair (.own bs false) .unit)))))), (14, .pbox (.pair (.sh i64) (.pair (.sh i64) (.pair (.own u8 true) (.pair (.own u8 true) (.pair (.own bs false) .unit)))))), (39, .own i64 true), (40, .sh i64), (41, .sh i64)] [(6, .pbox (.sh tLimits)), (12, .pbox (.pair (.sh i64) (.pair (.sh i64) (.pair (.own u8 false) (.pair (.own u8 false) (.pair (.own bs false) .unit)))))), (14, .pbox (.pair (.sh i64) (.pair (.sh i64) (.pair (.own u8 true) (.pair (.own u8 true) (.pair (.own bs false) .unit))))))] [] fun k x => iBuildQc_l0 k x.1 x.2.1 x.2.2.1 x.2.2.2.1 x.2.2.2.2.1 x.2.2.2.2.2.1 x.2.2.2.2.2.2.1 x.2.2.2.2.2.2.2.1 x.2.2.2.2.2.2.2.2.1 x.2.2.2.2.2.2.2.2.2
def L_iBuildQc : List (Nat × LSpec (denRs (S_iBuildQc.res ++ outM S_iBuildQc.ps))) := [(0, L_iBuildQc_0)]
def N_iBuildQc : List (Nat × Sig) := [(94, S_ibelongs), (108, S_icopyBytes), (122, S_iQcOk), (210, S_iBitsOk), (211, S_iBitsList), (212, S_iSignVote)]
theorem r_iBuildQc_0 : ∀ k, runL tt (alook N_iBuildQc) k Tryz.f96 S_iBuildQc.ps S_iBuildQc.res (alook L_iBuildQc) 0 L_iBuildQc_0 := by intro k x; kernel_rfl
theorem t_iBuildQc : ∀ k x, runF tt (alook N_iBuildQc) k Tryz.f96 S_iBuildQc.ps S_iBuildQc.res (alook L_iBuildQc) x = S_iBuildQc.F k x := by intro k x; kernel_rfl
def L_wtoMsgS_0 : LSpec (denRs (S_wtoMsgS.res ++ outM S_wtoMsgS.ps)) := .mk [(0, .sh (.slice tMsg)), (3, .own tMsg true), (4, .sh i64)] [(3, .own tMsg true)] [] fun k x => wtoMsgS_l0 k x.1 x.2.1 x.2.2
def L_wtoMsgS : List (Nat × LSpec (denRs (S_wtoMsgS.res ++ outM S_wtoMsgS.ps))) := [(0, L_wtoMsgS_0)]
def N_wtoMsgS : List (Nat × Sig) := [(69, S_wtoMsg)]
theorem r_wtoMsgS_0 : ∀ k, runL tt (alook N_wtoMsgS) k Tryz.f84 S_wtoMsgS.ps S_wtoMsgS.res (alook L_wtoMsgS) 0 L_wtoMsgS_0 := by intro k x; kernel_rfl
theorem t_wtoMsgS : ∀ k x, runF tt (alook N_wtoMsgS) k Tryz.f84 S_wtoMsgS.ps S_wtoMsgS.res (alook L_wtoMsgS) x = S_wtoMsgS.F k x := by intro k x; kernel_rfl
def L_iSkipped_0 : LSpec (denRs (S_iSkipped.res ++ outM S_iSkipped.ps)) := .mk [(3, .sh i64), (6, .sh (.slice tEvent)), (7, .sh i64), (8, .sh i64)] [(3, .sh i64)] [] fun k x => iSkipped_l0 k x.1 x.2.1 x.2.2.1 x.2.2.2
def L_iSkipped : List (Nat × LSpec (denRs (S_iSkipped.res ++ outM S_iSkipped.ps))) := [(0, L_iSkipped_0)]
def N_iSkipped : List (Nat × Sig) := [(150, S_iisNum)]
theorem r_iSkipped_0 : ∀ k, runL tt (alook N_iSkipped) k Tryz.f81 S_iSkipped.ps S_iSkipped.res (alook L_iSkipped) 0 L_iSkipped_0 := by intro k x; kernel_rfl
theorem t_iSkipped : ∀ k x, runF tt (alook N_iSkipped) k Tryz.f81 S_iSkipped.ps S_iSkipped.res (alook L_iSkipped) x = S_iSkipped.F k x := by intro k x; kernel_rfl
def L_iFrames_0 : LSpec (denRs (S_iFrames.res ++ outM S_iFrames.ps)) := .mkR [(2, .pbox (.sh tLimits)), (6, .own u8 true), (14, .sh (.slice tMsg)), (15, .sh i64), (16, .sh i64)] [(6, .own u8 true)] [] fun k x => iFrames_l0 k x.1 x.2.1 x.2.2.1 x.2.2.2.1 x.2.2.2.2
def L_iFrames : List (Nat × LSpec (denRs (S_iFrames.res ++ outM S_iFrames.ps))) := [(0, L_iFrames_0)]
def N_iFrames : List (Nat × Sig) := [(58, S_iEncode), (185, S_iFrame)]
theorem r_iFrames_0 : ∀ k, runL tt (alook N_iFrames) k Tryz.f74 S_iFrames.ps S_iFrames.res (alook L_iFrames) 0 L_iFrames_0 := by intro k x; kernel_rfl
theorem t_iFrames : ∀ k x, runF tt (alook N_iFrames) k Tryz.f74 S_iFrames.ps S_iFrames.res (alook L_iFrames) x = S_iFrames.F k x := by intro k x; kernel_rfl
def L_iFeedAll_0 : LSpec (denRs (S_iFeedAll.res ++ outM S_iFeedAll.ps)) := .mk [(3, .pbox (.sh tLimits)), (6, .pbox (.pair (.sh i64) (.pair (.own u8 false) .unit))), (8, .pbox (.sh tPush)), (9, .own tEvent true), (17, .sh (.slice bs)), (18, .sh i64), (19, .sh i64)] [(6, .pbox (.pair (.sh i64) (.pair (.own u8 false) .unit))), (8, .pbox (.sh tPush)), (9, .own tEvent true)] [] fun k x => iFeedAll_l0 k x.1 x.2.1 x.2.2.1 x.2.2.2.1 x.2.2.2.2.1 x.2.2.2.2.2.1 x.2.2.2.2.2.2
def L_iFeedAll : List (Nat × LSpec (denRs (S_iFeedAll.res ++ outM S_iFeedAll.ps))) := [(0, L_iFeedAll_0)]
def N_iFeedAll : List (Nat × Sig) := [(145, S_iPush_copied), (146, S_iFeed)]
theorem r_iFeedAll_0 : ∀ k, runL tt (alook N_iFeedAll) k Tryz.f52 S_iFeedAll.ps S_iFeedAll.res (alook L_iFeedAll) 0 L_iFeedAll_0 := by intro k x; kernel_rfl
theorem t_iFeedAll : ∀ k x, runF tt (alook N_iFeedAll) k Tryz.f52 S_iFeedAll.ps S_iFeedAll.res (alook L_iFeedAll) x = S_iFeedAll.F k x := by intro k x; kernel_rfl
def L_iJudge : List (Nat × LSpec (denRs (S_iJudge.res ++ outM S_iJudge.ps))) := []
def N_iJudge : List (Nat × Sig) := [(64, S_iMsgOk), (99, S_iLight_copied), (100, S_iLightOk), (101, S_igoodOr), (102, S_iQcCode), (103, S_iTcCode), (104, S_iLight_commit), (105, S_iKnown), (106, S_iPathOk)]
theorem t_iJudge : ∀ k x, runF tt (alook N_iJudge) k Tryz.f19 S_iJudge.ps S_iJudge.res (alook L_iJudge) x = S_iJudge.F k x := by intro k x; kernel_rfl
def L_wFnExactMsgSize : List (Nat × LSpec (denRs (S_wFnExactMsgSize.res ++ outM S_wFnExactMsgSize.ps))) := []
def N_wFnExactMsgSize : List (Nat × Sig) := [(50, S_iMsgSize), (66, S_wszMsg), (68, S_wtoLimits), (69, S_wtoMsg), (70, S_weqMsg), (71, S_sMsgSize)]
theorem t_wFnExactMsgSize : ∀ k x, runF tt (alook N_wFnExactMsgSize) k Tryz.f9 S_wFnExactMsgSize.ps S_wFnExactMsgSize.res (alook L_wFnExactMsgSize) x = S_wFnExactMsgSize.F k x := by intro k x; kernel_rfl
def L_wFnExactMsgOk : List (Nat × LSpec (denRs (S_wFnExactMsgOk.res ++ outM S_wFnExactMsgOk.ps))) := []
def N_wFnExactMsgOk : List (Nat × Sig) := [(64, S_iMsgOk), (66, S_wszMsg), (67, S_sMsgOk), (68, S_wtoLimits), (69, S_wtoMsg), (70, S_weqMsg)]
theorem t_wFnExactMsgOk : ∀ k x, runF tt (alook N_wFnExactMsgOk) k Tryz.f8 S_wFnExactMsgOk.ps S_wFnExactMsgOk.res (alook L_wFnExactMsgOk) x = S_wFnExactMsgOk.F k x := by intro k x; kernel_rfl
def L_wFnClash : List (Nat × LSpec (denRs (S_wFnClash.res ++ outM S_wFnClash.ps))) := []
def N_wFnClash : List (Nat × Sig) := [(15, S_sMakeChain), (16, S_sMakeFull), (17, S_iLightNew), (18, S_iBuildProof), (19, S_iJudge), (20, S_iOfProof), (21, S_iFirstHead), (22, S_sMakeHash), (23, S_iNextHead), (24, S_iHeadSame), (25, S_iLightSame)]
theorem t_wFnClash : ∀ k x, runF tt (alook N_wFnClash) k Tryz.f3 S_wFnClash.ps S_wFnClash.res (alook L_wFnClash) x = S_wFnClash.F k x := by intro k x; kernel_rfl
end Go.Ev.G
