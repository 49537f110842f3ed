/- The functions run in the evaluator as their plain functions say. No condition. -/
import Derived.Test.YtmbpdaffnabjcaaGreatS
set_option linter.unusedVariables false
set_option linter.unusedSimpArgs false
set_option linter.unusedSectionVars false
/- Proofs: printed by gen.py. -/
namespace Go.Ev.G
open Go.Ev Go.Proofs
set_option linter.unusedVariables false
def L_sShaPad_0 : LSpec (denRs (S_sShaPad.res ++ outM S_sShaPad.ps)) := .mk [(0, .sh bs), (3, .own u8 true)] [(0, .sh bs), (3, .own u8 true)] [] fun k x => sShaPad_l0 k x.1 x.2
def L_sShaPad_2 : LSpec (denRs (S_sShaPad.res ++ outM S_sShaPad.ps)) := .mk [(3, .own u8 true), (4, .sh i64), (5, .sh i64)] [(3, .own u8 true)] [] fun k x => sShaPad_l2 k x.1 x.2.1 x.2.2
def L_sShaPad : List (Nat × LSpec (denRs (S_sShaPad.res ++ outM S_sShaPad.ps))) := [(0, L_sShaPad_0), (2, L_sShaPad_2)]
def N_sShaPad : List (Nat × Sig) := [(199, S_sl01Copy)]
theorem r_sShaPad_0 : ∀ k, runL tt (alook N_sShaPad) k Tryz.f359 S_sShaPad.ps S_sShaPad.res (alook L_sShaPad) 0 L_sShaPad_0 := by intro k x; kernel_rfl
theorem r_sShaPad_2 : ∀ k, runL tt (alook N_sShaPad) k Tryz.f359 S_sShaPad.ps S_sShaPad.res (alook L_sShaPad) 2 L_sShaPad_2 := by intro k x; kernel_rfl
theorem t_sShaPad : ∀ k x, runF tt (alook N_sShaPad) k Tryz.f359 S_sShaPad.ps S_sShaPad.res (alook L_sShaPad) x = S_sShaPad.F k x := by intro k x; kernel_rfl
def L_sPutVar_0 : LSpec (denRs (S_sPutVar.res ++ outM S_sPutVar.ps)) := .mk [(1, .sh i64), (6, .own u8 true)] [(1, .sh i64), (6, .own u8 true)] [] fun k x => sPutVar_l0 k x.1 x.2
def L_sPutVar : List (Nat × LSpec (denRs (S_sPutVar.res ++ outM S_sPutVar.ps))) := [(0, L_sPutVar_0)]
def N_sPutVar : List (Nat × Sig) := [(199, S_sl01Copy), (301, S_sl01Num)]
theorem r_sPutVar_0 : ∀ k, runL tt (alook N_sPutVar) k Tryz.f374 S_sPutVar.ps S_sPutVar.res (alook L_sPutVar) 0 L_sPutVar_0 := by intro k x; kernel_rfl
theorem t_sPutVar : ∀ k x, runF tt (alook N_sPutVar) k Tryz.f374 S_sPutVar.ps S_sPutVar.res (alook L_sPutVar) x = S_sPutVar.F k x := by intro k x; kernel_rfl
def L_iwithin : List (Nat × LSpec (denRs (S_iwithin.res ++ outM S_iwithin.ps))) := []
def N_iwithin : List (Nat × Sig) := []
theorem t_iwithin : ∀ k x, runF tt (alook N_iwithin) k Tryz.f213 S_iwithin.ps S_iwithin.res (alook L_iwithin) x = S_iwithin.F k x := by intro k x; kernel_rfl
def L_icopyBytes : List (Nat × LSpec (denRs (S_icopyBytes.res ++ outM S_icopyBytes.ps))) := []
def N_icopyBytes : List (Nat × Sig) := []
theorem t_icopyBytes : ∀ k x, runF tt (alook N_icopyBytes) k Tryz.f108 S_icopyBytes.ps S_icopyBytes.res (alook L_icopyBytes) x = S_icopyBytes.F k x := by intro k x; kernel_rfl
def L_inumbers_0 : LSpec (denRs (S_inumbers.res ++ outM S_inumbers.ps)) := .mkR [(5, .opt u8), (12, .sh is), (13, .sh i64), (14, .sh i64)] [(5, .opt u8)] [] fun k x => inumbers_l0 k x.1 x.2.1 x.2.2.1 x.2.2.2
def L_inumbers : List (Nat × LSpec (denRs (S_inumbers.res ++ outM S_inumbers.ps))) := [(0, L_inumbers_0)]
def N_inumbers : List (Nat × Sig) := [(232, S_iPutVar)]
theorem r_inumbers_0 : ∀ k, runL tt (alook N_inumbers) k Tryz.f364 S_inumbers.ps S_inumbers.res (alook L_inumbers) 0 L_inumbers_0 := by intro k x; kernel_rfl
theorem t_inumbers : ∀ k x, runF tt (alook N_inumbers) k Tryz.f364 S_inumbers.ps S_inumbers.res (alook L_inumbers) x = S_inumbers.F k x := by intro k x; kernel_rfl
def L_iMacKey : List (Nat × LSpec (denRs (S_iMacKey.res ++ outM S_iMacKey.ps))) := []
def N_iMacKey : List (Nat × Sig) := [(130, S_iSha)]
theorem t_iMacKey : ∀ k x, runF tt (alook N_iMacKey) k Tryz.f365 S_iMacKey.ps S_iMacKey.res (alook L_iMacKey) x = S_iMacKey.F k x := by intro k x; kernel_rfl
def L_sVoteBytes : List (Nat × LSpec (denRs (S_sVoteBytes.res ++ outM S_sVoteBytes.ps))) := []
def N_sVoteBytes : List (Nat × Sig) := [(301, S_sl01Num), (302, S_sl07Hash), (348, S_sl11Num)]
theorem t_sVoteBytes : ∀ k x, runF tt (alook N_sVoteBytes) k Tryz.f362 S_sVoteBytes.ps S_sVoteBytes.res (alook L_sVoteBytes) x = S_sVoteBytes.F k x := by intro k x; kernel_rfl
def L_sl08Hashes_0 : LSpec (denRs (S_sl08Hashes.res ++ outM S_sl08Hashes.ps)) := .mkR [(5, .sh (.slice bs)), (6, .sh i64), (7, .sh i64)] [] [] fun k x => sl08Hashes_l0 k x.1 x.2.1 x.2.2
def L_sl08Hashes : List (Nat × LSpec (denRs (S_sl08Hashes.res ++ outM S_sl08Hashes.ps))) := [(0, L_sl08Hashes_0)]
def N_sl08Hashes : List (Nat × Sig) := [(302, S_sl07Hash)]
theorem r_sl08Hashes_0 : ∀ k, runL tt (alook N_sl08Hashes) k Tryz.f357 S_sl08Hashes.ps S_sl08Hashes.res (alook L_sl08Hashes) 0 L_sl08Hashes_0 := by intro k x; kernel_rfl
theorem t_sl08Hashes : ∀ k x, runF tt (alook N_sl08Hashes) k Tryz.f357 S_sl08Hashes.ps S_sl08Hashes.res (alook L_sl08Hashes) x = S_sl08Hashes.F k x := by intro k x; kernel_rfl
def L_wtoEntry : List (Nat × LSpec (denRs (S_wtoEntry.res ++ outM S_wtoEntry.ps))) := []
def N_wtoEntry : List (Nat × Sig) := [(286, S_wtoByteS)]
theorem t_wtoEntry : ∀ k x, runF tt (alook N_wtoEntry) k Tryz.f354 S_wtoEntry.ps S_wtoEntry.res (alook L_wtoEntry) x = S_wtoEntry.F k x := by intro k x; kernel_rfl
def L_sLimitsOk : List (Nat × LSpec (denRs (S_sLimitsOk.res ++ outM S_sLimitsOk.ps))) := []
def N_sLimitsOk : List (Nat × Sig) := [(271, S_sl01In), (299, S_sl02Signers)]
theorem t_sLimitsOk : ∀ k x, runF tt (alook N_sLimitsOk) k Tryz.f297 S_sLimitsOk.ps S_sLimitsOk.res (alook L_sLimitsOk) x = S_sLimitsOk.F k x := by intro k x; kernel_rfl
def L_sBitsOk : List (Nat × LSpec (denRs (S_sBitsOk.res ++ outM S_sBitsOk.ps))) := []
def N_sBitsOk : List (Nat × Sig) := [(208, S_sBitsSize), (299, S_sl02Signers), (307, S_sBitsList)]
theorem t_sBitsOk : ∀ k x, runF tt (alook N_sBitsOk) k Tryz.f306 S_sBitsOk.ps S_sBitsOk.res (alook L_sBitsOk) x = S_sBitsOk.F k x := by intro k x; kernel_rfl
def L_sProofOk_0 : LSpec (denRs (S_sProofOk.res ++ outM S_sProofOk.ps)) := .mkR [(2, .pbox (.sh tLimits)), (3, .pbox (.sh tProof)), (20, .sh (.slice tHead)), (21, .sh i64), (22, .sh i64)] [(2, .pbox (.sh tLimits)), (3, .pbox (.sh tProof))] [] fun k x => sProofOk_l0 k x.1 x.2.1 x.2.2.1 x.2.2.2.1 x.2.2.2.2
def L_sProofOk : List (Nat × LSpec (denRs (S_sProofOk.res ++ outM S_sProofOk.ps))) := [(0, L_sProofOk_0)]
def N_sProofOk : List (Nat × Sig) := [(202, S_sHeadOk), (271, S_sl01In), (297, S_sLimitsOk), (303, S_sQcOk), (375, S_sl16Fits)]
theorem r_sProofOk_0 : ∀ k, runL tt (alook N_sProofOk) k Tryz.f352 S_sProofOk.ps S_sProofOk.res (alook L_sProofOk) 0 L_sProofOk_0 := by intro k x; kernel_rfl
theorem t_sProofOk : ∀ k x, runF tt (alook N_sProofOk) k Tryz.f352 S_sProofOk.ps S_sProofOk.res (alook L_sProofOk) x = S_sProofOk.F k x := by intro k x; kernel_rfl
def L_wszByteS : List (Nat × LSpec (denRs (S_wszByteS.res ++ outM S_wszByteS.ps))) := []
def N_wszByteS : List (Nat × Sig) := []
theorem t_wszByteS : ∀ k x, runF tt (alook N_wszByteS) k Tryz.f267 S_wszByteS.ps S_wszByteS.res (alook L_wszByteS) x = S_wszByteS.F k x := by intro k x; kernel_rfl
def L_sl16Incl : List (Nat × LSpec (denRs (S_sl16Incl.res ++ outM S_sl16Incl.ps))) := []
def N_sl16Incl : List (Nat × Sig) := [(199, S_sl01Copy), (369, S_sl06Copy)]
theorem t_sl16Incl : ∀ k x, runF tt (alook N_sl16Incl) k Tryz.f343 S_sl16Incl.ps S_sl16Incl.res (alook L_sl16Incl) x = S_sl16Incl.F k x := by intro k x; kernel_rfl
def L_sl01Pick : List (Nat × LSpec (denRs (S_sl01Pick.res ++ outM S_sl01Pick.ps))) := []
def N_sl01Pick : List (Nat × Sig) := [(90, S_sl01Below)]
theorem t_sl01Pick : ∀ k x, runF tt (alook N_sl01Pick) k Tryz.f229 S_sl01Pick.ps S_sl01Pick.res (alook L_sl01Pick) x = S_sl01Pick.F k x := by intro k x; kernel_rfl
def L_sBitsNew : List (Nat × LSpec (denRs (S_sBitsNew.res ++ outM S_sBitsNew.ps))) := []
def N_sBitsNew : List (Nat × Sig) := [(208, S_sBitsSize), (299, S_sl02Signers)]
theorem t_sBitsNew : ∀ k x, runF tt (alook N_sBitsNew) k Tryz.f200 S_sBitsNew.ps S_sBitsNew.res (alook L_sBitsNew) x = S_sBitsNew.F k x := by intro k x; kernel_rfl
def L_sl13Draw : List (Nat × LSpec (denRs (S_sl13Draw.res ++ outM S_sl13Draw.ps))) := []
def N_sl13Draw : List (Nat × Sig) := [(90, S_sl01Below), (91, S_sl11Hash), (199, S_sl01Copy), (250, S_sl12Draw)]
theorem t_sl13Draw : ∀ k x, runF tt (alook N_sl13Draw) k Tryz.f252 S_sl13Draw.ps S_sl13Draw.res (alook L_sl13Draw) x = S_sl13Draw.F k x := by intro k x; kernel_rfl
def L_sl16Copy : List (Nat × LSpec (denRs (S_sl16Copy.res ++ outM S_sl16Copy.ps))) := []
def N_sl16Copy : List (Nat × Sig) := [(333, S_sl12Copy), (371, S_sl16Heads)]
theorem t_sl16Copy : ∀ k x, runF tt (alook N_sl16Copy) k Tryz.f341 S_sl16Copy.ps S_sl16Copy.res (alook L_sl16Copy) x = S_sl16Copy.F k x := by intro k x; kernel_rfl
def L_sl01Bytes_0 : LSpec (denRs (S_sl01Bytes.res ++ outM S_sl01Bytes.ps)) := .mk [(0, .pbox (.sh tl01Cur)), (5, .own u8 true), (6, .sh i64)] [(0, .pbox (.sh tl01Cur)), (5, .own u8 true)] [] fun k x => sl01Bytes_l0 k x.1 x.2.1 x.2.2
def L_sl01Bytes : List (Nat × LSpec (denRs (S_sl01Bytes.res ++ outM S_sl01Bytes.ps))) := [(0, L_sl01Bytes_0)]
def N_sl01Bytes : List (Nat × Sig) := [(90, S_sl01Below), (203, S_sl01Byte)]
theorem r_sl01Bytes_0 : ∀ k, runL tt (alook N_sl01Bytes) k Tryz.f184 S_sl01Bytes.ps S_sl01Bytes.res (alook L_sl01Bytes) 0 L_sl01Bytes_0 := by intro k x; kernel_rfl
theorem t_sl01Bytes : ∀ k x, runF tt (alook N_sl01Bytes) k Tryz.f184 S_sl01Bytes.ps S_sl01Bytes.res (alook L_sl01Bytes) x = S_sl01Bytes.F k x := by intro k x; kernel_rfl
def L_iGetRaw : List (Nat × LSpec (denRs (S_iGetRaw.res ++ outM S_iGetRaw.ps))) := []
def N_iGetRaw : List (Nat × Sig) := [(108, S_icopyBytes), (213, S_iwithin)]
theorem t_iGetRaw : ∀ k x, runF tt (alook N_iGetRaw) k Tryz.f325 S_iGetRaw.ps S_iGetRaw.res (alook L_iGetRaw) x = S_iGetRaw.F k x := by intro k x; kernel_rfl
def L_ipathRoot : List (Nat × LSpec (denRs (S_ipathRoot.res ++ outM S_ipathRoot.ps))) := []
def N_ipathRoot : List (Nat × Sig) := [(108, S_icopyBytes), (329, S_iSplitAt), (330, S_iNodeHash)]
theorem t_ipathRoot : ∀ k x, runF tt (alook ((319, S_ipathRoot) :: N_ipathRoot)) k Tryz.f319 S_ipathRoot.ps S_ipathRoot.res (alook L_ipathRoot) x = S_ipathRoot.F (k + 1) x := by intro k x; kernel_rfl
def L_math_bits_OnesCount8 : List (Nat × LSpec (denRs (S_math_bits_OnesCount8.res ++ outM S_math_bits_OnesCount8.ps))) := []
def N_math_bits_OnesCount8 : List (Nat × Sig) := []
theorem t_math_bits_OnesCount8 : ∀ k x, runF tt (alook N_math_bits_OnesCount8) k Tryz.f324 S_math_bits_OnesCount8.ps S_math_bits_OnesCount8.res (alook L_math_bits_OnesCount8) x = S_math_bits_OnesCount8.F k x := by intro k x; kernel_rfl
def L_iwriter_raw : List (Nat × LSpec (denRs (S_iwriter_raw.res ++ outM S_iwriter_raw.ps))) := []
def N_iwriter_raw : List (Nat × Sig) := []
theorem t_iwriter_raw : ∀ k x, runF tt (alook N_iwriter_raw) k Tryz.f119 S_iwriter_raw.ps S_iwriter_raw.res (alook L_iwriter_raw) x = S_iwriter_raw.F k x := by intro k x; kernel_rfl
def L_iPutHead : List (Nat × LSpec (denRs (S_iPutHead.res ++ outM S_iPutHead.ps))) := []
def N_iPutHead : List (Nat × Sig) := [(108, S_icopyBytes), (110, S_iHeadOk), (127, S_iwriter_head)]
theorem t_iPutHead : ∀ k x, runF tt (alook N_iPutHead) k Tryz.f35 S_iPutHead.ps S_iPutHead.res (alook L_iPutHead) x = S_iPutHead.F k x := by intro k x; kernel_rfl
def L_iChainCode_0 : LSpec (denRs (S_iChainCode.res ++ outM S_iChainCode.ps)) := .mkR [(1, .sh (.slice tHead)), (2, .pbox (.sh tLimits)), (5, .sh i64)] [] [] fun k x => iChainCode_l0 k x.1 x.2.1 x.2.2
def L_iChainCode : List (Nat × LSpec (denRs (S_iChainCode.res ++ outM S_iChainCode.ps))) := [(0, L_iChainCode_0)]
def N_iChainCode : List (Nat × Sig) := [(111, S_iLinks), (214, S_iareHeads)]
theorem r_iChainCode_0 : ∀ k, runL tt (alook N_iChainCode) k Tryz.f318 S_iChainCode.ps S_iChainCode.res (alook L_iChainCode) 0 L_iChainCode_0 := by intro k x; kernel_rfl
theorem t_iChainCode : ∀ k x, runF tt (alook N_iChainCode) k Tryz.f318 S_iChainCode.ps S_iChainCode.res (alook L_iChainCode) x = S_iChainCode.F k x := by intro k x; kernel_rfl
def L_iVoteBytes : List (Nat × LSpec (denRs (S_iVoteBytes.res ++ outM S_iVoteBytes.ps))) := []
def N_iVoteBytes : List (Nat × Sig) := [(227, S_iareHashes), (364, S_inumbers)]
theorem t_iVoteBytes : ∀ k x, runF tt (alook N_iVoteBytes) k Tryz.f312 S_iVoteBytes.ps S_iVoteBytes.res (alook L_iVoteBytes) x = S_iVoteBytes.F k x := by intro k x; kernel_rfl
def L_iTc_copied_0 : LSpec (denRs (S_iTc_copied.res ++ outM S_iTc_copied.ps)) := .mk [(2, .pbox (.pair (.sh i64) (.pair (.own tEntry false) .unit))), (3, .pbox (.pair (.sh i64) (.pair (.own tEntry false) .unit))), (10, .sh (.slice tEntry)), (11, .sh i64), (12, .sh i64)] [(2, .pbox (.pair (.sh i64) (.pair (.own tEntry false) .unit))), (3, .pbox (.pair (.sh i64) (.pair (.own tEntry false) .unit)))] [] fun k x => iTc_copied_l0 k x.1 x.2.1 x.2.2.1 x.2.2.2.1 x.2.2.2.2
def L_iTc_copied : List (Nat × LSpec (denRs (S_iTc_copied.res ++ outM S_iTc_copied.ps))) := [(0, L_iTc_copied_0)]
def N_iTc_copied : List (Nat × Sig) := [(108, S_icopyBytes)]
theorem r_iTc_copied_0 : ∀ k, runL tt (alook N_iTc_copied) k Tryz.f295 S_iTc_copied.ps S_iTc_copied.res (alook L_iTc_copied) 0 L_iTc_copied_0 := by intro k x; kernel_rfl
theorem t_iTc_copied : ∀ k x, runF tt (alook N_iTc_copied) k Tryz.f295 S_iTc_copied.ps S_iTc_copied.res (alook L_iTc_copied) x = S_iTc_copied.F k x := by intro k x; kernel_rfl
def L_weqEntryS_0 : LSpec (denRs (S_weqEntryS.res ++ outM S_weqEntryS.ps)) := .mkR [(0, .sh (.slice tEntry)), (1, .sh (.slice tEntry)), (5, .sh i64)] [] [] fun k x => weqEntryS_l0 k x.1 x.2.1 x.2.2
def L_weqEntryS : List (Nat × LSpec (denRs (S_weqEntryS.res ++ outM S_weqEntryS.ps))) := [(0, L_weqEntryS_0)]
def N_weqEntryS : List (Nat × Sig) := [(355, S_weqEntry)]
theorem r_weqEntryS_0 : ∀ k, runL tt (alook N_weqEntryS) k Tryz.f291 S_weqEntryS.ps S_weqEntryS.res (alook L_weqEntryS) 0 L_weqEntryS_0 := by intro k x; kernel_rfl
theorem t_weqEntryS : ∀ k x, runF tt (alook N_weqEntryS) k Tryz.f291 S_weqEntryS.ps S_weqEntryS.res (alook L_weqEntryS) x = S_weqEntryS.F k x := by intro k x; kernel_rfl
def L_sPutTc_0 : LSpec (denRs (S_sPutTc.res ++ outM S_sPutTc.ps)) := .mk [(8, .own u8 false), (24, .sh (.slice tEntry)), (25, .sh i64), (26, .sh i64)] [(8, .own u8 false)] [] fun k x => sPutTc_l0 k x.1 x.2.1 x.2.2.1 x.2.2.2
def L_sPutTc : List (Nat × LSpec (denRs (S_sPutTc.res ++ outM S_sPutTc.ps))) := [(0, L_sPutTc_0)]
def N_sPutTc : List (Nat × Sig) := [(348, S_sl11Num), (351, S_sTcOk)]
theorem r_sPutTc_0 : ∀ k, runL tt (alook N_sPutTc) k Tryz.f283 S_sPutTc.ps S_sPutTc.res (alook L_sPutTc) 0 L_sPutTc_0 := by intro k x; kernel_rfl
theorem t_sPutTc : ∀ k x, runF tt (alook N_sPutTc) k Tryz.f283 S_sPutTc.ps S_sPutTc.res (alook L_sPutTc) x = S_sPutTc.F k x := by intro k x; kernel_rfl
def L_sProofSame_0 : LSpec (denRs (S_sProofSame.res ++ outM S_sProofSame.ps)) := .mkR [(2, .pbox (.sh tProof)), (3, .pbox (.sh tProof)), (15, .sh i64), (16, .sh i64)] [(2, .pbox (.sh tProof)), (3, .pbox (.sh tProof))] [] fun k x => sProofSame_l0 k x.1 x.2.1 x.2.2.1 x.2.2.2
def L_sProofSame : List (Nat × LSpec (denRs (S_sProofSame.res ++ outM S_sProofSame.ps))) := [(0, L_sProofSame_0)]
def N_sProofSame : List (Nat × Sig) := [(273, S_sQcSame), (274, S_sHeadSame)]
theorem r_sProofSame_0 : ∀ k, runL tt (alook N_sProofSame) k Tryz.f277 S_sProofSame.ps S_sProofSame.res (alook L_sProofSame) 0 L_sProofSame_0 := by intro k x; kernel_rfl
theorem t_sProofSame : ∀ k x, runF tt (alook N_sProofSame) k Tryz.f277 S_sProofSame.ps S_sProofSame.res (alook L_sProofSame) x = S_sProofSame.F k x := by intro k x; kernel_rfl
def L_iOfIncl : List (Nat × LSpec (denRs (S_iOfIncl.res ++ outM S_iOfIncl.ps))) := []
def N_iOfIncl : List (Nat × Sig) := [(296, S_iIncl_copied)]
theorem t_iOfIncl : ∀ k x, runF tt (alook N_iOfIncl) k Tryz.f266 S_iOfIncl.ps S_iOfIncl.res (alook L_iOfIncl) x = S_iOfIncl.F k x := by intro k x; kernel_rfl
def L_iOfQc : List (Nat × LSpec (denRs (S_iOfQc.res ++ outM S_iOfQc.ps))) := []
def N_iOfQc : List (Nat × Sig) := [(225, S_iQc_copied)]
theorem t_iOfQc : ∀ k x, runF tt (alook N_iOfQc) k Tryz.f262 S_iOfQc.ps S_iOfQc.res (alook L_iOfQc) x = S_iOfQc.F k x := by intro k x; kernel_rfl
def L_sl15Draw_0 : LSpec (denRs (S_sl15Draw.res ++ outM S_sl15Draw.ps)) := .mk [(0, .pbox (.sh tl01Cur)), (3, .pbox (.sh tLimits)), (4, .pbox (.pair (.sh i64) (.pair (.own tEntry false) .unit))), (5, .pbox (.pair (.sh i64) (.pair (.own tEntry false) .unit))), (6, .sh i64)] [(0, .pbox (.sh tl01Cur)), (4, .pbox (.pair (.sh i64) (.pair (.own tEntry false) .unit))), (5, .pbox (.pair (.sh i64) (.pair (.own tEntry false) .unit)))] [] fun k x => sl15Draw_l0 k x.1 x.2.1 x.2.2.1 x.2.2.2.1 x.2.2.2.2
def L_sl15Draw : List (Nat × LSpec (denRs (S_sl15Draw.res ++ outM S_sl15Draw.ps))) := [(0, L_sl15Draw_0)]
def N_sl15Draw : List (Nat × Sig) := [(90, S_sl01Below), (91, S_sl11Hash), (156, S_sl01Once)]
theorem r_sl15Draw_0 : ∀ k, runL tt (alook N_sl15Draw) k Tryz.f256 S_sl15Draw.ps S_sl15Draw.res (alook L_sl15Draw) 0 L_sl15Draw_0 := by intro k x; kernel_rfl
theorem t_sl15Draw : ∀ k x, runF tt (alook N_sl15Draw) k Tryz.f256 S_sl15Draw.ps S_sl15Draw.res (alook L_sl15Draw) x = S_sl15Draw.F k x := by intro k x; kernel_rfl
def L_sOfVote : List (Nat × LSpec (denRs (S_sOfVote.res ++ outM S_sOfVote.ps))) := []
def N_sOfVote : List (Nat × Sig) := [(199, S_sl01Copy)]
theorem t_sOfVote : ∀ k x, runF tt (alook N_sOfVote) k Tryz.f230 S_sOfVote.ps S_sOfVote.res (alook L_sOfVote) x = S_sOfVote.F k x := by intro k x; kernel_rfl
def L_sMsgOk : List (Nat × LSpec (denRs (S_sMsgOk.res ++ outM S_sMsgOk.ps))) := []
def N_sMsgOk : List (Nat × Sig) := [(166, S_sl17Kind), (167, S_sMsgSame), (168, S_sl17Only), (169, S_sl17Put)]
theorem t_sMsgOk : ∀ k x, runF tt (alook N_sMsgOk) k Tryz.f67 S_sMsgOk.ps S_sMsgOk.res (alook L_sMsgOk) x = S_sMsgOk.F k x := by intro k x; kernel_rfl
def L_sl17Draw : List (Nat × LSpec (denRs (S_sl17Draw.res ++ outM S_sl17Draw.ps))) := []
def N_sl17Draw : List (Nat × Sig) := [(90, S_sl01Below), (230, S_sOfVote), (231, S_sl11Draw), (249, S_sOfQc), (250, S_sl12Draw), (251, S_sOfHead), (252, S_sl13Draw), (253, S_sOfBlock), (254, S_sl14Draw), (255, S_sOfTc), (256, S_sl15Draw), (257, S_sOfProof), (258, S_sl16Draw), (259, S_sOfIncl), (260, S_sl16Some)]
theorem t_sl17Draw : ∀ k x, runF tt (alook N_sl17Draw) k Tryz.f155 S_sl17Draw.ps S_sl17Draw.res (alook L_sl17Draw) x = S_sl17Draw.F k x := by intro k x; kernel_rfl
def L_ireader_hash : List (Nat × LSpec (denRs (S_ireader_hash.res ++ outM S_ireader_hash.ps))) := []
def N_ireader_hash : List (Nat × Sig) := [(323, S_ireader_raw)]
theorem t_ireader_hash : ∀ k x, runF tt (alook N_ireader_hash) k Tryz.f234 S_ireader_hash.ps S_ireader_hash.res (alook L_ireader_hash) x = S_ireader_hash.F k x := by intro k x; kernel_rfl
def L_ibelongs : List (Nat × LSpec (denRs (S_ibelongs.res ++ outM S_ibelongs.ps))) := []
def N_ibelongs : List (Nat × Sig) := [(149, S_iLimitsOk), (209, S_iTableOk)]
theorem t_ibelongs : ∀ k x, runF tt (alook N_ibelongs) k Tryz.f94 S_ibelongs.ps S_ibelongs.res (alook L_ibelongs) x = S_ibelongs.F k x := by intro k x; kernel_rfl
def L_iVoteSame : List (Nat × LSpec (denRs (S_iVoteSame.res ++ outM S_iVoteSame.ps))) := []
def N_iVoteSame : List (Nat × Sig) := [(65, S_iSameBytes)]
theorem t_iVoteSame : ∀ k x, runF tt (alook N_iVoteSame) k Tryz.f31 S_iVoteSame.ps S_iVoteSame.res (alook L_iVoteSame) x = S_iVoteSame.F k x := by intro k x; kernel_rfl
def L_iTcBits_0 : LSpec (denRs (S_iTcBits.res ++ outM S_iTcBits.ps)) := .mk [(2, .pbox (.sh tLimits)), (6, .own i64 true), (15, .sh (.slice tEntry)), (16, .sh i64), (17, .sh i64)] [(2, .pbox (.sh tLimits)), (6, .own i64 true)] [] fun k x => iTcBits_l0 k x.1 x.2.1 x.2.2.1 x.2.2.2.1 x.2.2.2.2
def L_iTcBits : List (Nat × LSpec (denRs (S_iTcBits.res ++ outM S_iTcBits.ps))) := [(0, L_iTcBits_0)]
def N_iTcBits : List (Nat × Sig) := [(135, S_iTcOk), (317, S_iBitsOf)]
theorem r_iTcBits_0 : ∀ k, runL tt (alook N_iTcBits) k Tryz.f220 S_iTcBits.ps S_iTcBits.res (alook L_iTcBits) 0 L_iTcBits_0 := by intro k x; kernel_rfl
theorem t_iTcBits : ∀ k x, runF tt (alook N_iTcBits) k Tryz.f220 S_iTcBits.ps S_iTcBits.res (alook L_iTcBits) x = S_iTcBits.F k x := by intro k x; kernel_rfl
def L_sl21Draw_0 : LSpec (denRs (S_sl21Draw.res ++ outM S_sl21Draw.ps)) := .mk [(0, .pbox (.sh tl01Cur)), (1, .sh i64), (4, .pbox (.pair (.own tPush false) .unit)), (5, .pbox (.pair (.own tPush false) .unit)), (6, .sh i64)] [(0, .pbox (.sh tl01Cur)), (4, .pbox (.pair (.own tPush false) .unit)), (5, .pbox (.pair (.own tPush false) .unit))] [] fun k x => sl21Draw_l0 k x.1 x.2.1 x.2.2.1 x.2.2.2.1 x.2.2.2.2
def L_sl21Draw : List (Nat × LSpec (denRs (S_sl21Draw.res ++ outM S_sl21Draw.ps))) := [(0, L_sl21Draw_0)]
def N_sl21Draw : List (Nat × Sig) := [(90, S_sl01Below), (229, S_sl01Pick)]
theorem r_sl21Draw_0 : ∀ k, runL tt (alook N_sl21Draw) k Tryz.f198 S_sl21Draw.ps S_sl21Draw.res (alook L_sl21Draw) 0 L_sl21Draw_0 := by intro k x; kernel_rfl
theorem t_sl21Draw : ∀ k x, runF tt (alook N_sl21Draw) k Tryz.f198 S_sl21Draw.ps S_sl21Draw.res (alook L_sl21Draw) x = S_sl21Draw.F k x := by intro k x; kernel_rfl
def L_weqTc : List (Nat × LSpec (denRs (S_weqTc.res ++ outM S_weqTc.ps))) := []
def N_weqTc : List (Nat × Sig) := [(291, S_weqEntryS)]
theorem t_weqTc : ∀ k x, runF tt (alook N_weqTc) k Tryz.f181 S_weqTc.ps S_weqTc.res (alook L_weqTc) x = S_weqTc.F k x := by intro k x; kernel_rfl
def L_wtoProof : List (Nat × LSpec (denRs (S_wtoProof.res ++ outM S_wtoProof.ps))) := []
def N_wtoProof : List (Nat × Sig) := [(171, S_wtoQc), (289, S_wtoHeadS)]
theorem t_wtoProof : ∀ k x, runF tt (alook N_wtoProof) k Tryz.f175 S_wtoProof.ps S_wtoProof.res (alook L_wtoProof) x = S_wtoProof.F k x := by intro k x; kernel_rfl
def L_wszIncl : List (Nat × LSpec (denRs (S_wszIncl.res ++ outM S_wszIncl.ps))) := []
def N_wszIncl : List (Nat × Sig) := [(267, S_wszByteS), (268, S_wszByteSS)]
theorem t_wszIncl : ∀ k x, runF tt (alook N_wszIncl) k Tryz.f165 S_wszIncl.ps S_wszIncl.res (alook L_wszIncl) x = S_wszIncl.F k x := by intro k x; kernel_rfl
def L_sl01Bend : List (Nat × LSpec (denRs (S_sl01Bend.res ++ outM S_sl01Bend.ps))) := []
def N_sl01Bend : List (Nat × Sig) := [(90, S_sl01Below), (184, S_sl01Bytes), (199, S_sl01Copy), (203, S_sl01Byte)]
theorem t_sl01Bend : ∀ k x, runF tt (alook N_sl01Bend) k Tryz.f157 S_sl01Bend.ps S_sl01Bend.res (alook L_sl01Bend) x = S_sl01Bend.F k x := by intro k x; kernel_rfl
def L_iPutIncl_0 : LSpec (denRs (S_iPutIncl.res ++ outM S_iPutIncl.ps)) := .mk [(8, .pbox (.pair (.own u8 false) .unit)), (42, .sh (.slice bs)), (43, .sh i64), (44, .sh i64)] [(8, .pbox (.pair (.own u8 false) .unit))] [] fun k x => iPutIncl_l0 k x.1 x.2.1 x.2.2.1 x.2.2.2
def L_iPutIncl : List (Nat × LSpec (denRs (S_iPutIncl.res ++ outM S_iPutIncl.ps))) := [(0, L_iPutIncl_0)]
def N_iPutIncl : List (Nat × Sig) := [(108, S_icopyBytes), (118, S_iwriter_num), (119, S_iwriter_raw), (132, S_iPutText), (141, S_iInclOk)]
theorem r_iPutIncl_0 : ∀ k, runL tt (alook N_iPutIncl) k Tryz.f47 S_iPutIncl.ps S_iPutIncl.res (alook L_iPutIncl) 0 L_iPutIncl_0 := by intro k x; kernel_rfl
theorem t_iPutIncl : ∀ k x, runF tt (alook N_iPutIncl) k Tryz.f47 S_iPutIncl.ps S_iPutIncl.res (alook L_iPutIncl) x = S_iPutIncl.F k x := by intro k x; kernel_rfl
def L_iget_implHead : List (Nat × LSpec (denRs (S_iget_implHead.res ++ outM S_iget_implHead.ps))) := []
def N_iget_implHead : List (Nat × Sig) := [(129, S_ireadHead), (149, S_iLimitsOk)]
theorem t_iget_implHead : ∀ k x, runF tt (alook N_iget_implHead) k Tryz.f128 S_iget_implHead.ps S_iget_implHead.res (alook L_iget_implHead) x = S_iget_implHead.F k x := by intro k x; kernel_rfl
def L_ireadTc_0 : LSpec (denRs (S_ireadTc.res ++ outM S_ireadTc.ps)) := .mk [(1, .pbox (.sh tl01Cur)), (2, .pbox (.sh tLimits)), (4, .pbox (.pair (.sh i64) (.pair (.own tEntry false) .unit))), (5, .pbox (.pair (.sh i64) (.pair (.own tEntry false) .unit))), (6, .sh i64), (7, .sh i64), (8, .sh i64)] [(1, .pbox (.sh tl01Cur)), (4, .pbox (.pair (.sh i64) (.pair (.own tEntry false) .unit))), (5, .pbox (.pair (.sh i64) (.pair (.own tEntry false) .unit)))] [] fun k x => ireadTc_l0 k x.1 x.2.1 x.2.2.1 x.2.2.2.1 x.2.2.2.2.1 x.2.2.2.2.2.1 x.2.2.2.2.2.2
def L_ireadTc : List (Nat × LSpec (denRs (S_ireadTc.res ++ outM S_ireadTc.ps))) := [(0, L_ireadTc_0)]
def N_ireadTc : List (Nat × Sig) := [(233, S_ireader_num), (234, S_ireader_hash), (235, S_ireader_below), (238, S_ireader_must)]
theorem r_ireadTc_0 : ∀ k, runL tt (alook N_ireadTc) k Tryz.f137 S_ireadTc.ps S_ireadTc.res (alook L_ireadTc) 0 L_ireadTc_0 := by intro k x; kernel_rfl
theorem t_ireadTc : ∀ k x, runF tt (alook N_ireadTc) k Tryz.f137 S_ireadTc.ps S_ireadTc.res (alook L_ireadTc) x = S_ireadTc.F k x := by intro k x; kernel_rfl
def L_iQcSame : List (Nat × LSpec (denRs (S_iQcSame.res ++ outM S_iQcSame.ps))) := []
def N_iQcSame : List (Nat × Sig) := [(65, S_iSameBytes), (126, S_iTreeSame)]
theorem t_iQcSame : ∀ k x, runF tt (alook N_iQcSame) k Tryz.f34 S_iQcSame.ps S_iQcSame.res (alook L_iQcSame) x = S_iQcSame.F k x := by intro k x; kernel_rfl
def L_iHeadSame : List (Nat × LSpec (denRs (S_iHeadSame.res ++ outM S_iHeadSame.ps))) := []
def N_iHeadSame : List (Nat × Sig) := [(34, S_iQcSame), (65, S_iSameBytes)]
theorem t_iHeadSame : ∀ k x, runF tt (alook N_iHeadSame) k Tryz.f24 S_iHeadSame.ps S_iHeadSame.res (alook L_iHeadSame) x = S_iHeadSame.F k x := by intro k x; kernel_rfl
def L_iInclSame : List (Nat × LSpec (denRs (S_iInclSame.res ++ outM S_iInclSame.ps))) := []
def N_iInclSame : List (Nat × Sig) := [(65, S_iSameBytes), (126, S_iTreeSame)]
theorem t_iInclSame : ∀ k x, runF tt (alook N_iInclSame) k Tryz.f49 S_iInclSame.ps S_iInclSame.res (alook L_iInclSame) x = S_iInclSame.F k x := by intro k x; kernel_rfl
def L_iEventSame : List (Nat × LSpec (denRs (S_iEventSame.res ++ outM S_iEventSame.ps))) := []
def N_iEventSame : List (Nat × Sig) := [(60, S_iMsgSame)]
theorem t_iEventSame : ∀ k x, runF tt (alook N_iEventSame) k Tryz.f151 S_iEventSame.ps S_iEventSame.res (alook L_iEventSame) x = S_iEventSame.F k x := by intro k x; kernel_rfl
def L_iPush_copied : List (Nat × LSpec (denRs (S_iPush_copied.res ++ outM S_iPush_copied.ps))) := []
def N_iPush_copied : List (Nat × Sig) := [(108, S_icopyBytes)]
theorem t_iPush_copied : ∀ k x, runF tt (alook N_iPush_copied) k Tryz.f145 S_iPush_copied.ps S_iPush_copied.res (alook L_iPush_copied) x = S_iPush_copied.F k x := by intro k x; kernel_rfl
def L_sl18Stream_0 : LSpec (denRs (S_sl18Stream.res ++ outM S_sl18Stream.ps)) := .mk [(0, .pbox (.sh tl01Cur)), (3, .pbox (.sh tLimits)), (5, .own u8 true), (6, .sh i64)] [(0, .pbox (.sh tl01Cur)), (5, .own u8 true)] [] fun k x => sl18Stream_l0 k x.1 x.2.1 x.2.2.1 x.2.2.2
def L_sl18Stream : List (Nat × LSpec (denRs (S_sl18Stream.res ++ outM S_sl18Stream.ps))) := [(0, L_sl18Stream_0)]
def N_sl18Stream : List (Nat × Sig) := [(90, S_sl01Below), (157, S_sl01Bend), (184, S_sl01Bytes), (245, S_sl18Some)]
theorem r_sl18Stream_0 : ∀ k, runL tt (alook N_sl18Stream) k Tryz.f144 S_sl18Stream.ps S_sl18Stream.res (alook L_sl18Stream) 0 L_sl18Stream_0 := by intro k x; kernel_rfl
theorem t_sl18Stream : ∀ k x, runF tt (alook N_sl18Stream) k Tryz.f144 S_sl18Stream.ps S_sl18Stream.res (alook L_sl18Stream) x = S_sl18Stream.F k x := by intro k x; kernel_rfl
def L_iLight_copied : List (Nat × LSpec (denRs (S_iLight_copied.res ++ outM S_iLight_copied.ps))) := []
def N_iLight_copied : List (Nat × Sig) := [(95, S_iTable_copied), (97, S_icopyHeads), (145, S_iPush_copied)]
theorem t_iLight_copied : ∀ k x, runF tt (alook N_iLight_copied) k Tryz.f99 S_iLight_copied.ps S_iLight_copied.res (alook L_iLight_copied) x = S_iLight_copied.F k x := by intro k x; kernel_rfl
def L_iLight_commit_0 : LSpec (denRs (S_iLight_commit.res ++ outM S_iLight_commit.ps)) := .mk [(2, .pbox (.sh tLight)), (4, .pbox (.pair (.sh tLimits) (.pair (.pair (.own tPush false) .unit) (.pair (.pair (.sh i64) (.pair (.own u8 false) .unit)) (.pair (.own tHead false) .unit))))), (6, .pbox (.sh tLight)), (7, .sh i64), (8, .pbox (.sh tHead)), (12, .sh i64)] [(2, .pbox (.sh tLight)), (4, .pbox (.pair (.sh tLimits) (.pair (.pair (.own tPush false) .unit) (.pair (.pair (.sh i64) (.pair (.own u8 false) .unit)) (.pair (.own tHead false) .unit))))), (6, .pbox (.sh tLight)), (8, .pbox (.sh tHead)), (12, .sh i64)] [] fun k x => iLight_commit_l0 k x.1 x.2.1 x.2.2.1 x.2.2.2.1 x.2.2.2.2.1 x.2.2.2.2.2
def L_iLight_commit : List (Nat × LSpec (denRs (S_iLight_commit.res ++ outM S_iLight_commit.ps))) := [(0, L_iLight_commit_0)]
def N_iLight_commit : List (Nat × Sig) := [(24, S_iHeadSame), (97, S_icopyHeads), (99, S_iLight_copied), (105, S_iKnown), (221, S_iProofCode), (222, S_iCommits)]
theorem r_iLight_commit_0 : ∀ k, runL tt (alook N_iLight_commit) k Tryz.f104 S_iLight_commit.ps S_iLight_commit.res (alook L_iLight_commit) 0 L_iLight_commit_0 := by intro k x; kernel_rfl
theorem t_iLight_commit : ∀ k x, runF tt (alook N_iLight_commit) k Tryz.f104 S_iLight_commit.ps S_iLight_commit.res (alook L_iLight_commit) x = S_iLight_commit.F k x := by intro k x; kernel_rfl
def L_iErName : List (Nat × LSpec (denRs (S_iErName.res ++ outM S_iErName.ps))) := []
def N_iErName : List (Nat × Sig) := [(154, S_inameAt)]
theorem t_iErName : ∀ k x, runF tt (alook N_iErName) k Tryz.f63 S_iErName.ps S_iErName.res (alook L_iErName) x = S_iErName.F k x := by intro k x; kernel_rfl
def L_iEventsSame_0 : LSpec (denRs (S_iEventsSame.res ++ outM S_iEventsSame.ps)) := .mkR [(0, .sh (.slice tEvent)), (1, .sh (.slice tEvent)), (12, .sh i64), (13, .sh i64)] [] [] fun k x => iEventsSame_l0 k x.1 x.2.1 x.2.2.1 x.2.2.2
def L_iEventsSame : List (Nat × LSpec (denRs (S_iEventsSame.res ++ outM S_iEventsSame.ps))) := [(0, L_iEventsSame_0)]
def N_iEventsSame : List (Nat × Sig) := [(151, S_iEventSame)]
theorem r_iEventsSame_0 : ∀ k, runL tt (alook N_iEventsSame) k Tryz.f55 S_iEventsSame.ps S_iEventsSame.res (alook L_iEventsSame) 0 L_iEventsSame_0 := by intro k x; kernel_rfl
theorem t_iEventsSame : ∀ k x, runF tt (alook N_iEventsSame) k Tryz.f55 S_iEventsSame.ps S_iEventsSame.res (alook L_iEventsSame) x = S_iEventsSame.F k x := by intro k x; kernel_rfl
def L_sMakeHash : List (Nat × LSpec (denRs (S_sMakeHash.res ++ outM S_sMakeHash.ps))) := []
def N_sMakeHash : List (Nat × Sig) := [(87, S_sl01New), (91, S_sl11Hash)]
theorem t_sMakeHash : ∀ k x, runF tt (alook N_sMakeHash) k Tryz.f22 S_sMakeHash.ps S_sMakeHash.res (alook L_sMakeHash) x = S_sMakeHash.F k x := by intro k x; kernel_rfl
def L_iLightNew : List (Nat × LSpec (denRs (S_iLightNew.res ++ outM S_iLightNew.ps))) := []
def N_iLightNew : List (Nat × Sig) := [(94, S_ibelongs), (95, S_iTable_copied)]
theorem t_iLightNew : ∀ k x, runF tt (alook N_iLightNew) k Tryz.f17 S_iLightNew.ps S_iLightNew.res (alook L_iLightNew) x = S_iLightNew.F k x := by intro k x; kernel_rfl
def L_sMakeChain_0 : LSpec (denRs (S_sMakeChain.res ++ outM S_sMakeChain.ps)) := .mk [(1, .sh i64), (4, .pbox (.sh tLimits)), (5, .pbox (.pair (.own tPush false) .unit)), (7, .pbox (.sh tl01Cur)), (8, .pbox (.sh tLimits)), (9, .pbox (.sh tTable)), (12, .own tHead true)] [(4, .pbox (.sh tLimits)), (5, .pbox (.pair (.own tPush false) .unit)), (8, .pbox (.sh tLimits)), (9, .pbox (.sh tTable)), (12, .own tHead true)] [] fun k x => sMakeChain_l0 k x.1 x.2.1 x.2.2.1 x.2.2.2.1 x.2.2.2.2.1 x.2.2.2.2.2.1 x.2.2.2.2.2.2
def L_sMakeChain : List (Nat × LSpec (denRs (S_sMakeChain.res ++ outM S_sMakeChain.ps))) := [(0, L_sMakeChain_0)]
def N_sMakeChain : List (Nat × Sig) := [(87, S_sl01New), (88, S_sl23Pair), (89, S_sFirstHead), (90, S_sl01Below), (91, S_sl11Hash), (92, S_sNextHead), (93, S_sl30Full)]
theorem r_sMakeChain_0 : ∀ k, runL tt (alook N_sMakeChain) k Tryz.f15 S_sMakeChain.ps S_sMakeChain.res (alook L_sMakeChain) 0 L_sMakeChain_0 := by intro k x; kernel_rfl
theorem t_sMakeChain : ∀ k x, runF tt (alook N_sMakeChain) k Tryz.f15 S_sMakeChain.ps S_sMakeChain.res (alook L_sMakeChain) x = S_sMakeChain.F k x := by intro k x; kernel_rfl
def L_wFnStrict : List (Nat × LSpec (denRs (S_wFnStrict.res ++ outM S_wFnStrict.ps))) := []
def N_wFnStrict : List (Nat × Sig) := [(26, S_sMakeLimits), (58, S_iEncode), (59, S_iDecode), (62, S_sMakeData), (63, S_iErName), (64, S_iMsgOk), (65, S_iSameBytes)]
theorem t_wFnStrict : ∀ k x, runF tt (alook N_wFnStrict) k Tryz.f7 S_wFnStrict.ps S_wFnStrict.res (alook L_wFnStrict) x = S_wFnStrict.F k x := by intro k x; kernel_rfl
end Go.Ev.G
