/- The functions run in the evaluator as their plain functions say. No condition. -/
import Derived.Test.YtmbpdaffnabjcaaGreatS
set_option linter.unusedVariables false
set_option linter.unusedSimpArgs false
set_option linter.unusedSectionVars false
/- Proofs: printed by gen.py. -/
namespace Go.Ev.G
open Go.Ev Go.Proofs
set_option linter.unusedVariables false
def L_sShaInit : List (Nat × LSpec (denRs (S_sShaInit.res ++ outM S_sShaInit.ps))) := []
def N_sShaInit : List (Nat × Sig) := []
theorem t_sShaInit : ∀ k x, runF tt (alook N_sShaInit) k Tryz.f358 S_sShaInit.ps S_sShaInit.res (alook L_sShaInit) x = S_sShaInit.F k x := by intro k x; kernel_rfl
def L_sNodeHash : List (Nat × LSpec (denRs (S_sNodeHash.res ++ outM S_sNodeHash.ps))) := []
def N_sNodeHash : List (Nat × Sig) := [(305, S_sSha)]
theorem t_sNodeHash : ∀ k x, runF tt (alook N_sNodeHash) k Tryz.f383 S_sNodeHash.ps S_sNodeHash.res (alook L_sNodeHash) x = S_sNodeHash.F k x := by intro k x; kernel_rfl
def L_sMacKey_0 : LSpec (denRs (S_sMacKey.res ++ outM S_sMacKey.ps)) := .mk [(3, .own u8 true)] [(3, .own u8 true)] [] fun k x => sMacKey_l0 k x
def L_sMacKey : List (Nat × LSpec (denRs (S_sMacKey.res ++ outM S_sMacKey.ps))) := [(0, L_sMacKey_0)]
def N_sMacKey : List (Nat × Sig) := [(199, S_sl01Copy), (305, S_sSha)]
theorem r_sMacKey_0 : ∀ k, runL tt (alook N_sMacKey) k Tryz.f381 S_sMacKey.ps S_sMacKey.res (alook L_sMacKey) 0 L_sMacKey_0 := by intro k x; kernel_rfl
theorem t_sMacKey : ∀ k x, runF tt (alook N_sMacKey) k Tryz.f381 S_sMacKey.ps S_sMacKey.res (alook L_sMacKey) x = S_sMacKey.F k x := by intro k x; kernel_rfl
def L_sSplitAt_0 : LSpec (denRs (S_sSplitAt.res ++ outM S_sSplitAt.ps)) := .mk [(0, .sh i64), (3, .sh i64)] [(3, .sh i64)] [] fun k x => sSplitAt_l0 k x.1 x.2
def L_sSplitAt : List (Nat × LSpec (denRs (S_sSplitAt.res ++ outM S_sSplitAt.ps))) := [(0, L_sSplitAt_0)]
def N_sSplitAt : List (Nat × Sig) := []
theorem r_sSplitAt_0 : ∀ k, runL tt (alook N_sSplitAt) k Tryz.f373 S_sSplitAt.ps S_sSplitAt.res (alook L_sSplitAt) 0 L_sSplitAt_0 := by intro k x; kernel_rfl
theorem t_sSplitAt : ∀ k x, runF tt (alook N_sSplitAt) k Tryz.f373 S_sSplitAt.ps S_sSplitAt.res (alook L_sSplitAt) x = S_sSplitAt.F k x := by intro k x; kernel_rfl
def L_sl16Heads_0 : LSpec (denRs (S_sl16Heads.res ++ outM S_sl16Heads.ps)) := .mk [(3, .own tHead true), (7, .sh (.slice tHead)), (8, .sh i64), (9, .sh i64)] [(3, .own tHead true)] [] fun k x => sl16Heads_l0 k x.1 x.2.1 x.2.2.1 x.2.2.2
def L_sl16Heads : List (Nat × LSpec (denRs (S_sl16Heads.res ++ outM S_sl16Heads.ps))) := [(0, L_sl16Heads_0)]
def N_sl16Heads : List (Nat × Sig) := [(336, S_sl13Copy)]
theorem r_sl16Heads_0 : ∀ k, runL tt (alook N_sl16Heads) k Tryz.f371 S_sl16Heads.ps S_sl16Heads.res (alook L_sl16Heads) 0 L_sl16Heads_0 := by intro k x; kernel_rfl
theorem t_sl16Heads : ∀ k x, runF tt (alook N_sl16Heads) k Tryz.f371 S_sl16Heads.ps S_sl16Heads.res (alook L_sl16Heads) x = S_sl16Heads.F k x := by intro k x; kernel_rfl
def L_imasked_0 : LSpec (denRs (S_imasked.res ++ outM S_imasked.ps)) := .mk [(1, .sh u8), (5, .own u8 true), (9, .sh bs), (10, .sh i64), (11, .sh i64)] [(5, .own u8 true)] [] fun k x => imasked_l0 k x.1 x.2.1 x.2.2.1 x.2.2.2.1 x.2.2.2.2
def L_imasked : List (Nat × LSpec (denRs (S_imasked.res ++ outM S_imasked.ps))) := [(0, L_imasked_0)]
def N_imasked : List (Nat × Sig) := []
theorem r_imasked_0 : ∀ k, runL tt (alook N_imasked) k Tryz.f366 S_imasked.ps S_imasked.res (alook L_imasked) 0 L_imasked_0 := by intro k x; kernel_rfl
theorem t_imasked : ∀ k x, runF tt (alook N_imasked) k Tryz.f366 S_imasked.ps S_imasked.res (alook L_imasked) x = S_imasked.F k x := by intro k x; kernel_rfl
def L_iShaBlock_0 : LSpec (denRs (S_iShaBlock.res ++ outM S_iShaBlock.ps)) := .mkR [(0, .sh is), (1, .sh bs), (33, .sh is), (34, .sh i64), (35, .sh i64)] [(0, .sh is), (1, .sh bs)] [] fun k x => iShaBlock_l0 k x.1 x.2.1 x.2.2.1 x.2.2.2.1 x.2.2.2.2
def L_iShaBlock_2 : LSpec (denRs (S_iShaBlock.res ++ outM S_iShaBlock.ps)) := .mk [(0, .sh is), (1, .sh bs), (7, .pbox (.sh (.arr 64 i64))), (8, .own i64 true), (9, .pbox (.sh (.arr 8 i64))), (46, .sh i64)] [(0, .sh is), (7, .pbox (.sh (.arr 64 i64))), (8, .own i64 true), (9, .pbox (.sh (.arr 8 i64)))] [] fun k x => iShaBlock_l2 k x.1 x.2.1 x.2.2.1 x.2.2.2.1 x.2.2.2.2.1 x.2.2.2.2.2
def L_iShaBlock_4 : LSpec (denRs (S_iShaBlock.res ++ outM S_iShaBlock.ps)) := .mk [(0, .sh is), (7, .pbox (.sh (.arr 64 i64))), (8, .own i64 true), (9, .pbox (.sh (.arr 8 i64))), (11, .sh i64)] [(0, .sh is), (7, .pbox (.sh (.arr 64 i64))), (8, .own i64 true), (9, .pbox (.sh (.arr 8 i64)))] [] fun k x => iShaBlock_l4 k x.1 x.2.1 x.2.2.1 x.2.2.2.1 x.2.2.2.2
def L_iShaBlock_6 : LSpec (denRs (S_iShaBlock.res ++ outM S_iShaBlock.ps)) := .mk [(0, .sh is), (7, .pbox (.sh (.arr 64 i64))), (8, .own i64 true), (9, .pbox (.sh (.arr 8 i64))), (132, .sh i64)] [(0, .sh is), (9, .pbox (.sh (.arr 8 i64)))] [] fun k x => iShaBlock_l6 k x.1 x.2.1 x.2.2.1 x.2.2.2.1 x.2.2.2.2
def L_iShaBlock_8 : LSpec (denRs (S_iShaBlock.res ++ outM S_iShaBlock.ps)) := .mk [(0, .sh is), (9, .pbox (.sh (.arr 8 i64))), (23, .own i64 true), (218, .sh i64)] [(23, .own i64 true)] [] fun k x => iShaBlock_l8 k x.1 x.2.1 x.2.2.1 x.2.2.2
def L_iShaBlock : List (Nat × LSpec (denRs (S_iShaBlock.res ++ outM S_iShaBlock.ps))) := [(0, L_iShaBlock_0), (2, L_iShaBlock_2), (4, L_iShaBlock_4), (6, L_iShaBlock_6), (8, L_iShaBlock_8)]
def N_iShaBlock : List (Nat × Sig) := [(326, S_iisWord), (327, S_irounds), (328, S_iTurnRight)]
theorem r_iShaBlock_0 : ∀ k, runL tt (alook N_iShaBlock) k Tryz.f241 S_iShaBlock.ps S_iShaBlock.res (alook L_iShaBlock) 0 L_iShaBlock_0 := by intro k x; kernel_rfl
theorem r_iShaBlock_2 : ∀ k, runL tt (alook N_iShaBlock) k Tryz.f241 S_iShaBlock.ps S_iShaBlock.res (alook L_iShaBlock) 2 L_iShaBlock_2 := by intro k x; kernel_rfl
theorem r_iShaBlock_4 : ∀ k, runL tt (alook N_iShaBlock) k Tryz.f241 S_iShaBlock.ps S_iShaBlock.res (alook L_iShaBlock) 4 L_iShaBlock_4 := by intro k x; kernel_rfl
theorem r_iShaBlock_6 : ∀ k, runL tt (alook N_iShaBlock) k Tryz.f241 S_iShaBlock.ps S_iShaBlock.res (alook L_iShaBlock) 6 L_iShaBlock_6 := by intro k x; kernel_rfl
theorem r_iShaBlock_8 : ∀ k, runL tt (alook N_iShaBlock) k Tryz.f241 S_iShaBlock.ps S_iShaBlock.res (alook L_iShaBlock) 8 L_iShaBlock_8 := by intro k x; kernel_rfl
theorem t_iShaBlock : ∀ k x, runF tt (alook N_iShaBlock) k Tryz.f241 S_iShaBlock.ps S_iShaBlock.res (alook L_iShaBlock) x = S_iShaBlock.F k x := by intro k x; kernel_rfl
def L_sHeadHash : List (Nat × LSpec (denRs (S_sHeadHash.res ++ outM S_sHeadHash.ps))) := []
def N_sHeadHash : List (Nat × Sig) := [(281, S_sPutHead), (305, S_sSha)]
theorem t_sHeadHash : ∀ k x, runF tt (alook N_sHeadHash) k Tryz.f204 S_sHeadHash.ps S_sHeadHash.res (alook L_sHeadHash) x = S_sHeadHash.F k x := by intro k x; kernel_rfl
def L_sl15Copy_0 : LSpec (denRs (S_sl15Copy.res ++ outM S_sl15Copy.ps)) := .mk [(2, .pbox (.pair (.sh i64) (.pair (.own tEntry false) .unit))), (3, .pbox (.pair (.sh i64) (.pair (.own tEntry false) .unit))), (10, .sh (.slice tEntry)), (11, .sh i64), (12, .sh i64)] [(2, .pbox (.pair (.sh i64) (.pair (.own tEntry false) .unit))), (3, .pbox (.pair (.sh i64) (.pair (.own tEntry false) .unit)))] [] fun k x => sl15Copy_l0 k x.1 x.2.1 x.2.2.1 x.2.2.2.1 x.2.2.2.2
def L_sl15Copy : List (Nat × LSpec (denRs (S_sl15Copy.res ++ outM S_sl15Copy.ps))) := [(0, L_sl15Copy_0)]
def N_sl15Copy : List (Nat × Sig) := [(199, S_sl01Copy)]
theorem r_sl15Copy_0 : ∀ k, runL tt (alook N_sl15Copy) k Tryz.f340 S_sl15Copy.ps S_sl15Copy.res (alook L_sl15Copy) 0 L_sl15Copy_0 := by intro k x; kernel_rfl
theorem t_sl15Copy : ∀ k x, runF tt (alook N_sl15Copy) k Tryz.f340 S_sl15Copy.ps S_sl15Copy.res (alook L_sl15Copy) x = S_sl15Copy.F k x := by intro k x; kernel_rfl
def L_iGetText : List (Nat × LSpec (denRs (S_iGetText.res ++ outM S_iGetText.ps))) := []
def N_iGetText : List (Nat × Sig) := [(322, S_iGetVar), (325, S_iGetRaw)]
theorem t_iGetText : ∀ k x, runF tt (alook N_iGetText) k Tryz.f331 S_iGetText.ps S_iGetText.res (alook L_iGetText) x = S_iGetText.F k x := by intro k x; kernel_rfl
def L_icopyList_0 : LSpec (denRs (S_icopyList.res ++ outM S_icopyList.ps)) := .mk [(3, .own bs true), (7, .sh (.slice bs)), (8, .sh i64), (9, .sh i64)] [(3, .own bs true)] [] fun k x => icopyList_l0 k x.1 x.2.1 x.2.2.1 x.2.2.2
def L_icopyList : List (Nat × LSpec (denRs (S_icopyList.res ++ outM S_icopyList.ps))) := [(0, L_icopyList_0)]
def N_icopyList : List (Nat × Sig) := [(108, S_icopyBytes)]
theorem r_icopyList_0 : ∀ k, runL tt (alook N_icopyList) k Tryz.f320 S_icopyList.ps S_icopyList.res (alook L_icopyList) 0 L_icopyList_0 := by intro k x; kernel_rfl
theorem t_icopyList : ∀ k x, runF tt (alook N_icopyList) k Tryz.f320 S_icopyList.ps S_icopyList.res (alook L_icopyList) x = S_icopyList.F k x := by intro k x; kernel_rfl
def L_iBitsOk_0 : LSpec (denRs (S_iBitsOk.res ++ outM S_iBitsOk.ps)) := .mkR [(1, .sh i64), (18, .own i64 true), (19, .sh i64), (20, .sh i64)] [] [] fun k x => iBitsOk_l0 k x.1 x.2.1 x.2.2.1 x.2.2.2
def L_iBitsOk : List (Nat × LSpec (denRs (S_iBitsOk.res ++ outM S_iBitsOk.ps))) := [(0, L_iBitsOk_0)]
def N_iBitsOk : List (Nat × Sig) := [(211, S_iBitsList), (213, S_iwithin), (226, S_iBitsSize)]
theorem r_iBitsOk_0 : ∀ k, runL tt (alook N_iBitsOk) k Tryz.f210 S_iBitsOk.ps S_iBitsOk.res (alook L_iBitsOk) 0 L_iBitsOk_0 := by intro k x; kernel_rfl
theorem t_iBitsOk : ∀ k x, runF tt (alook N_iBitsOk) k Tryz.f210 S_iBitsOk.ps S_iBitsOk.res (alook L_iBitsOk) x = S_iBitsOk.F k x := by intro k x; kernel_rfl
def L_iareHeads_0 : LSpec (denRs (S_iareHeads.res ++ outM S_iareHeads.ps)) := .mkR [(2, .pbox (.sh tLimits)), (7, .sh (.slice tHead)), (8, .sh i64), (9, .sh i64)] [] [] fun k x => iareHeads_l0 k x.1 x.2.1 x.2.2.1 x.2.2.2
def L_iareHeads : List (Nat × LSpec (denRs (S_iareHeads.res ++ outM S_iareHeads.ps))) := [(0, L_iareHeads_0)]
def N_iareHeads : List (Nat × Sig) := [(110, S_iHeadOk)]
theorem r_iareHeads_0 : ∀ k, runL tt (alook N_iareHeads) k Tryz.f214 S_iareHeads.ps S_iareHeads.res (alook L_iareHeads) 0 L_iareHeads_0 := by intro k x; kernel_rfl
theorem t_iareHeads : ∀ k x, runF tt (alook N_iareHeads) k Tryz.f214 S_iareHeads.ps S_iareHeads.res (alook L_iareHeads) x = S_iareHeads.F k x := by intro k x; kernel_rfl
def L_iBitsNew : List (Nat × LSpec (denRs (S_iBitsNew.res ++ outM S_iBitsNew.ps))) := []
def N_iBitsNew : List (Nat × Sig) := [(213, S_iwithin), (226, S_iBitsSize)]
theorem t_iBitsNew : ∀ k x, runF tt (alook N_iBitsNew) k Tryz.f109 S_iBitsNew.ps S_iBitsNew.res (alook L_iBitsNew) x = S_iBitsNew.F k x := by intro k x; kernel_rfl
def L_iMac : List (Nat × LSpec (denRs (S_iMac.res ++ outM S_iMac.ps))) := []
def N_iMac : List (Nat × Sig) := [(130, S_iSha), (365, S_iMacKey), (366, S_imasked)]
theorem t_iMac : ∀ k x, runF tt (alook N_iMac) k Tryz.f313 S_iMac.ps S_iMac.res (alook L_iMac) x = S_iMac.F k x := by intro k x; kernel_rfl
def L_iWeightOf_0 : LSpec (denRs (S_iWeightOf.res ++ outM S_iWeightOf.ps)) := .mk [(2, .pbox (.sh tTable)), (5, .sh i64), (20, .own i64 true), (21, .sh i64), (22, .sh i64)] [(5, .sh i64)] [] fun k x => iWeightOf_l0 k x.1 x.2.1 x.2.2.1 x.2.2.2.1 x.2.2.2.2
def L_iWeightOf : List (Nat × LSpec (denRs (S_iWeightOf.res ++ outM S_iWeightOf.ps))) := [(0, L_iWeightOf_0)]
def N_iWeightOf : List (Nat × Sig) := [(209, S_iTableOk), (210, S_iBitsOk), (211, S_iBitsList)]
theorem r_iWeightOf_0 : ∀ k, runL tt (alook N_iWeightOf) k Tryz.f314 S_iWeightOf.ps S_iWeightOf.res (alook L_iWeightOf) 0 L_iWeightOf_0 := by intro k x; kernel_rfl
theorem t_iWeightOf : ∀ k x, runF tt (alook N_iWeightOf) k Tryz.f314 S_iWeightOf.ps S_iWeightOf.res (alook L_iWeightOf) x = S_iWeightOf.F k x := by intro k x; kernel_rfl
def L_iBlock_copied : List (Nat × LSpec (denRs (S_iBlock_copied.res ++ outM S_iBlock_copied.ps))) := []
def N_iBlock_copied : List (Nat × Sig) := [(112, S_iHead_copied), (320, S_icopyList)]
theorem t_iBlock_copied : ∀ k x, runF tt (alook N_iBlock_copied) k Tryz.f294 S_iBlock_copied.ps S_iBlock_copied.res (alook L_iBlock_copied) x = S_iBlock_copied.F k x := by intro k x; kernel_rfl
def L_weqQc : List (Nat × LSpec (denRs (S_weqQc.res ++ outM S_weqQc.ps))) := []
def N_weqQc : List (Nat × Sig) := [(76, S_weqByteS), (290, S_weqByteSS)]
theorem t_weqQc : ∀ k x, runF tt (alook N_weqQc) k Tryz.f178 S_weqQc.ps S_weqQc.res (alook L_weqQc) x = S_weqQc.F k x := by intro k x; kernel_rfl
def L_wtoByteSS_0 : LSpec (denRs (S_wtoByteSS.res ++ outM S_wtoByteSS.ps)) := .mk [(0, .sh (.slice bs)), (3, .own bs true), (4, .sh i64)] [(3, .own bs true)] [] fun k x => wtoByteSS_l0 k x.1 x.2.1 x.2.2
def L_wtoByteSS : List (Nat × LSpec (denRs (S_wtoByteSS.res ++ outM S_wtoByteSS.ps))) := [(0, L_wtoByteSS_0)]
def N_wtoByteSS : List (Nat × Sig) := [(286, S_wtoByteS)]
theorem r_wtoByteSS_0 : ∀ k, runL tt (alook N_wtoByteSS) k Tryz.f287 S_wtoByteSS.ps S_wtoByteSS.res (alook L_wtoByteSS) 0 L_wtoByteSS_0 := by intro k x; kernel_rfl
theorem t_wtoByteSS : ∀ k x, runF tt (alook N_wtoByteSS) k Tryz.f287 S_wtoByteSS.ps S_wtoByteSS.res (alook L_wtoByteSS) x = S_wtoByteSS.F k x := by intro k x; kernel_rfl
def L_sPutBlock_0 : LSpec (denRs (S_sPutBlock.res ++ outM S_sPutBlock.ps)) := .mk [(8, .own u8 false), (30, .sh (.slice bs)), (31, .sh i64), (32, .sh i64)] [(8, .own u8 false)] [] fun k x => sPutBlock_l0 k x.1 x.2.1 x.2.2.1 x.2.2.2
def L_sPutBlock : List (Nat × LSpec (denRs (S_sPutBlock.res ++ outM S_sPutBlock.ps))) := [(0, L_sPutBlock_0)]
def N_sPutBlock : List (Nat × Sig) := [(281, S_sPutHead), (348, S_sl11Num), (349, S_sBlockOk), (350, S_sPutText)]
theorem r_sPutBlock_0 : ∀ k, runL tt (alook N_sPutBlock) k Tryz.f282 S_sPutBlock.ps S_sPutBlock.res (alook L_sPutBlock) 0 L_sPutBlock_0 := by intro k x; kernel_rfl
theorem t_sPutBlock : ∀ k x, runF tt (alook N_sPutBlock) k Tryz.f282 S_sPutBlock.ps S_sPutBlock.res (alook L_sPutBlock) x = S_sPutBlock.F k x := by intro k x; kernel_rfl
def L_sBlockSame : List (Nat × LSpec (denRs (S_sBlockSame.res ++ outM S_sBlockSame.ps))) := []
def N_sBlockSame : List (Nat × Sig) := [(274, S_sHeadSame), (346, S_sTreeSame)]
theorem t_sBlockSame : ∀ k x, runF tt (alook N_sBlockSame) k Tryz.f275 S_sBlockSame.ps S_sBlockSame.res (alook L_sBlockSame) x = S_sBlockSame.F k x := by intro k x; kernel_rfl
def L_wszQc : List (Nat × LSpec (denRs (S_wszQc.res ++ outM S_wszQc.ps))) := []
def N_wszQc : List (Nat × Sig) := [(267, S_wszByteS), (268, S_wszByteSS)]
theorem t_wszQc : ∀ k x, runF tt (alook N_wszQc) k Tryz.f160 S_wszQc.ps S_wszQc.res (alook L_wszQc) x = S_wszQc.F k x := by intro k x; kernel_rfl
def L_wszEntryS_0 : LSpec (denRs (S_wszEntryS.res ++ outM S_wszEntryS.ps)) := .mkR [(0, .sh (.slice tEntry)), (1, .sh i64), (5, .sh i64)] [(1, .sh i64)] [] fun k x => wszEntryS_l0 k x.1 x.2.1 x.2.2
def L_wszEntryS : List (Nat × LSpec (denRs (S_wszEntryS.res ++ outM S_wszEntryS.ps))) := [(0, L_wszEntryS_0)]
def N_wszEntryS : List (Nat × Sig) := [(345, S_wszEntry)]
theorem r_wszEntryS_0 : ∀ k, runL tt (alook N_wszEntryS) k Tryz.f269 S_wszEntryS.ps S_wszEntryS.res (alook L_wszEntryS) 0 L_wszEntryS_0 := by intro k x; kernel_rfl
theorem t_wszEntryS : ∀ k x, runF tt (alook N_wszEntryS) k Tryz.f269 S_wszEntryS.ps S_wszEntryS.res (alook L_wszEntryS) x = S_wszEntryS.F k x := by intro k x; kernel_rfl
def L_sOfProof : List (Nat × LSpec (denRs (S_sOfProof.res ++ outM S_sOfProof.ps))) := []
def N_sOfProof : List (Nat × Sig) := [(341, S_sl16Copy)]
theorem t_sOfProof : ∀ k x, runF tt (alook N_sOfProof) k Tryz.f257 S_sOfProof.ps S_sOfProof.res (alook L_sOfProof) x = S_sOfProof.F k x := by intro k x; kernel_rfl
def L_sOfBlock : List (Nat × LSpec (denRs (S_sOfBlock.res ++ outM S_sOfBlock.ps))) := []
def N_sOfBlock : List (Nat × Sig) := [(337, S_sl14Copy)]
theorem t_sOfBlock : ∀ k x, runF tt (alook N_sOfBlock) k Tryz.f253 S_sOfBlock.ps S_sOfBlock.res (alook L_sOfBlock) x = S_sOfBlock.F k x := by intro k x; kernel_rfl
def L_iCrc : List (Nat × LSpec (denRs (S_iCrc.res ++ outM S_iCrc.ps))) := []
def N_iCrc : List (Nat × Sig) := [(332, S_iCrcMore)]
theorem t_iCrc : ∀ k x, runF tt (alook N_iCrc) k Tryz.f247 S_iCrc.ps S_iCrc.res (alook L_iCrc) x = S_iCrc.F k x := by intro k x; kernel_rfl
def L_sl11Draw : List (Nat × LSpec (denRs (S_sl11Draw.res ++ outM S_sl11Draw.ps))) := []
def N_sl11Draw : List (Nat × Sig) := [(90, S_sl01Below), (91, S_sl11Hash), (321, S_sl01AnyNum)]
theorem t_sl11Draw : ∀ k x, runF tt (alook N_sl11Draw) k Tryz.f231 S_sl11Draw.ps S_sl11Draw.res (alook L_sl11Draw) x = S_sl11Draw.F k x := by intro k x; kernel_rfl
def L_sl17Only : List (Nat × LSpec (denRs (S_sl17Only.res ++ outM S_sl17Only.ps))) := []
def N_sl17Only : List (Nat × Sig) := [(230, S_sOfVote), (249, S_sOfQc), (251, S_sOfHead), (253, S_sOfBlock), (255, S_sOfTc), (257, S_sOfProof), (259, S_sOfIncl)]
theorem t_sl17Only : ∀ k x, runF tt (alook N_sl17Only) k Tryz.f168 S_sl17Only.ps S_sl17Only.res (alook L_sl17Only) x = S_sl17Only.F k x := by intro k x; kernel_rfl
def L_sFrame : List (Nat × LSpec (denRs (S_sFrame.res ++ outM S_sFrame.ps))) := []
def N_sFrame : List (Nat × Sig) := [(207, S_sPutFix), (271, S_sl01In), (297, S_sLimitsOk), (298, S_sCrc)]
theorem t_sFrame : ∀ k x, runF tt (alook N_sFrame) k Tryz.f194 S_sFrame.ps S_sFrame.res (alook L_sFrame) x = S_sFrame.F k x := by intro k x; kernel_rfl
def L_iTreeRoot : List (Nat × LSpec (denRs (S_iTreeRoot.res ++ outM S_iTreeRoot.ps))) := []
def N_iTreeRoot : List (Nat × Sig) := [(130, S_iSha), (224, S_iLeafHash), (329, S_iSplitAt), (330, S_iNodeHash)]
theorem t_iTreeRoot : ∀ k x, runF tt (alook ((242, S_iTreeRoot) :: N_iTreeRoot)) k Tryz.f242 S_iTreeRoot.ps S_iTreeRoot.res (alook L_iTreeRoot) x = S_iTreeRoot.F (k + 1) x := by intro k x; kernel_rfl
def L_iProofOk : List (Nat × LSpec (denRs (S_iProofOk.res ++ outM S_iProofOk.ps))) := []
def N_iProofOk : List (Nat × Sig) := [(122, S_iQcOk), (213, S_iwithin), (214, S_iareHeads), (215, S_iProof_closes)]
theorem t_iProofOk : ∀ k x, runF tt (alook N_iProofOk) k Tryz.f98 S_iProofOk.ps S_iProofOk.res (alook L_iProofOk) x = S_iProofOk.F k x := by intro k x; kernel_rfl
def L_iIsQuorum : List (Nat × LSpec (denRs (S_iIsQuorum.res ++ outM S_iIsQuorum.ps))) := []
def N_iIsQuorum : List (Nat × Sig) := [(209, S_iTableOk), (314, S_iWeightOf), (315, S_iTotalOf)]
theorem t_iIsQuorum : ∀ k x, runF tt (alook N_iIsQuorum) k Tryz.f218 S_iIsQuorum.ps S_iIsQuorum.res (alook L_iIsQuorum) x = S_iIsQuorum.F k x := by intro k x; kernel_rfl
def L_iTcOk_0 : LSpec (denRs (S_iTcOk.res ++ outM S_iTcOk.ps)) := .mkR [(2, .pbox (.sh tLimits)), (3, .pbox (.sh tTc)), (8, .sh (.slice tEntry)), (9, .sh i64), (10, .sh i64)] [(2, .pbox (.sh tLimits)), (3, .pbox (.sh tTc))] [] fun k x => iTcOk_l0 k x.1 x.2.1 x.2.2.1 x.2.2.2.1 x.2.2.2.2
def L_iTcOk : List (Nat × LSpec (denRs (S_iTcOk.res ++ outM S_iTcOk.ps))) := [(0, L_iTcOk_0)]
def N_iTcOk : List (Nat × Sig) := [(149, S_iLimitsOk), (150, S_iisNum), (213, S_iwithin), (227, S_iareHashes)]
theorem r_iTcOk_0 : ∀ k, runL tt (alook N_iTcOk) k Tryz.f135 S_iTcOk.ps S_iTcOk.res (alook L_iTcOk) 0 L_iTcOk_0 := by intro k x; kernel_rfl
theorem t_iTcOk : ∀ k x, runF tt (alook N_iTcOk) k Tryz.f135 S_iTcOk.ps S_iTcOk.res (alook L_iTcOk) x = S_iTcOk.F k x := by intro k x; kernel_rfl
def L_iFrame : List (Nat × LSpec (denRs (S_iFrame.res ++ outM S_iFrame.ps))) := []
def N_iFrame : List (Nat × Sig) := [(149, S_iLimitsOk), (213, S_iwithin), (247, S_iCrc), (293, S_iPutFix)]
theorem t_iFrame : ∀ k x, runF tt (alook N_iFrame) k Tryz.f185 S_iFrame.ps S_iFrame.res (alook L_iFrame) x = S_iFrame.F k x := by intro k x; kernel_rfl
def L_wtoIncl : List (Nat × LSpec (denRs (S_wtoIncl.res ++ outM S_wtoIncl.ps))) := []
def N_wtoIncl : List (Nat × Sig) := [(286, S_wtoByteS), (287, S_wtoByteSS)]
theorem t_wtoIncl : ∀ k x, runF tt (alook N_wtoIncl) k Tryz.f176 S_wtoIncl.ps S_wtoIncl.res (alook L_wtoIncl) x = S_wtoIncl.F k x := by intro k x; kernel_rfl
def L_wszProof : List (Nat × LSpec (denRs (S_wszProof.res ++ outM S_wszProof.ps))) := []
def N_wszProof : List (Nat × Sig) := [(160, S_wszQc), (270, S_wszHeadS)]
theorem t_wszProof : ∀ k x, runF tt (alook N_wszProof) k Tryz.f164 S_wszProof.ps S_wszProof.res (alook L_wszProof) x = S_wszProof.F k x := by intro k x; kernel_rfl
def L_inameAt : List (Nat × LSpec (denRs (S_inameAt.res ++ outM S_inameAt.ps))) := []
def N_inameAt : List (Nat × Sig) := [(213, S_iwithin)]
theorem t_inameAt : ∀ k x, runF tt (alook N_inameAt) k Tryz.f154 S_inameAt.ps S_inameAt.res (alook L_inameAt) x = S_inameAt.F k x := by intro k x; kernel_rfl
def L_iBlockOk_0 : LSpec (denRs (S_iBlockOk.res ++ outM S_iBlockOk.ps)) := .mkR [(2, .pbox (.sh tLimits)), (3, .pbox (.sh tBlock)), (8, .sh (.slice bs)), (9, .sh i64), (10, .sh i64)] [(2, .pbox (.sh tLimits)), (3, .pbox (.sh tBlock))] [] fun k x => iBlockOk_l0 k x.1 x.2.1 x.2.2.1 x.2.2.2.1 x.2.2.2.2
def L_iBlockOk : List (Nat × LSpec (denRs (S_iBlockOk.res ++ outM S_iBlockOk.ps))) := [(0, L_iBlockOk_0)]
def N_iBlockOk : List (Nat × Sig) := [(65, S_iSameBytes), (110, S_iHeadOk), (242, S_iTreeRoot)]
theorem r_iBlockOk_0 : ∀ k, runL tt (alook N_iBlockOk) k Tryz.f131 S_iBlockOk.ps S_iBlockOk.res (alook L_iBlockOk) 0 L_iBlockOk_0 := by intro k x; kernel_rfl
theorem t_iBlockOk : ∀ k x, runF tt (alook N_iBlockOk) k Tryz.f131 S_iBlockOk.ps S_iBlockOk.res (alook L_iBlockOk) x = S_iBlockOk.F k x := by intro k x; kernel_rfl
def L_iMsg_put : List (Nat × LSpec (denRs (S_iMsg_put.res ++ outM S_iMsg_put.ps))) := []
def N_iMsg_put : List (Nat × Sig) := [(29, S_iPutVote), (32, S_iPutQc), (35, S_iPutHead), (38, S_iPutBlock), (41, S_iPutTc), (44, S_iPutProof), (47, S_iPutIncl)]
theorem t_iMsg_put : ∀ k x, runF tt (alook N_iMsg_put) k Tryz.f153 S_iMsg_put.ps S_iMsg_put.res (alook L_iMsg_put) x = S_iMsg_put.F k x := by intro k x; kernel_rfl
def L_ireadHead : List (Nat × LSpec (denRs (S_ireadHead.res ++ outM S_ireadHead.ps))) := []
def N_ireadHead : List (Nat × Sig) := [(125, S_ireadQc), (228, S_iHead_matches), (233, S_ireader_num), (234, S_ireader_hash), (235, S_ireader_below), (238, S_ireader_must)]
theorem t_ireadHead : ∀ k x, runF tt (alook N_ireadHead) k Tryz.f129 S_ireadHead.ps S_ireadHead.res (alook L_ireadHead) x = S_ireadHead.F k x := by intro k x; kernel_rfl
def L_iGetTc : List (Nat × LSpec (denRs (S_iGetTc.res ++ outM S_iGetTc.ps))) := []
def N_iGetTc : List (Nat × Sig) := [(136, S_iget_implTc)]
theorem t_iGetTc : ∀ k x, runF tt (alook N_iGetTc) k Tryz.f42 S_iGetTc.ps S_iGetTc.res (alook L_iGetTc) x = S_iGetTc.F k x := by intro k x; kernel_rfl
def L_iget_implProof : List (Nat × LSpec (denRs (S_iget_implProof.res ++ outM S_iget_implProof.ps))) := []
def N_iget_implProof : List (Nat × Sig) := [(140, S_ireadProof), (149, S_iLimitsOk)]
theorem t_iget_implProof : ∀ k x, runF tt (alook N_iget_implProof) k Tryz.f139 S_iget_implProof.ps S_iget_implProof.res (alook L_iget_implProof) x = S_iget_implProof.F k x := by intro k x; kernel_rfl
def L_iGetIncl : List (Nat × LSpec (denRs (S_iGetIncl.res ++ outM S_iGetIncl.ps))) := []
def N_iGetIncl : List (Nat × Sig) := [(142, S_iget_implIncl)]
theorem t_iGetIncl : ∀ k x, runF tt (alook N_iGetIncl) k Tryz.f48 S_iGetIncl.ps S_iGetIncl.res (alook L_iGetIncl) x = S_iGetIncl.F k x := by intro k x; kernel_rfl
def L_iDecode : List (Nat × LSpec (denRs (S_iDecode.res ++ outM S_iDecode.ps))) := []
def N_iDecode : List (Nat × Sig) := [(30, S_iGetVote), (33, S_iGetQc), (36, S_iGetHead), (39, S_iGetBlock), (42, S_iGetTc), (45, S_iGetProof), (48, S_iGetIncl), (61, S_iKindName), (149, S_iLimitsOk)]
theorem t_iDecode : ∀ k x, runF tt (alook N_iDecode) k Tryz.f59 S_iDecode.ps S_iDecode.res (alook L_iDecode) x = S_iDecode.F k x := by intro k x; kernel_rfl
def L_wFnDecode : List (Nat × LSpec (denRs (S_wFnDecode.res ++ outM S_wFnDecode.ps))) := []
def N_wFnDecode : List (Nat × Sig) := [(26, S_sMakeLimits), (27, S_sMakeMsg), (28, S_sMakeNum), (50, S_iMsgSize), (58, S_iEncode), (59, S_iDecode), (60, S_iMsgSame), (61, S_iKindName)]
theorem t_wFnDecode : ∀ k x, runF tt (alook N_wFnDecode) k Tryz.f6 S_wFnDecode.ps S_wFnDecode.res (alook L_wFnDecode) x = S_wFnDecode.F k x := by intro k x; kernel_rfl
end Go.Ev.G
