/- The functions run in the evaluator as their plain functions say. No condition. -/
import Derived.Test.YtmbpdaffnabjcaaGreatS
set_option linter.unusedVariables false
set_option linter.unusedSimpArgs false
set_option linter.unusedSectionVars false
/- Proofs: printed by gen.py. -/
namespace Go.Ev.G
open Go.Ev Go.Proofs
set_option linter.unusedVariables false
def L_sl01In : List (Nat × LSpec (denRs (S_sl01In.res ++ outM S_sl01In.ps))) := []
def N_sl01In : List (Nat × Sig) := []
theorem t_sl01In : ∀ k x, runF tt (alook N_sl01In) k Tryz.f271 S_sl01In.ps S_sl01In.res (alook L_sl01In) x = S_sl01In.F k x := by intro k x; kernel_rfl
def L_sSha_0 : LSpec (denRs (S_sSha.res ++ outM S_sSha.ps)) := .mk [(3, .own i64 false), (4, .own u8 true), (5, .sh i64)] [(3, .own i64 false)] [] fun k x => sSha_l0 k x.1 x.2.1 x.2.2
def L_sSha_2 : LSpec (denRs (S_sSha.res ++ outM S_sSha.ps)) := .mk [(6, .own u8 true), (26, .own i64 false), (27, .sh i64), (28, .sh i64)] [(6, .own u8 true)] [] fun k x => sSha_l2 k x.1 x.2.1 x.2.2.1 x.2.2.2
def L_sSha : List (Nat × LSpec (denRs (S_sSha.res ++ outM S_sSha.ps))) := [(0, L_sSha_0), (2, L_sSha_2)]
def N_sSha : List (Nat × Sig) := [(358, S_sShaInit), (359, S_sShaPad), (360, S_sShaBlock)]
theorem r_sSha_0 : ∀ k, runL tt (alook N_sSha) k Tryz.f305 S_sSha.ps S_sSha.res (alook L_sSha) 0 L_sSha_0 := by intro k x; kernel_rfl
theorem r_sSha_2 : ∀ k, runL tt (alook N_sSha) k Tryz.f305 S_sSha.ps S_sSha.res (alook L_sSha) 2 L_sSha_2 := by intro k x; kernel_rfl
theorem t_sSha : ∀ k x, runF tt (alook N_sSha) k Tryz.f305 S_sSha.ps S_sSha.res (alook L_sSha) x = S_sSha.F k x := by intro k x; kernel_rfl
def L_sl16Heads_0 : LSpec (denRs (S_sl16Heads.res ++ outM S_sl16Heads.ps)) := .mk [(3, .own tHead true), (7, .sh (.slice tHead)), (8, .sh i64), (9, .sh i64)] [(3, .own tHead true)] [] fun k x => sl16Heads_l0 k x.1 x.2.1 x.2.2.1 x.2.2.2
def L_sl16Heads : List (Nat × LSpec (denRs (S_sl16Heads.res ++ outM S_sl16Heads.ps))) := [(0, L_sl16Heads_0)]
def N_sl16Heads : List (Nat × Sig) := [(336, S_sl13Copy)]
theorem r_sl16Heads_0 : ∀ k, runL tt (alook N_sl16Heads) k Tryz.f371 S_sl16Heads.ps S_sl16Heads.res (alook L_sl16Heads) 0 L_sl16Heads_0 := by intro k x; kernel_rfl
theorem t_sl16Heads : ∀ k x, runF tt (alook N_sl16Heads) k Tryz.f371 S_sl16Heads.ps S_sl16Heads.res (alook L_sl16Heads) x = S_sl16Heads.F k x := by intro k x; kernel_rfl
def L_iTurnRight : List (Nat × LSpec (denRs (S_iTurnRight.res ++ outM S_iTurnRight.ps))) := []
def N_iTurnRight : List (Nat × Sig) := [(213, S_iwithin), (326, S_iisWord)]
theorem t_iTurnRight : ∀ k x, runF tt (alook N_iTurnRight) k Tryz.f328 S_iTurnRight.ps S_iTurnRight.res (alook L_iTurnRight) x = S_iTurnRight.F k x := by intro k x; kernel_rfl
def L_sl07Hash : List (Nat × LSpec (denRs (S_sl07Hash.res ++ outM S_sl07Hash.ps))) := []
def N_sl07Hash : List (Nat × Sig) := []
theorem t_sl07Hash : ∀ k x, runF tt (alook N_sl07Hash) k Tryz.f302 S_sl07Hash.ps S_sl07Hash.res (alook L_sl07Hash) x = S_sl07Hash.F k x := by intro k x; kernel_rfl
def L_sl11Num : List (Nat × LSpec (denRs (S_sl11Num.res ++ outM S_sl11Num.ps))) := []
def N_sl11Num : List (Nat × Sig) := [(374, S_sPutVar)]
theorem t_sl11Num : ∀ k x, runF tt (alook N_sl11Num) k Tryz.f348 S_sl11Num.ps S_sl11Num.res (alook L_sl11Num) x = S_sl11Num.F k x := by intro k x; kernel_rfl
def L_sl08Hashes_0 : LSpec (denRs (S_sl08Hashes.res ++ outM S_sl08Hashes.ps)) := .mkR [(5, .sh (.slice bs)), (6, .sh i64), (7, .sh i64)] [] [] fun k x => sl08Hashes_l0 k x.1 x.2.1 x.2.2
def L_sl08Hashes : List (Nat × LSpec (denRs (S_sl08Hashes.res ++ outM S_sl08Hashes.ps))) := [(0, L_sl08Hashes_0)]
def N_sl08Hashes : List (Nat × Sig) := [(302, S_sl07Hash)]
theorem r_sl08Hashes_0 : ∀ k, runL tt (alook N_sl08Hashes) k Tryz.f357 S_sl08Hashes.ps S_sl08Hashes.res (alook L_sl08Hashes) 0 L_sl08Hashes_0 := by intro k x; kernel_rfl
theorem t_sl08Hashes : ∀ k x, runF tt (alook N_sl08Hashes) k Tryz.f357 S_sl08Hashes.ps S_sl08Hashes.res (alook L_sl08Hashes) x = S_sl08Hashes.F k x := by intro k x; kernel_rfl
def L_sInclOk : List (Nat × LSpec (denRs (S_sInclOk.res ++ outM S_sInclOk.ps))) := []
def N_sInclOk : List (Nat × Sig) := [(271, S_sl01In), (297, S_sLimitsOk), (301, S_sl01Num), (344, S_sPathLen), (357, S_sl08Hashes)]
theorem t_sInclOk : ∀ k x, runF tt (alook N_sInclOk) k Tryz.f353 S_sInclOk.ps S_sInclOk.res (alook L_sInclOk) x = S_sInclOk.F k x := by intro k x; kernel_rfl
def L_sl13Fits : List (Nat × LSpec (denRs (S_sl13Fits.res ++ outM S_sl13Fits.ps))) := []
def N_sl13Fits : List (Nat × Sig) := [(309, S_sSameBytes)]
theorem t_sl13Fits : ∀ k x, runF tt (alook N_sl13Fits) k Tryz.f304 S_sl13Fits.ps S_sl13Fits.res (alook L_sl13Fits) x = S_sl13Fits.F k x := by intro k x; kernel_rfl
def L_sTcOk_0 : LSpec (denRs (S_sTcOk.res ++ outM S_sTcOk.ps)) := .mkR [(2, .pbox (.sh tLimits)), (3, .pbox (.sh tTc)), (25, .sh (.slice tEntry)), (26, .sh i64), (27, .sh i64)] [] [] fun k x => sTcOk_l0 k x.1 x.2.1 x.2.2.1 x.2.2.2.1 x.2.2.2.2
def L_sTcOk : List (Nat × LSpec (denRs (S_sTcOk.res ++ outM S_sTcOk.ps))) := [(0, L_sTcOk_0)]
def N_sTcOk : List (Nat × Sig) := [(271, S_sl01In), (297, S_sLimitsOk), (301, S_sl01Num), (302, S_sl07Hash)]
theorem r_sTcOk_0 : ∀ k, runL tt (alook N_sTcOk) k Tryz.f351 S_sTcOk.ps S_sTcOk.res (alook L_sTcOk) 0 L_sTcOk_0 := by intro k x; kernel_rfl
theorem t_sTcOk : ∀ k x, runF tt (alook N_sTcOk) k Tryz.f351 S_sTcOk.ps S_sTcOk.res (alook L_sTcOk) x = S_sTcOk.F k x := by intro k x; kernel_rfl
def L_sl01Below : List (Nat × LSpec (denRs (S_sl01Below.res ++ outM S_sl01Below.ps))) := []
def N_sl01Below : List (Nat × Sig) := [(203, S_sl01Byte)]
theorem t_sl01Below : ∀ k x, runF tt (alook N_sl01Below) k Tryz.f90 S_sl01Below.ps S_sl01Below.res (alook L_sl01Below) x = S_sl01Below.F k x := by intro k x; kernel_rfl
def L_sl02Draw_0 : LSpec (denRs (S_sl02Draw.res ++ outM S_sl02Draw.ps)) := .mk [(0, .pbox (.sh tl01Cur)), (1, .sh i64), (5, .own u8 false), (6, .sh i64)] [(0, .pbox (.sh tl01Cur)), (5, .own u8 false)] [] fun k x => sl02Draw_l0 k x.1 x.2.1 x.2.2.1 x.2.2.2
def L_sl02Draw : List (Nat × LSpec (denRs (S_sl02Draw.res ++ outM S_sl02Draw.ps))) := [(0, L_sl02Draw_0)]
def N_sl02Draw : List (Nat × Sig) := [(156, S_sl01Once), (200, S_sBitsNew)]
theorem r_sl02Draw_0 : ∀ k, runL tt (alook N_sl02Draw) k Tryz.f334 S_sl02Draw.ps S_sl02Draw.res (alook L_sl02Draw) 0 L_sl02Draw_0 := by intro k x; kernel_rfl
theorem t_sl02Draw : ∀ k x, runF tt (alook N_sl02Draw) k Tryz.f334 S_sl02Draw.ps S_sl02Draw.res (alook L_sl02Draw) x = S_sl02Draw.F k x := by intro k x; kernel_rfl
def L_sl15Copy_0 : LSpec (denRs (S_sl15Copy.res ++ outM S_sl15Copy.ps)) := .mk [(2, .pbox (.pair (.sh i64) (.pair (.own tEntry false) .unit))), (3, .pbox (.pair (.sh i64) (.pair (.own tEntry false) .unit))), (10, .sh (.slice tEntry)), (11, .sh i64), (12, .sh i64)] [(2, .pbox (.pair (.sh i64) (.pair (.own tEntry false) .unit))), (3, .pbox (.pair (.sh i64) (.pair (.own tEntry false) .unit)))] [] fun k x => sl15Copy_l0 k x.1 x.2.1 x.2.2.1 x.2.2.2.1 x.2.2.2.2
def L_sl15Copy : List (Nat × LSpec (denRs (S_sl15Copy.res ++ outM S_sl15Copy.ps))) := [(0, L_sl15Copy_0)]
def N_sl15Copy : List (Nat × Sig) := [(199, S_sl01Copy)]
theorem r_sl15Copy_0 : ∀ k, runL tt (alook N_sl15Copy) k Tryz.f340 S_sl15Copy.ps S_sl15Copy.res (alook L_sl15Copy) 0 L_sl15Copy_0 := by intro k x; kernel_rfl
theorem t_sl15Copy : ∀ k x, runF tt (alook N_sl15Copy) k Tryz.f340 S_sl15Copy.ps S_sl15Copy.res (alook L_sl15Copy) x = S_sl15Copy.F k x := by intro k x; kernel_rfl
def L_iGetText : List (Nat × LSpec (denRs (S_iGetText.res ++ outM S_iGetText.ps))) := []
def N_iGetText : List (Nat × Sig) := [(322, S_iGetVar), (325, S_iGetRaw)]
theorem t_iGetText : ∀ k x, runF tt (alook N_iGetText) k Tryz.f331 S_iGetText.ps S_iGetText.res (alook L_iGetText) x = S_iGetText.F k x := by intro k x; kernel_rfl
def L_iLimitsOk : List (Nat × LSpec (denRs (S_iLimitsOk.res ++ outM S_iLimitsOk.ps))) := []
def N_iLimitsOk : List (Nat × Sig) := [(213, S_iwithin)]
theorem t_iLimitsOk : ∀ k x, runF tt (alook N_iLimitsOk) k Tryz.f149 S_iLimitsOk.ps S_iLimitsOk.res (alook L_iLimitsOk) x = S_iLimitsOk.F k x := by intro k x; kernel_rfl
def L_iBitsOk_0 : LSpec (denRs (S_iBitsOk.res ++ outM S_iBitsOk.ps)) := .mkR [(1, .sh i64), (18, .own i64 true), (19, .sh i64), (20, .sh i64)] [] [] fun k x => iBitsOk_l0 k x.1 x.2.1 x.2.2.1 x.2.2.2
def L_iBitsOk : List (Nat × LSpec (denRs (S_iBitsOk.res ++ outM S_iBitsOk.ps))) := [(0, L_iBitsOk_0)]
def N_iBitsOk : List (Nat × Sig) := [(211, S_iBitsList), (213, S_iwithin), (226, S_iBitsSize)]
theorem r_iBitsOk_0 : ∀ k, runL tt (alook N_iBitsOk) k Tryz.f210 S_iBitsOk.ps S_iBitsOk.res (alook L_iBitsOk) 0 L_iBitsOk_0 := by intro k x; kernel_rfl
theorem t_iBitsOk : ∀ k x, runF tt (alook N_iBitsOk) k Tryz.f210 S_iBitsOk.ps S_iBitsOk.res (alook L_iBitsOk) x = S_iBitsOk.F k x := by intro k x; kernel_rfl
def L_iareHeads_0 : LSpec (denRs (S_iareHeads.res ++ outM S_iareHeads.ps)) := .mkR [(2, .pbox (.sh tLimits)), (7, .sh (.slice tHead)), (8, .sh i64), (9, .sh i64)] [] [] fun k x => iareHeads_l0 k x.1 x.2.1 x.2.2.1 x.2.2.2
def L_iareHeads : List (Nat × LSpec (denRs (S_iareHeads.res ++ outM S_iareHeads.ps))) := [(0, L_iareHeads_0)]
def N_iareHeads : List (Nat × Sig) := [(110, S_iHeadOk)]
theorem r_iareHeads_0 : ∀ k, runL tt (alook N_iareHeads) k Tryz.f214 S_iareHeads.ps S_iareHeads.res (alook L_iareHeads) 0 L_iareHeads_0 := by intro k x; kernel_rfl
theorem t_iareHeads : ∀ k x, runF tt (alook N_iareHeads) k Tryz.f214 S_iareHeads.ps S_iareHeads.res (alook L_iareHeads) x = S_iareHeads.F k x := by intro k x; kernel_rfl
def L_iQc_copied : List (Nat × LSpec (denRs (S_iQc_copied.res ++ outM S_iQc_copied.ps))) := []
def N_iQc_copied : List (Nat × Sig) := [(108, S_icopyBytes), (320, S_icopyList)]
theorem t_iQc_copied : ∀ k x, runF tt (alook N_iQc_copied) k Tryz.f225 S_iQc_copied.ps S_iQc_copied.res (alook L_iQc_copied) x = S_iQc_copied.F k x := by intro k x; kernel_rfl
def L_sPutProof_0 : LSpec (denRs (S_sPutProof.res ++ outM S_sPutProof.ps)) := .mk [(3, .pbox (.sh tLimits)), (5, .pbox (.sh tProof)), (8, .own u8 false), (21, .sh (.slice tHead)), (22, .sh i64), (23, .sh i64)] [(3, .pbox (.sh tLimits)), (5, .pbox (.sh tProof)), (8, .own u8 false)] [] fun k x => sPutProof_l0 k x.1 x.2.1 x.2.2.1 x.2.2.2.1 x.2.2.2.2.1 x.2.2.2.2.2
def L_sPutProof : List (Nat × LSpec (denRs (S_sPutProof.res ++ outM S_sPutProof.ps))) := [(0, L_sPutProof_0)]
def N_sPutProof : List (Nat × Sig) := [(280, S_sPutQc), (281, S_sPutHead), (348, S_sl11Num), (352, S_sProofOk)]
theorem r_sPutProof_0 : ∀ k, runL tt (alook N_sPutProof) k Tryz.f284 S_sPutProof.ps S_sPutProof.res (alook L_sPutProof) 0 L_sPutProof_0 := by intro k x; kernel_rfl
theorem t_sPutProof : ∀ k x, runF tt (alook N_sPutProof) k Tryz.f284 S_sPutProof.ps S_sPutProof.res (alook L_sPutProof) x = S_sPutProof.F k x := by intro k x; kernel_rfl
def L_sVoteSame : List (Nat × LSpec (denRs (S_sVoteSame.res ++ outM S_sVoteSame.ps))) := []
def N_sVoteSame : List (Nat × Sig) := [(309, S_sSameBytes)]
theorem t_sVoteSame : ∀ k x, runF tt (alook N_sVoteSame) k Tryz.f272 S_sVoteSame.ps S_sVoteSame.res (alook L_sVoteSame) x = S_sVoteSame.F k x := by intro k x; kernel_rfl
def L_iOfQc : List (Nat × LSpec (denRs (S_iOfQc.res ++ outM S_iOfQc.ps))) := []
def N_iOfQc : List (Nat × Sig) := [(225, S_iQc_copied)]
theorem t_iOfQc : ∀ k x, runF tt (alook N_iOfQc) k Tryz.f262 S_iOfQc.ps S_iOfQc.res (alook L_iOfQc) x = S_iOfQc.F k x := by intro k x; kernel_rfl
def L_sOfProof : List (Nat × LSpec (denRs (S_sOfProof.res ++ outM S_sOfProof.ps))) := []
def N_sOfProof : List (Nat × Sig) := [(341, S_sl16Copy)]
theorem t_sOfProof : ∀ k x, runF tt (alook N_sOfProof) k Tryz.f257 S_sOfProof.ps S_sOfProof.res (alook L_sOfProof) x = S_sOfProof.F k x := by intro k x; kernel_rfl
def L_sOfBlock : List (Nat × LSpec (denRs (S_sOfBlock.res ++ outM S_sOfBlock.ps))) := []
def N_sOfBlock : List (Nat × Sig) := [(337, S_sl14Copy)]
theorem t_sOfBlock : ∀ k x, runF tt (alook N_sOfBlock) k Tryz.f253 S_sOfBlock.ps S_sOfBlock.res (alook L_sOfBlock) x = S_sOfBlock.F k x := by intro k x; kernel_rfl
def L_sOfVote : List (Nat × LSpec (denRs (S_sOfVote.res ++ outM S_sOfVote.ps))) := []
def N_sOfVote : List (Nat × Sig) := [(199, S_sl01Copy)]
theorem t_sOfVote : ∀ k x, runF tt (alook N_sOfVote) k Tryz.f230 S_sOfVote.ps S_sOfVote.res (alook L_sOfVote) x = S_sOfVote.F k x := by intro k x; kernel_rfl
def L_sl17Draw : List (Nat × LSpec (denRs (S_sl17Draw.res ++ outM S_sl17Draw.ps))) := []
def N_sl17Draw : List (Nat × Sig) := [(90, S_sl01Below), (230, S_sOfVote), (231, S_sl11Draw), (249, S_sOfQc), (250, S_sl12Draw), (251, S_sOfHead), (252, S_sl13Draw), (253, S_sOfBlock), (254, S_sl14Draw), (255, S_sOfTc), (256, S_sl15Draw), (257, S_sOfProof), (258, S_sl16Draw), (259, S_sOfIncl), (260, S_sl16Some)]
theorem t_sl17Draw : ∀ k x, runF tt (alook N_sl17Draw) k Tryz.f155 S_sl17Draw.ps S_sl17Draw.res (alook L_sl17Draw) x = S_sl17Draw.F k x := by intro k x; kernel_rfl
def L_iProofOk : List (Nat × LSpec (denRs (S_iProofOk.res ++ outM S_iProofOk.ps))) := []
def N_iProofOk : List (Nat × Sig) := [(122, S_iQcOk), (213, S_iwithin), (214, S_iareHeads), (215, S_iProof_closes)]
theorem t_iProofOk : ∀ k x, runF tt (alook N_iProofOk) k Tryz.f98 S_iProofOk.ps S_iProofOk.res (alook L_iProofOk) x = S_iProofOk.F k x := by intro k x; kernel_rfl
def L_iMsg_alone : List (Nat × LSpec (denRs (S_iMsg_alone.res ++ outM S_iMsg_alone.ps))) := []
def N_iMsg_alone : List (Nat × Sig) := [(20, S_iOfProof), (261, S_iOfVote), (262, S_iOfQc), (263, S_iOfHead), (264, S_iOfBlock), (265, S_iOfTc), (266, S_iOfIncl)]
theorem t_iMsg_alone : ∀ k x, runF tt (alook N_iMsg_alone) k Tryz.f158 S_iMsg_alone.ps S_iMsg_alone.res (alook L_iMsg_alone) x = S_iMsg_alone.F k x := by intro k x; kernel_rfl
def L_iInclOk : List (Nat × LSpec (denRs (S_iInclOk.res ++ outM S_iInclOk.ps))) := []
def N_iInclOk : List (Nat × Sig) := [(149, S_iLimitsOk), (150, S_iisNum), (213, S_iwithin), (227, S_iareHashes), (244, S_iPathLen)]
theorem t_iInclOk : ∀ k x, runF tt (alook N_iInclOk) k Tryz.f141 S_iInclOk.ps S_iInclOk.res (alook L_iInclOk) x = S_iInclOk.F k x := by intro k x; kernel_rfl
def L_ireadVote : List (Nat × LSpec (denRs (S_ireadVote.res ++ outM S_ireadVote.ps))) := []
def N_ireadVote : List (Nat × Sig) := [(233, S_ireader_num), (234, S_ireader_hash), (235, S_ireader_below)]
theorem t_ireadVote : ∀ k x, runF tt (alook N_ireadVote) k Tryz.f121 S_ireadVote.ps S_ireadVote.res (alook L_ireadVote) x = S_ireadVote.F k x := by intro k x; kernel_rfl
def L_ireadHead : List (Nat × LSpec (denRs (S_ireadHead.res ++ outM S_ireadHead.ps))) := []
def N_ireadHead : List (Nat × Sig) := [(125, S_ireadQc), (228, S_iHead_matches), (233, S_ireader_num), (234, S_ireader_hash), (235, S_ireader_below), (238, S_ireader_must)]
theorem t_ireadHead : ∀ k x, runF tt (alook N_ireadHead) k Tryz.f129 S_ireadHead.ps S_ireadHead.res (alook L_ireadHead) x = S_ireadHead.F k x := by intro k x; kernel_rfl
def L_iget_implTc : List (Nat × LSpec (denRs (S_iget_implTc.res ++ outM S_iget_implTc.ps))) := []
def N_iget_implTc : List (Nat × Sig) := [(137, S_ireadTc), (149, S_iLimitsOk)]
theorem t_iget_implTc : ∀ k x, runF tt (alook N_iget_implTc) k Tryz.f136 S_iget_implTc.ps S_iget_implTc.res (alook L_iget_implTc) x = S_iget_implTc.F k x := by intro k x; kernel_rfl
def L_ireadIncl_0 : LSpec (denRs (S_ireadIncl.res ++ outM S_ireadIncl.ps)) := .mk [(1, .pbox (.sh tl01Cur)), (4, .pbox (.pair (.sh i64) (.pair (.sh i64) (.pair (.sh i64) (.pair (.own u8 false) (.pair (.own bs false) .unit)))))), (5, .pbox (.pair (.sh i64) (.pair (.sh i64) (.pair (.sh i64) (.pair (.own u8 false) (.pair (.own bs false) .unit)))))), (42, .sh i64), (43, .sh i64)] [(1, .pbox (.sh tl01Cur)), (4, .pbox (.pair (.sh i64) (.pair (.sh i64) (.pair (.sh i64) (.pair (.own u8 false) (.pair (.own bs false) .unit)))))), (5, .pbox (.pair (.sh i64) (.pair (.sh i64) (.pair (.sh i64) (.pair (.own u8 false) (.pair (.own bs false) .unit))))))] [] fun k x => ireadIncl_l0 k x.1 x.2.1 x.2.2.1 x.2.2.2.1 x.2.2.2.2
def L_ireadIncl : List (Nat × LSpec (denRs (S_ireadIncl.res ++ outM S_ireadIncl.ps))) := [(0, L_ireadIncl_0)]
def N_ireadIncl : List (Nat × Sig) := [(233, S_ireader_num), (234, S_ireader_hash), (235, S_ireader_below), (238, S_ireader_must), (243, S_ireader_text), (244, S_iPathLen)]
theorem r_ireadIncl_0 : ∀ k, runL tt (alook N_ireadIncl) k Tryz.f143 S_ireadIncl.ps S_ireadIncl.res (alook L_ireadIncl) 0 L_ireadIncl_0 := by intro k x; kernel_rfl
theorem t_ireadIncl : ∀ k x, runF tt (alook N_ireadIncl) k Tryz.f143 S_ireadIncl.ps S_ireadIncl.res (alook L_ireadIncl) x = S_ireadIncl.F k x := by intro k x; kernel_rfl
def L_iProofSame : List (Nat × LSpec (denRs (S_iProofSame.res ++ outM S_iProofSame.ps))) := []
def N_iProofSame : List (Nat × Sig) := [(34, S_iQcSame), (114, S_iheadsSame)]
theorem t_iProofSame : ∀ k x, runF tt (alook N_iProofSame) k Tryz.f46 S_iProofSame.ps S_iProofSame.res (alook L_iProofSame) x = S_iProofSame.F k x := by intro k x; kernel_rfl
def L_sl31Right : List (Nat × LSpec (denRs (S_sl31Right.res ++ outM S_sl31Right.ps))) := []
def N_sl31Right : List (Nat × Sig) := [(67, S_sMsgOk), (155, S_sl17Draw), (230, S_sOfVote), (231, S_sl11Draw)]
theorem t_sl31Right : ∀ k x, runF tt (alook N_sl31Right) k Tryz.f116 S_sl31Right.ps S_sl31Right.res (alook L_sl31Right) x = S_sl31Right.F k x := by intro k x; kernel_rfl
def L_sl01New_0 : LSpec (denRs (S_sl01New.res ++ outM S_sl01New.ps)) := .mk [(0, .sh bs), (3, .sh i64), (4, .sh i64)] [(0, .sh bs), (3, .sh i64)] [] fun k x => sl01New_l0 k x.1 x.2.1 x.2.2
def L_sl01New : List (Nat × LSpec (denRs (S_sl01New.res ++ outM S_sl01New.ps))) := [(0, L_sl01New_0)]
def N_sl01New : List (Nat × Sig) := []
theorem r_sl01New_0 : ∀ k, runL tt (alook N_sl01New) k Tryz.f87 S_sl01New.ps S_sl01New.res (alook L_sl01New) 0 L_sl01New_0 := by intro k x; kernel_rfl
theorem t_sl01New : ∀ k x, runF tt (alook N_sl01New) k Tryz.f87 S_sl01New.ps S_sl01New.res (alook L_sl01New) x = S_sl01New.F k x := by intro k x; kernel_rfl
end Go.Ev.G
