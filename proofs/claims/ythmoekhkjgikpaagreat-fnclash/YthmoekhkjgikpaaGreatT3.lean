/- The functions run in the evaluator as their plain functions say. No condition. -/
import Derived.Test.YthmoekhkjgikpaaGreatS
set_option linter.unusedVariables false
set_option linter.unusedSimpArgs false
set_option linter.unusedSectionVars false
/- Proofs: printed by gen.py. -/
namespace Go.Ev.G
open Go.Ev Go.Proofs
set_option linter.unusedVariables false
def L_iShaPad_0 : LSpec (denRs (S_iShaPad.res ++ outM S_iShaPad.ps)) := .mk [(0, .sh bs), (3, .own u8 true)] [(0, .sh bs), (3, .own u8 true)] [] fun k x => iShaPad_l0 k x.1 x.2
def L_iShaPad_2 : LSpec (denRs (S_iShaPad.res ++ outM S_iShaPad.ps)) := .mk [(0, .sh bs), (3, .own u8 true), (4, .sh i64)] [(3, .own u8 true)] [] fun k x => iShaPad_l2 k x.1 x.2.1 x.2.2
def L_iShaPad : List (Nat × LSpec (denRs (S_iShaPad.res ++ outM S_iShaPad.ps))) := [(0, L_iShaPad_0), (2, L_iShaPad_2)]
def N_iShaPad : List (Nat × Sig) := [(38, S_icopyBytes)]
theorem r_iShaPad_0 : ∀ k, runL tt (alook N_iShaPad) k Tryz.f113 S_iShaPad.ps S_iShaPad.res (alook L_iShaPad) 0 L_iShaPad_0 := by intro k x; kernel_rfl
theorem r_iShaPad_2 : ∀ k, runL tt (alook N_iShaPad) k Tryz.f113 S_iShaPad.ps S_iShaPad.res (alook L_iShaPad) 2 L_iShaPad_2 := by intro k x; kernel_rfl
theorem t_iShaPad : ∀ k x, runF tt (alook N_iShaPad) k Tryz.f113 S_iShaPad.ps S_iShaPad.res (alook L_iShaPad) x = S_iShaPad.F k x := by intro k x; kernel_rfl
def L_iGetRaw : List (Nat × LSpec (denRs (S_iGetRaw.res ++ outM S_iGetRaw.ps))) := []
def N_iGetRaw : List (Nat × Sig) := [(38, S_icopyBytes), (67, S_iwithin)]
theorem t_iGetRaw : ∀ k x, runF tt (alook N_iGetRaw) k Tryz.f180 S_iGetRaw.ps S_iGetRaw.res (alook L_iGetRaw) x = S_iGetRaw.F k x := by intro k x; kernel_rfl
def L_sShaInit : List (Nat × LSpec (denRs (S_sShaInit.res ++ outM S_sShaInit.ps))) := []
def N_sShaInit : List (Nat × Sig) := []
theorem t_sShaInit : ∀ k x, runF tt (alook N_sShaInit) k Tryz.f146 S_sShaInit.ps S_sShaInit.res (alook L_sShaInit) x = S_sShaInit.F k x := by intro k x; kernel_rfl
def L_sl04Word : List (Nat × LSpec (denRs (S_sl04Word.res ++ outM S_sl04Word.ps))) := []
def N_sl04Word : List (Nat × Sig) := [(96, S_sl01In)]
theorem t_sl04Word : ∀ k x, runF tt (alook N_sl04Word) k Tryz.f175 S_sl04Word.ps S_sl04Word.res (alook L_sl04Word) x = S_sl04Word.F k x := by intro k x; kernel_rfl
def L_sShaBlock_0 : LSpec (denRs (S_sShaBlock.res ++ outM S_sShaBlock.ps)) := .mkR [(0, .sh is), (1, .sh bs), (31, .sh is), (32, .sh i64), (33, .sh i64)] [(0, .sh is), (1, .sh bs)] [] fun k x => sShaBlock_l0 k x.1 x.2.1 x.2.2.1 x.2.2.2.1 x.2.2.2.2
def L_sShaBlock_2 : LSpec (denRs (S_sShaBlock.res ++ outM S_sShaBlock.ps)) := .mk [(0, .sh is), (1, .sh bs), (7, .own i64 true), (8, .sh i64)] [(0, .sh is), (7, .own i64 true)] [] fun k x => sShaBlock_l2 k x.1 x.2.1 x.2.2.1 x.2.2.2
def L_sShaBlock_4 : LSpec (denRs (S_sShaBlock.res ++ outM S_sShaBlock.ps)) := .mk [(0, .sh is), (7, .own i64 true), (9, .sh i64)] [(0, .sh is), (7, .own i64 true)] [] fun k x => sShaBlock_l4 k x.1 x.2.1 x.2.2
def L_sShaBlock_6 : LSpec (denRs (S_sShaBlock.res ++ outM S_sShaBlock.ps)) := .mk [(0, .sh is), (7, .own i64 true), (14, .own i64 true), (15, .own i64 true), (16, .sh i64)] [(0, .sh is), (15, .own i64 true)] [] fun k x => sShaBlock_l6 k x.1 x.2.1 x.2.2.1 x.2.2.2.1 x.2.2.2.2
def L_sShaBlock_8 : LSpec (denRs (S_sShaBlock.res ++ outM S_sShaBlock.ps)) := .mk [(0, .sh is), (15, .own i64 true), (21, .own i64 true), (235, .sh i64), (236, .sh i64)] [(21, .own i64 true)] [] fun k x => sShaBlock_l8 k x.1 x.2.1 x.2.2.1 x.2.2.2.1 x.2.2.2.2
def L_sShaBlock : List (Nat × LSpec (denRs (S_sShaBlock.res ++ outM S_sShaBlock.ps))) := [(0, L_sShaBlock_0), (2, L_sShaBlock_2), (4, L_sShaBlock_4), (6, L_sShaBlock_6), (8, L_sShaBlock_8)]
def N_sShaBlock : List (Nat × Sig) := [(175, S_sl04Word), (176, S_sl04Turn), (177, S_sl04K)]
theorem r_sShaBlock_0 : ∀ k, runL tt (alook N_sShaBlock) k Tryz.f148 S_sShaBlock.ps S_sShaBlock.res (alook L_sShaBlock) 0 L_sShaBlock_0 := by intro k x; kernel_rfl
theorem r_sShaBlock_2 : ∀ k, runL tt (alook N_sShaBlock) k Tryz.f148 S_sShaBlock.ps S_sShaBlock.res (alook L_sShaBlock) 2 L_sShaBlock_2 := by intro k x; kernel_rfl
theorem r_sShaBlock_4 : ∀ k, runL tt (alook N_sShaBlock) k Tryz.f148 S_sShaBlock.ps S_sShaBlock.res (alook L_sShaBlock) 4 L_sShaBlock_4 := by intro k x; kernel_rfl
theorem r_sShaBlock_6 : ∀ k, runL tt (alook N_sShaBlock) k Tryz.f148 S_sShaBlock.ps S_sShaBlock.res (alook L_sShaBlock) 6 L_sShaBlock_6 := by intro k x; kernel_rfl
theorem r_sShaBlock_8 : ∀ k, runL tt (alook N_sShaBlock) k Tryz.f148 S_sShaBlock.ps S_sShaBlock.res (alook L_sShaBlock) 8 L_sShaBlock_8 := by intro k x; kernel_rfl
theorem t_sShaBlock : ∀ k x, runF tt (alook N_sShaBlock) k Tryz.f148 S_sShaBlock.ps S_sShaBlock.res (alook L_sShaBlock) x = S_sShaBlock.F k x := by intro k x; kernel_rfl
def L_sBitsSize : List (Nat × LSpec (denRs (S_sBitsSize.res ++ outM S_sBitsSize.ps))) := []
def N_sBitsSize : List (Nat × Sig) := []
theorem t_sBitsSize : ∀ k x, runF tt (alook N_sBitsSize) k Tryz.f58 S_sBitsSize.ps S_sBitsSize.res (alook L_sBitsSize) x = S_sBitsSize.F k x := by intro k x; kernel_rfl
def L_sl08Hashes_0 : LSpec (denRs (S_sl08Hashes.res ++ outM S_sl08Hashes.ps)) := .mkR [(5, .sh (.slice bs)), (6, .sh i64), (7, .sh i64)] [] [] fun k x => sl08Hashes_l0 k x.1 x.2.1 x.2.2
def L_sl08Hashes : List (Nat × LSpec (denRs (S_sl08Hashes.res ++ outM S_sl08Hashes.ps))) := [(0, L_sl08Hashes_0)]
def N_sl08Hashes : List (Nat × Sig) := [(97, S_sl07Hash)]
theorem r_sl08Hashes_0 : ∀ k, runL tt (alook N_sl08Hashes) k Tryz.f143 S_sl08Hashes.ps S_sl08Hashes.res (alook L_sl08Hashes) 0 L_sl08Hashes_0 := by intro k x; kernel_rfl
theorem t_sl08Hashes : ∀ k x, runF tt (alook N_sl08Hashes) k Tryz.f143 S_sl08Hashes.ps S_sl08Hashes.res (alook L_sl08Hashes) x = S_sl08Hashes.F k x := by intro k x; kernel_rfl
def L_iPutHead : List (Nat × LSpec (denRs (S_iPutHead.res ++ outM S_iPutHead.ps))) := []
def N_iPutHead : List (Nat × Sig) := [(38, S_icopyBytes), (40, S_iHeadOk), (111, S_iwriter_head)]
theorem t_iPutHead : ∀ k x, runF tt (alook N_iPutHead) k Tryz.f65 S_iPutHead.ps S_iPutHead.res (alook L_iPutHead) x = S_iPutHead.F k x := by intro k x; kernel_rfl
def L_iBitsOf_0 : LSpec (denRs (S_iBitsOf.res ++ outM S_iBitsOf.ps)) := .mkR [(1, .sh i64), (6, .own u8 false), (14, .sh is), (15, .sh i64), (16, .sh i64)] [(6, .own u8 false)] [] fun k x => iBitsOf_l0 k x.1 x.2.1 x.2.2.1 x.2.2.2.1 x.2.2.2.2
def L_iBitsOf : List (Nat × LSpec (denRs (S_iBitsOf.res ++ outM S_iBitsOf.ps))) := [(0, L_iBitsOf_0)]
def N_iBitsOf : List (Nat × Sig) := [(39, S_iBitsNew), (67, S_iwithin)]
theorem r_iBitsOf_0 : ∀ k, runL tt (alook N_iBitsOf) k Tryz.f137 S_iBitsOf.ps S_iBitsOf.res (alook L_iBitsOf) 0 L_iBitsOf_0 := by intro k x; kernel_rfl
theorem t_iBitsOf : ∀ k x, runF tt (alook N_iBitsOf) k Tryz.f137 S_iBitsOf.ps S_iBitsOf.res (alook L_iBitsOf) x = S_iBitsOf.F k x := by intro k x; kernel_rfl
def L_iOfQc : List (Nat × LSpec (denRs (S_iOfQc.res ++ outM S_iOfQc.ps))) := []
def N_iOfQc : List (Nat × Sig) := [(85, S_iQc_copied)]
theorem t_iOfQc : ∀ k x, runF tt (alook N_iOfQc) k Tryz.f128 S_iOfQc.ps S_iOfQc.res (alook L_iOfQc) x = S_iOfQc.F k x := by intro k x; kernel_rfl
def L_iheadsSame_0 : LSpec (denRs (S_iheadsSame.res ++ outM S_iheadsSame.ps)) := .mkR [(0, .sh (.slice tHead)), (1, .sh (.slice tHead)), (12, .sh i64), (13, .sh i64)] [] [] fun k x => iheadsSame_l0 k x.1 x.2.1 x.2.2.1 x.2.2.2
def L_iheadsSame : List (Nat × LSpec (denRs (S_iheadsSame.res ++ outM S_iheadsSame.ps))) := [(0, L_iheadsSame_0)]
def N_iheadsSame : List (Nat × Sig) := [(13, S_iHeadSame)]
theorem r_iheadsSame_0 : ∀ k, runL tt (alook N_iheadsSame) k Tryz.f46 S_iheadsSame.ps S_iheadsSame.res (alook L_iheadsSame) 0 L_iheadsSame_0 := by intro k x; kernel_rfl
theorem t_iheadsSame : ∀ k x, runF tt (alook N_iheadsSame) k Tryz.f46 S_iheadsSame.ps S_iheadsSame.res (alook L_iheadsSame) x = S_iheadsSame.F k x := by intro k x; kernel_rfl
def L_iPutProof_0 : LSpec (denRs (S_iPutProof.res ++ outM S_iPutProof.ps)) := .mk [(5, .pbox (.sh tProof)), (8, .pbox (.pair (.own u8 false) .unit)), (25, .sh (.slice tHead)), (26, .sh i64), (27, .sh i64)] [(5, .pbox (.sh tProof)), (8, .pbox (.pair (.own u8 false) .unit))] [] fun k x => iPutProof_l0 k x.1 x.2.1 x.2.2.1 x.2.2.2.1 x.2.2.2.2
def L_iPutProof : List (Nat × LSpec (denRs (S_iPutProof.res ++ outM S_iPutProof.ps))) := [(0, L_iPutProof_0)]
def N_iPutProof : List (Nat × Sig) := [(27, S_iProofOk), (38, S_icopyBytes), (111, S_iwriter_head), (156, S_iwriter_num), (158, S_iwriter_qc)]
theorem r_iPutProof_0 : ∀ k, runL tt (alook N_iPutProof) k Tryz.f120 S_iPutProof.ps S_iPutProof.res (alook L_iPutProof) 0 L_iPutProof_0 := by intro k x; kernel_rfl
theorem t_iPutProof : ∀ k x, runF tt (alook N_iPutProof) k Tryz.f120 S_iPutProof.ps S_iPutProof.res (alook L_iPutProof) x = S_iPutProof.F k x := by intro k x; kernel_rfl
def L_iVoteBytes : List (Nat × LSpec (denRs (S_iVoteBytes.res ++ outM S_iVoteBytes.ps))) := []
def N_iVoteBytes : List (Nat × Sig) := [(88, S_iareHashes), (152, S_inumbers)]
theorem t_iVoteBytes : ∀ k x, runF tt (alook N_iVoteBytes) k Tryz.f108 S_iVoteBytes.ps S_iVoteBytes.res (alook L_iVoteBytes) x = S_iVoteBytes.F k x := by intro k x; kernel_rfl
def L_sl13Fits : List (Nat × LSpec (denRs (S_sl13Fits.res ++ outM S_sl13Fits.ps))) := []
def N_sl13Fits : List (Nat × Sig) := [(105, S_sSameBytes)]
theorem t_sl13Fits : ∀ k x, runF tt (alook N_sl13Fits) k Tryz.f99 S_sl13Fits.ps S_sl13Fits.res (alook L_sl13Fits) x = S_sl13Fits.F k x := by intro k x; kernel_rfl
def L_sl01Byte : List (Nat × LSpec (denRs (S_sl01Byte.res ++ outM S_sl01Byte.ps))) := []
def N_sl01Byte : List (Nat × Sig) := []
theorem t_sl01Byte : ∀ k x, runF tt (alook N_sl01Byte) k Tryz.f53 S_sl01Byte.ps S_sl01Byte.res (alook L_sl01Byte) x = S_sl01Byte.F k x := by intro k x; kernel_rfl
def L_iSignVote : List (Nat × LSpec (denRs (S_iSignVote.res ++ outM S_iSignVote.ps))) := []
def N_iSignVote : List (Nat × Sig) := [(38, S_icopyBytes), (60, S_iTableOk), (67, S_iwithin), (108, S_iVoteBytes), (109, S_iMac)]
theorem t_iSignVote : ∀ k x, runF tt (alook N_iSignVote) k Tryz.f63 S_iSignVote.ps S_iSignVote.res (alook L_iSignVote) x = S_iSignVote.F k x := by intro k x; kernel_rfl
def L_iProof_copied : List (Nat × LSpec (denRs (S_iProof_copied.res ++ outM S_iProof_copied.ps))) := []
def N_iProof_copied : List (Nat × Sig) := [(26, S_icopyHeads), (85, S_iQc_copied)]
theorem t_iProof_copied : ∀ k x, runF tt (alook N_iProof_copied) k Tryz.f37 S_iProof_copied.ps S_iProof_copied.res (alook L_iProof_copied) x = S_iProof_copied.F k x := by intro k x; kernel_rfl
def L_iMsg_alone : List (Nat × LSpec (denRs (S_iMsg_alone.res ++ outM S_iMsg_alone.ps))) := []
def N_iMsg_alone : List (Nat × Sig) := [(9, S_iOfProof), (127, S_iOfVote), (128, S_iOfQc), (129, S_iOfHead), (130, S_iOfBlock), (131, S_iOfTc), (132, S_iOfIncl)]
theorem t_iMsg_alone : ∀ k x, runF tt (alook N_iMsg_alone) k Tryz.f74 S_iMsg_alone.ps S_iMsg_alone.res (alook L_iMsg_alone) x = S_iMsg_alone.F k x := by intro k x; kernel_rfl
def L_sBitsNew : List (Nat × LSpec (denRs (S_sBitsNew.res ++ outM S_sBitsNew.ps))) := []
def N_sBitsNew : List (Nat × Sig) := [(58, S_sBitsSize), (92, S_sl02Signers)]
theorem t_sBitsNew : ∀ k x, runF tt (alook N_sBitsNew) k Tryz.f50 S_sBitsNew.ps S_sBitsNew.res (alook L_sBitsNew) x = S_sBitsNew.F k x := by intro k x; kernel_rfl
def L_iTableSame_0 : LSpec (denRs (S_iTableSame.res ++ outM S_iTableSame.ps)) := .mkR [(2, .pbox (.sh tTable)), (3, .pbox (.sh tTable)), (15, .sh i64), (16, .sh i64)] [] [] fun k x => iTableSame_l0 k x.1 x.2.1 x.2.2.1 x.2.2.2
def L_iTableSame : List (Nat × LSpec (denRs (S_iTableSame.res ++ outM S_iTableSame.ps))) := [(0, L_iTableSame_0)]
def N_iTableSame : List (Nat × Sig) := [(43, S_iSameBytes)]
theorem r_iTableSame_0 : ∀ k, runL tt (alook N_iTableSame) k Tryz.f45 S_iTableSame.ps S_iTableSame.res (alook L_iTableSame) 0 L_iTableSame_0 := by intro k x; kernel_rfl
theorem t_iTableSame : ∀ k x, runF tt (alook N_iTableSame) k Tryz.f45 S_iTableSame.ps S_iTableSame.res (alook L_iTableSame) x = S_iTableSame.F k x := by intro k x; kernel_rfl
def L_iLight_commit_0 : LSpec (denRs (S_iLight_commit.res ++ outM S_iLight_commit.ps)) := .mk [(2, .pbox (.sh tLight)), (4, .pbox (.pair (.sh tLimits) (.pair (.pair (.own tPush false) .unit) (.pair (.pair (.sh i64) (.pair (.own u8 false) .unit)) (.pair (.own tHead false) .unit))))), (6, .pbox (.sh tLight)), (7, .sh i64), (8, .pbox (.sh tHead)), (12, .sh i64)] [(2, .pbox (.sh tLight)), (4, .pbox (.pair (.sh tLimits) (.pair (.pair (.own tPush false) .unit) (.pair (.pair (.sh i64) (.pair (.own u8 false) .unit)) (.pair (.own tHead false) .unit))))), (6, .pbox (.sh tLight)), (8, .pbox (.sh tHead)), (12, .sh i64)] [] fun k x => iLight_commit_l0 k x.1 x.2.1 x.2.2.1 x.2.2.2.1 x.2.2.2.2.1 x.2.2.2.2.2
def L_iLight_commit : List (Nat × LSpec (denRs (S_iLight_commit.res ++ outM S_iLight_commit.ps))) := [(0, L_iLight_commit_0)]
def N_iLight_commit : List (Nat × Sig) := [(13, S_iHeadSame), (26, S_icopyHeads), (28, S_iLight_copied), (35, S_iKnown), (81, S_iProofCode), (82, S_iCommits)]
theorem r_iLight_commit_0 : ∀ k, runL tt (alook N_iLight_commit) k Tryz.f34 S_iLight_commit.ps S_iLight_commit.res (alook L_iLight_commit) 0 L_iLight_commit_0 := by intro k x; kernel_rfl
theorem t_iLight_commit : ∀ k x, runF tt (alook N_iLight_commit) k Tryz.f34 S_iLight_commit.ps S_iLight_commit.res (alook L_iLight_commit) x = S_iLight_commit.F k x := by intro k x; kernel_rfl
end Go.Ev.G
