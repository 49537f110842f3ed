/- The functions run in the evaluator as their plain functions say. No condition. -/
import Derived.Test.YthmoekhkjgikpaaGreatS
set_option linter.unusedVariables false
set_option linter.unusedSimpArgs false
set_option linter.unusedSectionVars false
/- Proofs: printed by gen.py. -/
namespace Go.Ev.G
open Go.Ev Go.Proofs
set_option linter.unusedVariables false
def L_isteps_0 : LSpec (denRs (S_isteps.res ++ outM S_isteps.ps)) := .mk [(0, .sh i64), (4, .sh i64)] [(0, .sh i64)] [] fun k x => isteps_l0 k x.1 x.2
def L_isteps : List (Nat × LSpec (denRs (S_isteps.res ++ outM S_isteps.ps))) := [(0, L_isteps_0)]
def N_isteps : List (Nat × Sig) := []
theorem r_isteps_0 : ∀ k, runL tt (alook N_isteps) k Tryz.f183 S_isteps.ps S_isteps.res (alook L_isteps) 0 L_isteps_0 := by intro k x; kernel_rfl
theorem t_isteps : ∀ k x, runF tt (alook N_isteps) k Tryz.f183 S_isteps.ps S_isteps.res (alook L_isteps) x = S_isteps.F k x := by intro k x; kernel_rfl
def L_iLeafHash : List (Nat × LSpec (denRs (S_iLeafHash.res ++ outM S_iLeafHash.ps))) := []
def N_iLeafHash : List (Nat × Sig) := [(66, S_iSha)]
theorem t_iLeafHash : ∀ k x, runF tt (alook N_iLeafHash) k Tryz.f84 S_iLeafHash.ps S_iLeafHash.res (alook L_iLeafHash) x = S_iLeafHash.F k x := by intro k x; kernel_rfl
def L_iNodeHash : List (Nat × LSpec (denRs (S_iNodeHash.res ++ outM S_iNodeHash.ps))) := []
def N_iNodeHash : List (Nat × Sig) := [(66, S_iSha)]
theorem t_iNodeHash : ∀ k x, runF tt (alook N_iNodeHash) k Tryz.f173 S_iNodeHash.ps S_iNodeHash.res (alook L_iNodeHash) x = S_iNodeHash.F k x := by intro k x; kernel_rfl
def L_iCrcMore_0 : LSpec (denRs (S_iCrcMore.res ++ outM S_iCrcMore.ps)) := .mk [(0, .sh i64), (12, .sh bs), (13, .sh i64), (14, .sh i64)] [(0, .sh i64)] [] fun k x => iCrcMore_l0 k x.1 x.2.1 x.2.2.1 x.2.2.2
def L_iCrcMore : List (Nat × LSpec (denRs (S_iCrcMore.res ++ outM S_iCrcMore.ps))) := [(0, L_iCrcMore_0)]
def N_iCrcMore : List (Nat × Sig) := [(159, S_iisWord), (183, S_isteps)]
theorem r_iCrcMore_0 : ∀ k, runL tt (alook N_iCrcMore) k Tryz.f181 S_iCrcMore.ps S_iCrcMore.res (alook L_iCrcMore) 0 L_iCrcMore_0 := by intro k x; kernel_rfl
theorem t_iCrcMore : ∀ k x, runF tt (alook N_iCrcMore) k Tryz.f181 S_iCrcMore.ps S_iCrcMore.res (alook L_iCrcMore) x = S_iCrcMore.F k x := by intro k x; kernel_rfl
def L_sl04Turn : List (Nat × LSpec (denRs (S_sl04Turn.res ++ outM S_sl04Turn.ps))) := []
def N_sl04Turn : List (Nat × Sig) := []
theorem t_sl04Turn : ∀ k x, runF tt (alook N_sl04Turn) k Tryz.f176 S_sl04Turn.ps S_sl04Turn.res (alook L_sl04Turn) x = S_sl04Turn.F k x := by intro k x; kernel_rfl
def L_sMacKey_0 : LSpec (denRs (S_sMacKey.res ++ outM S_sMacKey.ps)) := .mk [(3, .own u8 true)] [(3, .own u8 true)] [] fun k x => sMacKey_l0 k x
def L_sMacKey : List (Nat × LSpec (denRs (S_sMacKey.res ++ outM S_sMacKey.ps))) := [(0, L_sMacKey_0)]
def N_sMacKey : List (Nat × Sig) := [(49, S_sl01Copy), (101, S_sSha)]
theorem r_sMacKey_0 : ∀ k, runL tt (alook N_sMacKey) k Tryz.f178 S_sMacKey.ps S_sMacKey.res (alook L_sMacKey) 0 L_sMacKey_0 := by intro k x; kernel_rfl
theorem t_sMacKey : ∀ k x, runF tt (alook N_sMacKey) k Tryz.f178 S_sMacKey.ps S_sMacKey.res (alook L_sMacKey) x = S_sMacKey.F k x := by intro k x; kernel_rfl
def L_sPutVar_0 : LSpec (denRs (S_sPutVar.res ++ outM S_sPutVar.ps)) := .mk [(1, .sh i64), (6, .own u8 true)] [(1, .sh i64), (6, .own u8 true)] [] fun k x => sPutVar_l0 k x.1 x.2
def L_sPutVar : List (Nat × LSpec (denRs (S_sPutVar.res ++ outM S_sPutVar.ps))) := [(0, L_sPutVar_0)]
def N_sPutVar : List (Nat × Sig) := [(49, S_sl01Copy), (95, S_sl01Num)]
theorem r_sPutVar_0 : ∀ k, runL tt (alook N_sPutVar) k Tryz.f174 S_sPutVar.ps S_sPutVar.res (alook L_sPutVar) 0 L_sPutVar_0 := by intro k x; kernel_rfl
theorem t_sPutVar : ∀ k x, runF tt (alook N_sPutVar) k Tryz.f174 S_sPutVar.ps S_sPutVar.res (alook L_sPutVar) x = S_sPutVar.F k x := by intro k x; kernel_rfl
def L_iTc_copied_0 : LSpec (denRs (S_iTc_copied.res ++ outM S_iTc_copied.ps)) := .mk [(2, .pbox (.pair (.sh i64) (.pair (.own tEntry false) .unit))), (3, .pbox (.pair (.sh i64) (.pair (.own tEntry false) .unit))), (10, .sh (.slice tEntry)), (11, .sh i64), (12, .sh i64)] [(2, .pbox (.pair (.sh i64) (.pair (.own tEntry false) .unit))), (3, .pbox (.pair (.sh i64) (.pair (.own tEntry false) .unit)))] [] fun k x => iTc_copied_l0 k x.1 x.2.1 x.2.2.1 x.2.2.2.1 x.2.2.2.2
def L_iTc_copied : List (Nat × LSpec (denRs (S_iTc_copied.res ++ outM S_iTc_copied.ps))) := [(0, L_iTc_copied_0)]
def N_iTc_copied : List (Nat × Sig) := [(38, S_icopyBytes)]
theorem r_iTc_copied_0 : ∀ k, runL tt (alook N_iTc_copied) k Tryz.f169 S_iTc_copied.ps S_iTc_copied.res (alook L_iTc_copied) 0 L_iTc_copied_0 := by intro k x; kernel_rfl
theorem t_iTc_copied : ∀ k x, runF tt (alook N_iTc_copied) k Tryz.f169 S_iTc_copied.ps S_iTc_copied.res (alook L_iTc_copied) x = S_iTc_copied.F k x := by intro k x; kernel_rfl
def L_iInclOk : List (Nat × LSpec (denRs (S_iInclOk.res ++ outM S_iInclOk.ps))) := []
def N_iInclOk : List (Nat × Sig) := [(59, S_iLimitsOk), (67, S_iwithin), (87, S_iisNum), (88, S_iareHashes), (139, S_iPathLen)]
theorem t_iInclOk : ∀ k x, runF tt (alook N_iInclOk) k Tryz.f167 S_iInclOk.ps S_iInclOk.res (alook L_iInclOk) x = S_iInclOk.F k x := by intro k x; kernel_rfl
def L_math_bits_OnesCount8 : List (Nat × LSpec (denRs (S_math_bits_OnesCount8.res ++ outM S_math_bits_OnesCount8.ps))) := []
def N_math_bits_OnesCount8 : List (Nat × Sig) := []
theorem t_math_bits_OnesCount8 : ∀ k x, runF tt (alook N_math_bits_OnesCount8) k Tryz.f155 S_math_bits_OnesCount8.ps S_math_bits_OnesCount8.res (alook L_math_bits_OnesCount8) x = S_math_bits_OnesCount8.F k x := by intro k x; kernel_rfl
def L_iHeadOk : List (Nat × LSpec (denRs (S_iHeadOk.res ++ outM S_iHeadOk.ps))) := []
def N_iHeadOk : List (Nat × Sig) := [(64, S_iQcOk), (67, S_iwithin), (87, S_iisNum), (88, S_iareHashes), (89, S_iHead_matches)]
theorem t_iHeadOk : ∀ k x, runF tt (alook N_iHeadOk) k Tryz.f40 S_iHeadOk.ps S_iHeadOk.res (alook L_iHeadOk) x = S_iHeadOk.F k x := by intro k x; kernel_rfl
def L_iwriter_raw : List (Nat × LSpec (denRs (S_iwriter_raw.res ++ outM S_iwriter_raw.ps))) := []
def N_iwriter_raw : List (Nat × Sig) := []
theorem t_iwriter_raw : ∀ k x, runF tt (alook N_iwriter_raw) k Tryz.f157 S_iwriter_raw.ps S_iwriter_raw.res (alook L_iwriter_raw) x = S_iwriter_raw.F k x := by intro k x; kernel_rfl
def L_iMacKey : List (Nat × LSpec (denRs (S_iMacKey.res ++ outM S_iMacKey.ps))) := []
def N_iMacKey : List (Nat × Sig) := [(66, S_iSha)]
theorem t_iMacKey : ∀ k x, runF tt (alook N_iMacKey) k Tryz.f153 S_iMacKey.ps S_iMacKey.res (alook L_iMacKey) x = S_iMacKey.F k x := by intro k x; kernel_rfl
def L_sl07Hash : List (Nat × LSpec (denRs (S_sl07Hash.res ++ outM S_sl07Hash.ps))) := []
def N_sl07Hash : List (Nat × Sig) := []
theorem t_sl07Hash : ∀ k x, runF tt (alook N_sl07Hash) k Tryz.f97 S_sl07Hash.ps S_sl07Hash.res (alook L_sl07Hash) x = S_sl07Hash.F k x := by intro k x; kernel_rfl
def L_sVoteBytes : List (Nat × LSpec (denRs (S_sVoteBytes.res ++ outM S_sVoteBytes.ps))) := []
def N_sVoteBytes : List (Nat × Sig) := [(95, S_sl01Num), (97, S_sl07Hash), (144, S_sl11Num)]
theorem t_sVoteBytes : ∀ k x, runF tt (alook N_sVoteBytes) k Tryz.f150 S_sVoteBytes.ps S_sVoteBytes.res (alook L_sVoteBytes) x = S_sVoteBytes.F k x := by intro k x; kernel_rfl
def L_sBitsOk : List (Nat × LSpec (denRs (S_sBitsOk.res ++ outM S_sBitsOk.ps))) := []
def N_sBitsOk : List (Nat × Sig) := [(58, S_sBitsSize), (92, S_sl02Signers), (103, S_sBitsList)]
theorem t_sBitsOk : ∀ k x, runF tt (alook N_sBitsOk) k Tryz.f102 S_sBitsOk.ps S_sBitsOk.res (alook L_sBitsOk) x = S_sBitsOk.F k x := by intro k x; kernel_rfl
def L_iareHeads_0 : LSpec (denRs (S_iareHeads.res ++ outM S_iareHeads.ps)) := .mkR [(2, .pbox (.sh tLimits)), (7, .sh (.slice tHead)), (8, .sh i64), (9, .sh i64)] [] [] fun k x => iareHeads_l0 k x.1 x.2.1 x.2.2.1 x.2.2.2
def L_iareHeads : List (Nat × LSpec (denRs (S_iareHeads.res ++ outM S_iareHeads.ps))) := [(0, L_iareHeads_0)]
def N_iareHeads : List (Nat × Sig) := [(40, S_iHeadOk)]
theorem r_iareHeads_0 : ∀ k, runL tt (alook N_iareHeads) k Tryz.f68 S_iareHeads.ps S_iareHeads.res (alook L_iareHeads) 0 L_iareHeads_0 := by intro k x; kernel_rfl
theorem t_iareHeads : ∀ k x, runF tt (alook N_iareHeads) k Tryz.f68 S_iareHeads.ps S_iareHeads.res (alook L_iareHeads) x = S_iareHeads.F k x := by intro k x; kernel_rfl
def L_iTableOk_0 : LSpec (denRs (S_iTableOk.res ++ outM S_iTableOk.ps)) := .mkR [(1, .pbox (.sh tTable)), (6, .sh (.slice tPush)), (7, .sh i64), (8, .sh i64)] [(1, .pbox (.sh tTable))] [] fun k x => iTableOk_l0 k x.1 x.2.1 x.2.2.1 x.2.2.2
def L_iTableOk : List (Nat × LSpec (denRs (S_iTableOk.res ++ outM S_iTableOk.ps))) := [(0, L_iTableOk_0)]
def N_iTableOk : List (Nat × Sig) := [(67, S_iwithin)]
theorem r_iTableOk_0 : ∀ k, runL tt (alook N_iTableOk) k Tryz.f60 S_iTableOk.ps S_iTableOk.res (alook L_iTableOk) 0 L_iTableOk_0 := by intro k x; kernel_rfl
theorem t_iTableOk : ∀ k x, runF tt (alook N_iTableOk) k Tryz.f60 S_iTableOk.ps S_iTableOk.res (alook L_iTableOk) x = S_iTableOk.F k x := by intro k x; kernel_rfl
def L_iOfTc : List (Nat × LSpec (denRs (S_iOfTc.res ++ outM S_iOfTc.ps))) := []
def N_iOfTc : List (Nat × Sig) := [(169, S_iTc_copied)]
theorem t_iOfTc : ∀ k x, runF tt (alook N_iOfTc) k Tryz.f131 S_iOfTc.ps S_iOfTc.res (alook L_iOfTc) x = S_iOfTc.F k x := by intro k x; kernel_rfl
def L_iTreeSame_0 : LSpec (denRs (S_iTreeSame.res ++ outM S_iTreeSame.ps)) := .mkR [(0, .sh (.slice bs)), (1, .sh (.slice bs)), (12, .sh i64), (13, .sh i64)] [] [] fun k x => iTreeSame_l0 k x.1 x.2.1 x.2.2.1 x.2.2.2
def L_iTreeSame : List (Nat × LSpec (denRs (S_iTreeSame.res ++ outM S_iTreeSame.ps))) := [(0, L_iTreeSame_0)]
def N_iTreeSame : List (Nat × Sig) := [(43, S_iSameBytes)]
theorem r_iTreeSame_0 : ∀ k, runL tt (alook N_iTreeSame) k Tryz.f90 S_iTreeSame.ps S_iTreeSame.res (alook L_iTreeSame) 0 L_iTreeSame_0 := by intro k x; kernel_rfl
theorem t_iTreeSame : ∀ k x, runF tt (alook N_iTreeSame) k Tryz.f90 S_iTreeSame.ps S_iTreeSame.res (alook L_iTreeSame) x = S_iTreeSame.F k x := by intro k x; kernel_rfl
def L_iProof_closes : List (Nat × LSpec (denRs (S_iProof_closes.res ++ outM S_iProof_closes.ps))) := []
def N_iProof_closes : List (Nat × Sig) := []
theorem t_iProof_closes : ∀ k x, runF tt (alook N_iProof_closes) k Tryz.f69 S_iProof_closes.ps S_iProof_closes.res (alook L_iProof_closes) x = S_iProof_closes.F k x := by intro k x; kernel_rfl
def L_iPutTc_0 : LSpec (denRs (S_iPutTc.res ++ outM S_iPutTc.ps)) := .mk [(8, .pbox (.pair (.own u8 false) .unit)), (29, .sh (.slice tEntry)), (30, .sh i64), (31, .sh i64)] [(8, .pbox (.pair (.own u8 false) .unit))] [] fun k x => iPutTc_l0 k x.1 x.2.1 x.2.2.1 x.2.2.2
def L_iPutTc : List (Nat × LSpec (denRs (S_iPutTc.res ++ outM S_iPutTc.ps))) := [(0, L_iPutTc_0)]
def N_iPutTc : List (Nat × Sig) := [(38, S_icopyBytes), (78, S_iTcOk), (156, S_iwriter_num), (157, S_iwriter_raw)]
theorem r_iPutTc_0 : ∀ k, runL tt (alook N_iPutTc) k Tryz.f119 S_iPutTc.ps S_iPutTc.res (alook L_iPutTc) 0 L_iPutTc_0 := by intro k x; kernel_rfl
theorem t_iPutTc : ∀ k x, runF tt (alook N_iPutTc) k Tryz.f119 S_iPutTc.ps S_iPutTc.res (alook L_iPutTc) x = S_iPutTc.F k x := by intro k x; kernel_rfl
def L_sl01Top : List (Nat × LSpec (denRs (S_sl01Top.res ++ outM S_sl01Top.ps))) := []
def N_sl01Top : List (Nat × Sig) := []
theorem t_sl01Top : ∀ k x, runF tt (alook N_sl01Top) k Tryz.f106 S_sl01Top.ps S_sl01Top.res (alook L_sl01Top) x = S_sl01Top.F k x := by intro k x; kernel_rfl
def L_sSameBytes : List (Nat × LSpec (denRs (S_sSameBytes.res ++ outM S_sSameBytes.ps))) := []
def N_sSameBytes : List (Nat × Sig) := []
theorem t_sSameBytes : ∀ k x, runF tt (alook N_sSameBytes) k Tryz.f105 S_sSameBytes.ps S_sSameBytes.res (alook L_sSameBytes) x = S_sSameBytes.F k x := by intro k x; kernel_rfl
def L_sHeadOk : List (Nat × LSpec (denRs (S_sHeadOk.res ++ outM S_sHeadOk.ps))) := []
def N_sHeadOk : List (Nat × Sig) := [(93, S_sLimitsOk), (95, S_sl01Num), (96, S_sl01In), (97, S_sl07Hash), (98, S_sQcOk), (99, S_sl13Fits)]
theorem t_sHeadOk : ∀ k x, runF tt (alook N_sHeadOk) k Tryz.f52 S_sHeadOk.ps S_sHeadOk.res (alook L_sHeadOk) x = S_sHeadOk.F k x := by intro k x; kernel_rfl
def L_ibelongs : List (Nat × LSpec (denRs (S_ibelongs.res ++ outM S_ibelongs.ps))) := []
def N_ibelongs : List (Nat × Sig) := [(59, S_iLimitsOk), (60, S_iTableOk)]
theorem t_ibelongs : ∀ k x, runF tt (alook N_ibelongs) k Tryz.f22 S_ibelongs.ps S_ibelongs.res (alook L_ibelongs) x = S_ibelongs.F k x := by intro k x; kernel_rfl
def L_iIsQuorum : List (Nat × LSpec (denRs (S_iIsQuorum.res ++ outM S_iIsQuorum.ps))) := []
def N_iIsQuorum : List (Nat × Sig) := [(60, S_iTableOk), (133, S_iWeightOf), (134, S_iTotalOf)]
theorem t_iIsQuorum : ∀ k x, runF tt (alook N_iIsQuorum) k Tryz.f77 S_iIsQuorum.ps S_iIsQuorum.res (alook L_iIsQuorum) x = S_iIsQuorum.F k x := by intro k x; kernel_rfl
def L_iEntryGood : List (Nat × LSpec (denRs (S_iEntryGood.res ++ outM S_iEntryGood.ps))) := []
def N_iEntryGood : List (Nat × Sig) := [(135, S_iSignLeave), (136, S_ientrySame)]
theorem t_iEntryGood : ∀ k x, runF tt (alook N_iEntryGood) k Tryz.f79 S_iEntryGood.ps S_iEntryGood.res (alook L_iEntryGood) x = S_iEntryGood.F k x := by intro k x; kernel_rfl
def L_icopyHeads_0 : LSpec (denRs (S_icopyHeads.res ++ outM S_icopyHeads.ps)) := .mk [(3, .own tHead true), (7, .sh (.slice tHead)), (8, .sh i64), (9, .sh i64)] [(3, .own tHead true)] [] fun k x => icopyHeads_l0 k x.1 x.2.1 x.2.2.1 x.2.2.2
def L_icopyHeads : List (Nat × LSpec (denRs (S_icopyHeads.res ++ outM S_icopyHeads.ps))) := [(0, L_icopyHeads_0)]
def N_icopyHeads : List (Nat × Sig) := [(42, S_iHead_copied)]
theorem r_icopyHeads_0 : ∀ k, runL tt (alook N_icopyHeads) k Tryz.f26 S_icopyHeads.ps S_icopyHeads.res (alook L_icopyHeads) 0 L_icopyHeads_0 := by intro k x; kernel_rfl
theorem t_icopyHeads : ∀ k x, runF tt (alook N_icopyHeads) k Tryz.f26 S_icopyHeads.ps S_icopyHeads.res (alook L_icopyHeads) x = S_icopyHeads.F k x := by intro k x; kernel_rfl
def L_iPush_copied : List (Nat × LSpec (denRs (S_iPush_copied.res ++ outM S_iPush_copied.ps))) := []
def N_iPush_copied : List (Nat × Sig) := [(38, S_icopyBytes)]
theorem t_iPush_copied : ∀ k x, runF tt (alook N_iPush_copied) k Tryz.f70 S_iPush_copied.ps S_iPush_copied.res (alook L_iPush_copied) x = S_iPush_copied.F k x := by intro k x; kernel_rfl
def L_sHeadHash : List (Nat × LSpec (denRs (S_sHeadHash.res ++ outM S_sHeadHash.ps))) := []
def N_sHeadHash : List (Nat × Sig) := [(100, S_sPutHead), (101, S_sSha)]
theorem t_sHeadHash : ∀ k x, runF tt (alook N_sHeadHash) k Tryz.f54 S_sHeadHash.ps S_sHeadHash.res (alook L_sHeadHash) x = S_sHeadHash.F k x := by intro k x; kernel_rfl
def L_sl23Goes : List (Nat × LSpec (denRs (S_sl23Goes.res ++ outM S_sl23Goes.ps))) := []
def N_sl23Goes : List (Nat × Sig) := [(93, S_sLimitsOk), (94, S_sTableOk)]
theorem t_sl23Goes : ∀ k x, runF tt (alook N_sl23Goes) k Tryz.f51 S_sl23Goes.ps S_sl23Goes.res (alook L_sl23Goes) x = S_sl23Goes.F k x := by intro k x; kernel_rfl
def L_sl10Draw : List (Nat × LSpec (denRs (S_sl10Draw.res ++ outM S_sl10Draw.ps))) := []
def N_sl10Draw : List (Nat × Sig) := [(18, S_sl01Below), (91, S_sl01Pick)]
theorem t_sl10Draw : ∀ k x, runF tt (alook N_sl10Draw) k Tryz.f47 S_sl10Draw.ps S_sl10Draw.res (alook L_sl10Draw) x = S_sl10Draw.F k x := by intro k x; kernel_rfl
def L_iKnown_0 : LSpec (denRs (S_iKnown.res ++ outM S_iKnown.ps)) := .mkR [(1, .sh i64), (2, .pbox (.sh tLight)), (4, .pbox (.pair (.sh i64) (.pair (.sh i64) (.pair (.sh i64) (.pair (.own u8 false) (.pair (.own u8 false) (.pair (.pair (.sh i64) (.pair (.sh i64) (.pair (.own u8 false) (.pair (.own u8 false) (.pair (.own bs false) .unit))))) .unit))))))), (9, .sh (.slice tHead)), (10, .sh i64), (11, .sh i64)] [(4, .pbox (.pair (.sh i64) (.pair (.sh i64) (.pair (.sh i64) (.pair (.own u8 false) (.pair (.own u8 false) (.pair (.pair (.sh i64) (.pair (.sh i64) (.pair (.own u8 false) (.pair (.own u8 false) (.pair (.own bs false) .unit))))) .unit)))))))] [] fun k x => iKnown_l0 k x.1 x.2.1 x.2.2.1 x.2.2.2.1 x.2.2.2.2.1 x.2.2.2.2.2
def L_iKnown : List (Nat × LSpec (denRs (S_iKnown.res ++ outM S_iKnown.ps))) := [(0, L_iKnown_0)]
def N_iKnown : List (Nat × Sig) := [(29, S_iLightOk), (42, S_iHead_copied)]
theorem r_iKnown_0 : ∀ k, runL tt (alook N_iKnown) k Tryz.f35 S_iKnown.ps S_iKnown.res (alook L_iKnown) 0 L_iKnown_0 := by intro k x; kernel_rfl
theorem t_iKnown : ∀ k x, runF tt (alook N_iKnown) k Tryz.f35 S_iKnown.ps S_iKnown.res (alook L_iKnown) x = S_iKnown.F k x := by intro k x; kernel_rfl
def L_sNextHead : List (Nat × LSpec (denRs (S_sNextHead.res ++ outM S_sNextHead.ps))) := []
def N_sNextHead : List (Nat × Sig) := [(49, S_sl01Copy), (54, S_sHeadHash), (55, S_sBuildQc), (56, S_sLinks)]
theorem t_sNextHead : ∀ k x, runF tt (alook N_sNextHead) k Tryz.f20 S_sNextHead.ps S_sNextHead.res (alook L_sNextHead) x = S_sNextHead.F k x := by intro k x; kernel_rfl
def L_iLightSame : List (Nat × LSpec (denRs (S_iLightSame.res ++ outM S_iLightSame.ps))) := []
def N_iLightSame : List (Nat × Sig) := [(43, S_iSameBytes), (45, S_iTableSame), (46, S_iheadsSame)]
theorem t_iLightSame : ∀ k x, runF tt (alook N_iLightSame) k Tryz.f14 S_iLightSame.ps S_iLightSame.res (alook L_iLightSame) x = S_iLightSame.F k x := by intro k x; kernel_rfl
def L_iJudge : List (Nat × LSpec (denRs (S_iJudge.res ++ outM S_iJudge.ps))) := []
def N_iJudge : List (Nat × Sig) := [(28, S_iLight_copied), (29, S_iLightOk), (30, S_iMsgOk), (31, S_igoodOr), (32, S_iQcCode), (33, S_iTcCode), (34, S_iLight_commit), (35, S_iKnown), (36, S_iPathOk)]
theorem t_iJudge : ∀ k x, runF tt (alook N_iJudge) k Tryz.f8 S_iJudge.ps S_iJudge.res (alook L_iJudge) x = S_iJudge.F k x := by intro k x; kernel_rfl
end Go.Ev.G
