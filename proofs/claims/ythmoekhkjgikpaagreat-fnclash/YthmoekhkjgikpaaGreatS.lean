/- The signatures of the functions. No condition. -/
import Derived.Test.YthmoekhkjgikpaaGreatP
set_option linter.unusedVariables false
set_option linter.unusedSimpArgs false
set_option linter.unusedSectionVars false
/- Signatures: printed by gen.py. -/
namespace Go.Ev.G
open Go.Ev Go.Proofs
set_option linter.unusedVariables false
def S_isteps : Sig := ⟨[.v i64], [.sh i64], fun k x => isteps k x.1⟩
def S_iShaInit : Sig := ⟨[], [.own i64 true], fun k x => iShaInit⟩
def S_icopyBytes : Sig := ⟨[.v bs], [.own u8 true], fun k x => icopyBytes x.1⟩
def S_iShaPad : Sig := ⟨[.v bs], [.own u8 true], fun k x => iShaPad k x.1⟩
def S_iwithin : Sig := ⟨[.v i64, .v i64, .v i64], [.sh .bool], fun k x => iwithin x.1 x.2.1 x.2.2.1⟩
def S_iisWord : Sig := ⟨[.v i64], [.sh .bool], fun k x => iisWord x.1⟩
def S_irounds : Sig := ⟨[], [.own i64 true], fun k x => irounds⟩
def S_iTurnRight : Sig := ⟨[.v i64, .v i64], [.sh i64], fun k x => iTurnRight x.1 x.2.1⟩
def S_iShaBlock : Sig := ⟨[.v is, .v bs], [.own i64 false], fun k x => iShaBlock k x.1 x.2.1⟩
def S_iSha : Sig := ⟨[.v bs], [.own u8 true], fun k x => iSha k x.1⟩
def S_iLeafHash : Sig := ⟨[.v bs], [.own u8 true], fun k x => iLeafHash k x.1⟩
def S_iSplitAt : Sig := ⟨[.v i64], [.sh i64], fun k x => iSplitAt k x.1⟩
def S_iNodeHash : Sig := ⟨[.v bs, .v bs], [.own u8 true], fun k x => iNodeHash k x.1 x.2.1⟩
def S_iTreeRoot : Sig := ⟨[.v (.slice bs)], [.own u8 true], fun k x => iTreeRoot k x.1⟩
def S_iCrcMore : Sig := ⟨[.v i64, .v bs], [.sh i64], fun k x => iCrcMore k x.1 x.2.1⟩
def S_iGetRaw : Sig := ⟨[.v bs, .v i64, .v i64], [.own u8 false, .sh i64, .sh i64], fun k x => iGetRaw x.1 x.2.1 x.2.2.1⟩
def S_iisNum : Sig := ⟨[.v i64], [.sh .bool], fun k x => iisNum x.1⟩
def S_iPutVar : Sig := ⟨[.v bs, .v i64], [.opt u8, .sh .bool], fun k x => iPutVar k x.1 x.2.1⟩
def S_sl01Copy : Sig := ⟨[.v bs], [.own u8 true], fun k x => sl01Copy x.1⟩
def S_sShaInit : Sig := ⟨[], [.own i64 true], fun k x => sShaInit⟩
def S_sShaPad : Sig := ⟨[.v bs], [.own u8 true], fun k x => sShaPad k x.1⟩
def S_sl01In : Sig := ⟨[.v i64, .v i64, .v i64], [.sh .bool], fun k x => sl01In x.1 x.2.1 x.2.2.1⟩
def S_sl04Word : Sig := ⟨[.v i64], [.sh .bool], fun k x => sl04Word x.1⟩
def S_sl04Turn : Sig := ⟨[.v i64, .v i64], [.sh i64], fun k x => sl04Turn x.1 x.2.1⟩
def S_sl04K : Sig := ⟨[], [.own i64 true], fun k x => sl04K⟩
def S_sShaBlock : Sig := ⟨[.v is, .v bs], [.own i64 false], fun k x => sShaBlock k x.1 x.2.1⟩
def S_sSha : Sig := ⟨[.v bs], [.own u8 true], fun k x => sSha k x.1⟩
def S_sMacKey : Sig := ⟨[.v bs], [.own u8 true], fun k x => sMacKey k x.1⟩
def S_sl01Num : Sig := ⟨[.v i64], [.sh .bool], fun k x => sl01Num x.1⟩
def S_sPutVar : Sig := ⟨[.v bs, .v i64], [.own u8 false, .sh .bool], fun k x => sPutVar k x.1 x.2.1⟩
def S_inumbers : Sig := ⟨[.v u8, .v is], [.opt u8], fun k x => inumbers k x.1 x.2.1⟩
def S_iLeaveBytes : Sig := ⟨[.v i64, .v i64], [.opt u8], fun k x => iLeaveBytes k x.1 x.2.1⟩
def S_icopyList : Sig := ⟨[.v (.slice bs)], [.own bs true], fun k x => icopyList k x.1⟩
def S_iIncl_copied : Sig := ⟨[.v tIncl], [.sh tIncl], fun k x => iIncl_copied k x.1⟩
def S_iTc_copied : Sig := ⟨[.v tTc], [.sh tTc], fun k x => iTc_copied k x.1⟩
def S_iQc_copied : Sig := ⟨[.v tQc], [.sh tQc], fun k x => iQc_copied k x.1⟩
def S_iHead_copied : Sig := ⟨[.v tHead], [.sh tHead], fun k x => iHead_copied k x.1⟩
def S_iBlock_copied : Sig := ⟨[.v tBlock], [.sh tBlock], fun k x => iBlock_copied k x.1⟩
def S_iLimitsOk : Sig := ⟨[.v tLimits], [.sh .bool], fun k x => iLimitsOk x.1⟩
def S_iPathLen : Sig := ⟨[.v i64, .v i64], [.sh i64], fun k x => iPathLen k x.1 x.2.1⟩
def S_iareHashes : Sig := ⟨[.v (.slice bs)], [.sh .bool], fun k x => iareHashes k x.1⟩
def S_iInclOk : Sig := ⟨[.v tLimits, .v tIncl], [.sh .bool], fun k x => iInclOk k x.1 x.2.1⟩
def S_iPutText : Sig := ⟨[.v bs, .v bs], [.own u8 false], fun k x => iPutText k x.1 x.2.1⟩
def S_iBitsSize : Sig := ⟨[.v i64], [.sh i64], fun k x => iBitsSize x.1⟩
def S_iBitsHas : Sig := ⟨[.v bs, .v i64], [.sh .bool], fun k x => iBitsHas x.1 x.2.1⟩
def S_iBitsList : Sig := ⟨[.v bs], [.own i64 true], fun k x => iBitsList k x.1⟩
def S_iBitsOk : Sig := ⟨[.v bs, .v i64], [.sh .bool], fun k x => iBitsOk k x.1 x.2.1⟩
def S_math_bits_OnesCount8 : Sig := ⟨[.v u8], [.sh i64], fun k x => math_bits_OnesCount8 x.1⟩
def S_iBitsCount : Sig := ⟨[.v bs], [.sh i64], fun k x => iBitsCount k x.1⟩
def S_iQcOk : Sig := ⟨[.v tLimits, .v tQc], [.sh .bool], fun k x => iQcOk k x.1 x.2.1⟩
def S_iSameBytes : Sig := ⟨[.v bs, .v bs], [.sh .bool], fun k x => iSameBytes x.1 x.2.1⟩
def S_iHead_matches : Sig := ⟨[.v tHead], [.sh .bool], fun k x => iHead_matches x.1⟩
def S_iHeadOk : Sig := ⟨[.v tLimits, .v tHead], [.sh .bool], fun k x => iHeadOk k x.1 x.2.1⟩
def S_iBlockOk : Sig := ⟨[.v tLimits, .v tBlock], [.sh .bool], fun k x => iBlockOk k x.1 x.2.1⟩
def S_iVoteOk : Sig := ⟨[.v tLimits, .v tVote], [.sh .bool], fun k x => iVoteOk k x.1 x.2.1⟩
def S_iCrc : Sig := ⟨[.v bs], [.sh i64], fun k x => iCrc k x.1⟩
def S_iGetFix : Sig := ⟨[.v bs, .v i64, .v i64], [.sh i64, .sh i64, .sh i64], fun k x => iGetFix k x.1 x.2.1 x.2.2.1⟩
def S_iwriter_num : Sig := ⟨[.p (.pair (.own u8 false) .unit), .v i64], [], fun k x => iwriter_num k x.1 x.2.1⟩
def S_iwriter_raw : Sig := ⟨[.p (.pair (.own u8 false) .unit), .v bs], [], fun k x => iwriter_raw x.1 x.2.1⟩
def S_iwriter_qc : Sig := ⟨[.p (.pair (.own u8 false) .unit), .v tQc], [], fun k x => iwriter_qc k x.1 x.2.1⟩
def S_imasked : Sig := ⟨[.v bs, .v u8], [.own u8 true], fun k x => imasked k x.1 x.2.1⟩
def S_iMacKey : Sig := ⟨[.v bs], [.own u8 true], fun k x => iMacKey k x.1⟩
def S_sMac : Sig := ⟨[.v bs, .v bs], [.own u8 true], fun k x => sMac k x.1 x.2.1⟩
def S_sl07Hash : Sig := ⟨[.v bs], [.sh .bool], fun k x => sl07Hash x.1⟩
def S_sl11Num : Sig := ⟨[.v bs, .v i64], [.own u8 false], fun k x => sl11Num k x.1 x.2.1⟩
def S_sVoteBytes : Sig := ⟨[.v i64, .v i64, .v bs], [.own u8 false], fun k x => sVoteBytes k x.1 x.2.1 x.2.2.1⟩
def S_sBitsHas : Sig := ⟨[.v bs, .v i64], [.sh .bool], fun k x => sBitsHas x.1 x.2.1⟩
def S_sl02Signers : Sig := ⟨[.v i64], [.sh .bool], fun k x => sl02Signers x.1⟩
def S_sLimitsOk : Sig := ⟨[.v tLimits], [.sh .bool], fun k x => sLimitsOk x.1⟩
def S_sBitsSize : Sig := ⟨[.v i64], [.sh i64], fun k x => sBitsSize x.1⟩
def S_sBitsList : Sig := ⟨[.v bs], [.own i64 true], fun k x => sBitsList k x.1⟩
def S_sBitsOk : Sig := ⟨[.v bs, .v i64], [.sh .bool], fun k x => sBitsOk k x.1 x.2.1⟩
def S_sBitsCount : Sig := ⟨[.v bs], [.sh i64], fun k x => sBitsCount k x.1⟩
def S_sl08Hashes : Sig := ⟨[.v (.slice bs)], [.sh .bool], fun k x => sl08Hashes k x.1⟩
def S_sQcOk : Sig := ⟨[.v tLimits, .v tQc], [.sh .bool], fun k x => sQcOk k x.1 x.2.1⟩
def S_sPutQc : Sig := ⟨[.v tLimits, .v bs, .v tQc], [.own u8 false, .sh .bool], fun k x => sPutQc k x.1 x.2.1 x.2.2.1⟩
def S_ipathRoot : Sig := ⟨[.v bs, .v i64, .v i64, .v (.slice bs)], [.own u8 true], fun k x => ipathRoot k x.1 x.2.1 x.2.2.1 x.2.2.2.1⟩
def S_iareHeads : Sig := ⟨[.v tLimits, .v (.slice tHead)], [.sh .bool], fun k x => iareHeads k x.1 x.2.1⟩
def S_iwriter_head : Sig := ⟨[.p (.pair (.own u8 false) .unit), .v tHead], [], fun k x => iwriter_head k x.1 x.2.1⟩
def S_iPutHead : Sig := ⟨[.v tLimits, .v bs, .v tHead], [.own u8 false, .sh .bool], fun k x => iPutHead k x.1 x.2.1 x.2.2.1⟩
def S_iHeadHash : Sig := ⟨[.v tLimits, .v tHead], [.own u8 false], fun k x => iHeadHash k x.1 x.2.1⟩
def S_iLinks : Sig := ⟨[.v tLimits, .v tHead, .v tHead], [.sh .bool], fun k x => iLinks k x.1 x.2.1 x.2.2.1⟩
def S_iChainCode : Sig := ⟨[.v tLimits, .v (.slice tHead)], [.sh i64], fun k x => iChainCode k x.1 x.2.1⟩
def S_iBitsNew : Sig := ⟨[.v i64], [.own u8 false], fun k x => iBitsNew x.1⟩
def S_iBitsOf : Sig := ⟨[.v is, .v i64], [.own u8 false, .sh .bool], fun k x => iBitsOf k x.1 x.2.1⟩
def S_ientrySame : Sig := ⟨[.v tEntry, .v tEntry], [.sh .bool], fun k x => ientrySame x.1 x.2.1⟩
def S_iTableOk : Sig := ⟨[.v tTable], [.sh .bool], fun k x => iTableOk k x.1⟩
def S_iMac : Sig := ⟨[.v bs, .v bs], [.own u8 true], fun k x => iMac k x.1 x.2.1⟩
def S_iSignLeave : Sig := ⟨[.v tTable, .v i64, .v i64, .v i64], [.sh tEntry, .sh .bool], fun k x => iSignLeave k x.1 x.2.1 x.2.2.1 x.2.2.2.1⟩
def S_iTotalOf : Sig := ⟨[.v tTable], [.sh i64], fun k x => iTotalOf k x.1⟩
def S_iWeightOf : Sig := ⟨[.v tTable, .v bs], [.sh i64], fun k x => iWeightOf k x.1 x.2.1⟩
def S_iOfIncl : Sig := ⟨[.v tIncl], [.sh tMsg], fun k x => iOfIncl k x.1⟩
def S_iOfTc : Sig := ⟨[.v tTc], [.sh tMsg], fun k x => iOfTc k x.1⟩
def S_iOfBlock : Sig := ⟨[.v tBlock], [.sh tMsg], fun k x => iOfBlock k x.1⟩
def S_iOfHead : Sig := ⟨[.v tHead], [.sh tMsg], fun k x => iOfHead k x.1⟩
def S_iOfQc : Sig := ⟨[.v tQc], [.sh tMsg], fun k x => iOfQc k x.1⟩
def S_iOfVote : Sig := ⟨[.v tVote], [.sh tMsg], fun k x => iOfVote x.1⟩
def S_iTreeSame : Sig := ⟨[.v (.slice bs), .v (.slice bs)], [.sh .bool], fun k x => iTreeSame k x.1 x.2.1⟩
def S_iInclSame : Sig := ⟨[.v tIncl, .v tIncl], [.sh .bool], fun k x => iInclSame k x.1 x.2.1⟩
def S_iQcSame : Sig := ⟨[.v tQc, .v tQc], [.sh .bool], fun k x => iQcSame k x.1 x.2.1⟩
def S_iHeadSame : Sig := ⟨[.v tHead, .v tHead], [.sh .bool], fun k x => iHeadSame k x.1 x.2.1⟩
def S_iheadsSame : Sig := ⟨[.v (.slice tHead), .v (.slice tHead)], [.sh .bool], fun k x => iheadsSame k x.1 x.2.1⟩
def S_iProofSame : Sig := ⟨[.v tProof, .v tProof], [.sh .bool], fun k x => iProofSame k x.1 x.2.1⟩
def S_iTcSame : Sig := ⟨[.v tTc, .v tTc], [.sh .bool], fun k x => iTcSame k x.1 x.2.1⟩
def S_iBlockSame : Sig := ⟨[.v tBlock, .v tBlock], [.sh .bool], fun k x => iBlockSame k x.1 x.2.1⟩
def S_iVoteSame : Sig := ⟨[.v tVote, .v tVote], [.sh .bool], fun k x => iVoteSame x.1 x.2.1⟩
def S_iPutIncl : Sig := ⟨[.v tLimits, .v bs, .v tIncl], [.own u8 false, .sh .bool], fun k x => iPutIncl k x.1 x.2.1 x.2.2.1⟩
def S_iProof_closes : Sig := ⟨[.v tProof], [.sh .bool], fun k x => iProof_closes x.1⟩
def S_iProofOk : Sig := ⟨[.v tLimits, .v tProof], [.sh .bool], fun k x => iProofOk k x.1 x.2.1⟩
def S_iPutProof : Sig := ⟨[.v tLimits, .v bs, .v tProof], [.own u8 false, .sh .bool], fun k x => iPutProof k x.1 x.2.1 x.2.2.1⟩
def S_iTcOk : Sig := ⟨[.v tLimits, .v tTc], [.sh .bool], fun k x => iTcOk k x.1 x.2.1⟩
def S_iPutTc : Sig := ⟨[.v tLimits, .v bs, .v tTc], [.own u8 false, .sh .bool], fun k x => iPutTc k x.1 x.2.1 x.2.2.1⟩
def S_iPutBlock : Sig := ⟨[.v tLimits, .v bs, .v tBlock], [.own u8 false, .sh .bool], fun k x => iPutBlock k x.1 x.2.1 x.2.2.1⟩
def S_iPutQc : Sig := ⟨[.v tLimits, .v bs, .v tQc], [.own u8 false, .sh .bool], fun k x => iPutQc k x.1 x.2.1 x.2.2.1⟩
def S_iPutVote : Sig := ⟨[.v tLimits, .v bs, .v tVote], [.own u8 false, .sh .bool], fun k x => iPutVote k x.1 x.2.1 x.2.2.1⟩
def S_iFrameAt : Sig := ⟨[.v tLimits, .v bs, .v i64], [.sh i64, .sh i64], fun k x => iFrameAt k x.1 x.2.1 x.2.2.1⟩
def S_iVoteBytes : Sig := ⟨[.v i64, .v i64, .v bs], [.opt u8], fun k x => iVoteBytes k x.1 x.2.1 x.2.2.1⟩
def S_sl01Top : Sig := ⟨[.v i64], [.sh i64], fun k x => sl01Top x.1⟩
def S_sSameBytes : Sig := ⟨[.v bs, .v bs], [.sh .bool], fun k x => sSameBytes x.1 x.2.1⟩
def S_sTableOk : Sig := ⟨[.v tTable], [.sh .bool], fun k x => sTableOk k x.1⟩
def S_sSignVote : Sig := ⟨[.v tTable, .v i64, .v i64, .v bs, .v i64], [.sh tVote, .sh .bool], fun k x => sSignVote k x.1 x.2.1 x.2.2.1 x.2.2.2.1 x.2.2.2.2.1⟩
def S_sl13Fits : Sig := ⟨[.v tHead], [.sh .bool], fun k x => sl13Fits x.1⟩
def S_sHeadOk : Sig := ⟨[.v tLimits, .v tHead], [.sh .bool], fun k x => sHeadOk k x.1 x.2.1⟩
def S_sPutHead : Sig := ⟨[.v tLimits, .v bs, .v tHead], [.own u8 false, .sh .bool], fun k x => sPutHead k x.1 x.2.1 x.2.2.1⟩
def S_sl01Byte : Sig := ⟨[.p (.sh tl01Cur)], [.sh i64], fun k x => sl01Byte x.1⟩
def S_sl01Below : Sig := ⟨[.p (.sh tl01Cur), .v i64], [.sh i64], fun k x => sl01Below x.1 x.2.1⟩
def S_sl01Pick : Sig := ⟨[.p (.sh tl01Cur), .v is], [.sh i64], fun k x => sl01Pick x.1 x.2.1⟩
def S_iPathRoot : Sig := ⟨[.v bs, .v i64, .v i64, .v (.slice bs)], [.own u8 false, .sh .bool], fun k x => iPathRoot k x.1 x.2.1 x.2.2.1 x.2.2.2.1⟩
def S_iCommits : Sig := ⟨[.v tLimits, .v tProof], [.sh tHead, .sh .bool], fun k x => iCommits k x.1 x.2.1⟩
def S_ibelongs : Sig := ⟨[.v tLimits, .v tTable], [.sh .bool], fun k x => ibelongs k x.1 x.2.1⟩
def S_iQcVotes : Sig := ⟨[.v tQc], [.own tVote false], fun k x => iQcVotes k x.1⟩
def S_iSignVote : Sig := ⟨[.v tTable, .v i64, .v i64, .v bs, .v i64], [.sh tVote, .sh .bool], fun k x => iSignVote k x.1 x.2.1 x.2.2.1 x.2.2.2.1 x.2.2.2.2.1⟩
def S_iVoteGood : Sig := ⟨[.v tTable, .v tVote], [.sh .bool], fun k x => iVoteGood k x.1 x.2.1⟩
def S_iIsQuorum : Sig := ⟨[.v tTable, .v bs], [.sh .bool], fun k x => iIsQuorum k x.1 x.2.1⟩
def S_iQcCode : Sig := ⟨[.v tLimits, .v tTable, .v tQc], [.sh i64], fun k x => iQcCode k x.1 x.2.1 x.2.2.1⟩
def S_iProofCode : Sig := ⟨[.v tLimits, .v tTable, .v tProof], [.sh i64], fun k x => iProofCode k x.1 x.2.1 x.2.2.1⟩
def S_iTcBits : Sig := ⟨[.v tLimits, .v tTc], [.own u8 false, .sh .bool], fun k x => iTcBits k x.1 x.2.1⟩
def S_iEntryGood : Sig := ⟨[.v tTable, .v i64, .v tEntry], [.sh .bool], fun k x => iEntryGood k x.1 x.2.1 x.2.2.1⟩
def S_icopyHeads : Sig := ⟨[.v (.slice tHead)], [.own tHead true], fun k x => icopyHeads k x.1⟩
def S_iProof_copied : Sig := ⟨[.v tProof], [.sh tProof], fun k x => iProof_copied k x.1⟩
def S_iOfProof : Sig := ⟨[.v tProof], [.sh tMsg], fun k x => iOfProof k x.1⟩
def S_iMsg_alone : Sig := ⟨[.v tMsg], [.sh tMsg], fun k x => iMsg_alone k x.1⟩
def S_iMsgSame : Sig := ⟨[.v tMsg, .v tMsg], [.sh .bool], fun k x => iMsgSame k x.1 x.2.1⟩
def S_iMsg_put : Sig := ⟨[.v tMsg, .v tLimits, .v bs], [.own u8 false, .sh .bool], fun k x => iMsg_put k x.1 x.2.1 x.2.2.1⟩
def S_iPushOk : Sig := ⟨[.v tLimits, .v tPush], [.sh .bool], fun k x => iPushOk k x.1 x.2.1⟩
def S_iPush_copied : Sig := ⟨[.v tPush], [.sh tPush], fun k x => iPush_copied x.1⟩
def S_sPutFix : Sig := ⟨[.v bs, .v i64, .v i64], [.own u8 false, .sh .bool], fun k x => sPutFix k x.1 x.2.1 x.2.2.1⟩
def S_sHeadHash : Sig := ⟨[.v tLimits, .v tHead], [.own u8 false], fun k x => sHeadHash k x.1 x.2.1⟩
def S_sLinks : Sig := ⟨[.v tLimits, .v tHead, .v tHead], [.sh .bool], fun k x => sLinks k x.1 x.2.1 x.2.2.1⟩
def S_sl23Goes : Sig := ⟨[.v tLimits, .v tTable], [.sh .bool], fun k x => sl23Goes k x.1 x.2.1⟩
def S_sBuildQc : Sig := ⟨[.v tLimits, .v tTable, .v i64, .v i64, .v bs, .v bs], [.sh tQc, .sh .bool], fun k x => sBuildQc k x.1 x.2.1 x.2.2.1 x.2.2.2.1 x.2.2.2.2.1 x.2.2.2.2.2.1⟩
def S_sBitsNew : Sig := ⟨[.v i64], [.own u8 false], fun k x => sBitsNew x.1⟩
def S_sl21Draw : Sig := ⟨[.p (.sh tl01Cur), .v i64], [.sh tTable], fun k x => sl21Draw k x.1 x.2.1⟩
def S_sl10Draw : Sig := ⟨[.p (.sh tl01Cur)], [.sh tLimits], fun k x => sl10Draw x.1⟩
def S_iTableSame : Sig := ⟨[.v tTable, .v tTable], [.sh .bool], fun k x => iTableSame k x.1 x.2.1⟩
def S_iPathOk : Sig := ⟨[.v bs, .v i64, .v i64, .v (.slice bs), .v bs], [.sh .bool], fun k x => iPathOk k x.1 x.2.1 x.2.2.1 x.2.2.2.1 x.2.2.2.2.1⟩
def S_iLightOk : Sig := ⟨[.v tLight], [.sh .bool], fun k x => iLightOk k x.1⟩
def S_iKnown : Sig := ⟨[.v tLight, .v i64], [.sh tHead, .sh .bool], fun k x => iKnown k x.1 x.2.1⟩
def S_iTable_copied : Sig := ⟨[.v tTable], [.sh tTable], fun k x => iTable_copied k x.1⟩
def S_iLight_copied : Sig := ⟨[.v tLight], [.sh tLight], fun k x => iLight_copied k x.1⟩
def S_iLight_commit : Sig := ⟨[.v tLight, .v tProof], [.sh tLight, .sh i64], fun k x => iLight_commit k x.1 x.2.1⟩
def S_iTcCode : Sig := ⟨[.v tLimits, .v tTable, .v tTc], [.sh i64], fun k x => iTcCode k x.1 x.2.1 x.2.2.1⟩
def S_igoodOr : Sig := ⟨[.v i64], [.sh i64], fun k x => igoodOr x.1⟩
def S_iMsgOk : Sig := ⟨[.v tLimits, .v tMsg], [.sh .bool], fun k x => iMsgOk k x.1 x.2.1⟩
def S_iBuildQc : Sig := ⟨[.v tLimits, .v tTable, .v i64, .v i64, .v bs, .v bs], [.sh tQc, .sh .bool], fun k x => iBuildQc k x.1 x.2.1 x.2.2.1 x.2.2.2.1 x.2.2.2.2.1 x.2.2.2.2.2.1⟩
def S_sl30Full : Sig := ⟨[.v i64], [.own u8 false], fun k x => sl30Full k x.1⟩
def S_sNextHead : Sig := ⟨[.v tLimits, .v tTable, .v tHead, .v i64, .v i64, .v bs, .v bs], [.sh tHead, .sh .bool], fun k x => sNextHead k x.1 x.2.1 x.2.2.1 x.2.2.2.1 x.2.2.2.2.1 x.2.2.2.2.2.1 x.2.2.2.2.2.2.1⟩
def S_sl11Hash : Sig := ⟨[.p (.sh tl01Cur)], [.own u8 true], fun k x => sl11Hash x.1⟩
def S_sFirstHead : Sig := ⟨[.v tLimits, .v tTable, .v i64, .v bs], [.sh tHead, .sh .bool], fun k x => sFirstHead k x.1 x.2.1 x.2.2.1 x.2.2.2.1⟩
def S_sl23Pair : Sig := ⟨[.p (.sh tl01Cur)], [.sh tLimits, .sh tTable], fun k x => sl23Pair k x.1⟩
def S_sl01New : Sig := ⟨[.v bs], [.pbox (.sh tl01Cur)], fun k x => sl01New k x.1⟩
def S_iLightSame : Sig := ⟨[.v tLight, .v tLight], [.sh .bool], fun k x => iLightSame k x.1 x.2.1⟩
def S_iNextHead : Sig := ⟨[.v tLimits, .v tTable, .v tHead, .v i64, .v i64, .v bs, .v bs], [.sh tHead, .sh .bool], fun k x => iNextHead k x.1 x.2.1 x.2.2.1 x.2.2.2.1 x.2.2.2.2.1 x.2.2.2.2.2.1 x.2.2.2.2.2.2.1⟩
def S_sMakeHash : Sig := ⟨[.v bs, .v i64], [.own u8 true], fun k x => sMakeHash k x.1 x.2.1⟩
def S_iFirstHead : Sig := ⟨[.v tLimits, .v tTable, .v i64, .v bs], [.sh tHead, .sh .bool], fun k x => iFirstHead k x.1 x.2.1 x.2.2.1 x.2.2.2.1⟩
def S_iJudge : Sig := ⟨[.v tLight, .v tMsg], [.sh tLight, .sh i64], fun k x => iJudge k x.1 x.2.1⟩
def S_iBuildProof : Sig := ⟨[.v tLimits, .v tTable, .v (.slice tHead), .v bs], [.sh tProof, .sh .bool], fun k x => iBuildProof k x.1 x.2.1 x.2.2.1 x.2.2.2.1⟩
def S_iLightNew : Sig := ⟨[.v tLimits, .v tTable], [.sh tLight, .sh .bool], fun k x => iLightNew k x.1 x.2.1⟩
def S_sMakeFull : Sig := ⟨[.v i64], [.own u8 false], fun k x => sMakeFull k x.1⟩
def S_sMakeChain : Sig := ⟨[.v bs, .v i64], [.sh tLimits, .sh tTable, .own tHead true], fun k x => sMakeChain k x.1 x.2.1⟩
def S_wFnClash : Sig := ⟨[.v bs], [.sh .bool], fun k x => wFnClash k x.1⟩
end Go.Ev.G
