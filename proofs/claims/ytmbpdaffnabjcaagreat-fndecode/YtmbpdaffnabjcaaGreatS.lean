/- The signatures of the functions. No condition. -/
import Derived.Test.YtmbpdaffnabjcaaGreatP
set_option linter.unusedVariables false
set_option linter.unusedSimpArgs false
set_option linter.unusedSectionVars false
/- Signatures: printed by gen.py. -/
namespace Go.Ev.G
open Go.Ev Go.Proofs
set_option linter.unusedVariables false
def S_sShaInit : Sig := ⟨[], [.own i64 true], fun k x => sShaInit⟩
def S_sl01Copy : Sig := ⟨[.v bs], [.own u8 true], fun k x => sl01Copy x.1⟩
def S_sShaPad : Sig := ⟨[.v bs], [.own u8 true], fun k x => sShaPad k x.1⟩
def S_sl01In : Sig := ⟨[.v i64, .v i64, .v i64], [.sh .bool], fun k x => sl01In x.1 x.2.1 x.2.2.1⟩
def S_sl04Word : Sig := ⟨[.v i64], [.sh .bool], fun k x => sl04Word x.1⟩
def S_sl04Turn : Sig := ⟨[.v i64, .v i64], [.sh i64], fun k x => sl04Turn x.1 x.2.1⟩
def S_sl04K : Sig := ⟨[], [.own i64 true], fun k x => sl04K⟩
def S_sShaBlock : Sig := ⟨[.v is, .v bs], [.own i64 false], fun k x => sShaBlock k x.1 x.2.1⟩
def S_sSha : Sig := ⟨[.v bs], [.own u8 true], fun k x => sSha k x.1⟩
def S_sNodeHash : Sig := ⟨[.v bs, .v bs], [.own u8 true], fun k x => sNodeHash k x.1 x.2.1⟩
def S_sLeafHash : Sig := ⟨[.v bs], [.own u8 true], fun k x => sLeafHash k x.1⟩
def S_sMacKey : Sig := ⟨[.v bs], [.own u8 true], fun k x => sMacKey k x.1⟩
def S_sl03Turn : Sig := ⟨[.v i64], [.sh i64], fun k x => sl03Turn x.1⟩
def S_sl03Sum : Sig := ⟨[.v i64], [.sh .bool], fun k x => sl03Sum x.1⟩
def S_sl16Fits : Sig := ⟨[.v tProof], [.sh .bool], fun k x => sl16Fits x.1⟩
def S_sl01Num : Sig := ⟨[.v i64], [.sh .bool], fun k x => sl01Num x.1⟩
def S_sPutVar : Sig := ⟨[.v bs, .v i64], [.own u8 false, .sh .bool], fun k x => sPutVar k x.1 x.2.1⟩
def S_sSplitAt : Sig := ⟨[.v i64], [.sh i64], fun k x => sSplitAt k x.1⟩
def S_sl08In : Sig := ⟨[.v i64, .v i64], [.sh .bool], fun k x => sl08In x.1 x.2.1⟩
def S_sl06Copy : Sig := ⟨[.v (.slice bs)], [.own bs true], fun k x => sl06Copy k x.1⟩
def S_sl12Copy : Sig := ⟨[.v tQc], [.sh tQc], fun k x => sl12Copy k x.1⟩
def S_sl13Copy : Sig := ⟨[.v tHead], [.sh tHead], fun k x => sl13Copy k x.1⟩
def S_sl16Heads : Sig := ⟨[.v (.slice tHead)], [.own tHead true], fun k x => sl16Heads k x.1⟩
def S_sTreeRoot : Sig := ⟨[.v (.slice bs)], [.own u8 true], fun k x => sTreeRoot k x.1⟩
def S_isteps : Sig := ⟨[.v i64], [.sh i64], fun k x => isteps k x.1⟩
def S_iwithin : Sig := ⟨[.v i64, .v i64, .v i64], [.sh .bool], fun k x => iwithin x.1 x.2.1 x.2.2.1⟩
def S_iisNum : Sig := ⟨[.v i64], [.sh .bool], fun k x => iisNum x.1⟩
def S_icopyBytes : Sig := ⟨[.v bs], [.own u8 true], fun k x => icopyBytes x.1⟩
def S_iPutVar : Sig := ⟨[.v bs, .v i64], [.opt u8, .sh .bool], fun k x => iPutVar k x.1 x.2.1⟩
def S_inumbers : Sig := ⟨[.v u8, .v is], [.opt u8], fun k x => inumbers k x.1 x.2.1⟩
def S_iLeaveBytes : Sig := ⟨[.v i64, .v i64], [.opt u8], fun k x => iLeaveBytes k x.1 x.2.1⟩
def S_imasked : Sig := ⟨[.v bs, .v u8], [.own u8 true], fun k x => imasked k x.1 x.2.1⟩
def S_iShaInit : Sig := ⟨[], [.own i64 true], fun k x => iShaInit⟩
def S_iShaPad : Sig := ⟨[.v bs], [.own u8 true], fun k x => iShaPad k x.1⟩
def S_iisWord : Sig := ⟨[.v i64], [.sh .bool], fun k x => iisWord x.1⟩
def S_irounds : Sig := ⟨[], [.own i64 true], fun k x => irounds⟩
def S_iTurnRight : Sig := ⟨[.v i64, .v i64], [.sh i64], fun k x => iTurnRight x.1 x.2.1⟩
def S_iShaBlock : Sig := ⟨[.v is, .v bs], [.own i64 false], fun k x => iShaBlock k x.1 x.2.1⟩
def S_iSha : Sig := ⟨[.v bs], [.own u8 true], fun k x => iSha k x.1⟩
def S_iMacKey : Sig := ⟨[.v bs], [.own u8 true], fun k x => iMacKey k x.1⟩
def S_sMac : Sig := ⟨[.v bs, .v bs], [.own u8 true], fun k x => sMac k x.1 x.2.1⟩
def S_sl07Hash : Sig := ⟨[.v bs], [.sh .bool], fun k x => sl07Hash x.1⟩
def S_sl11Num : Sig := ⟨[.v bs, .v i64], [.own u8 false], fun k x => sl11Num k x.1 x.2.1⟩
def S_sVoteBytes : Sig := ⟨[.v i64, .v i64, .v bs], [.own u8 false], fun k x => sVoteBytes k x.1 x.2.1 x.2.2.1⟩
def S_sBitsHas : Sig := ⟨[.v bs, .v i64], [.sh .bool], fun k x => sBitsHas x.1 x.2.1⟩
def S_sl08Hashes : Sig := ⟨[.v (.slice bs)], [.sh .bool], fun k x => sl08Hashes k x.1⟩
def S_sCrcMore : Sig := ⟨[.v i64, .v bs], [.sh i64], fun k x => sCrcMore k x.1 x.2.1⟩
def S_weqByteS : Sig := ⟨[.v bs, .v bs], [.sh .bool], fun k x => weqByteS k x.1 x.2.1⟩
def S_weqEntry : Sig := ⟨[.v tEntry, .v tEntry], [.sh .bool], fun k x => weqEntry k x.1 x.2.1⟩
def S_wtoByteS : Sig := ⟨[.v bs], [.own u8 true], fun k x => wtoByteS k x.1⟩
def S_wtoEntry : Sig := ⟨[.v tEntry], [.sh tEntry], fun k x => wtoEntry k x.1⟩
def S_sl02Signers : Sig := ⟨[.v i64], [.sh .bool], fun k x => sl02Signers x.1⟩
def S_sLimitsOk : Sig := ⟨[.v tLimits], [.sh .bool], fun k x => sLimitsOk x.1⟩
def S_sPathLen : Sig := ⟨[.v i64, .v i64], [.sh i64], fun k x => sPathLen k x.1 x.2.1⟩
def S_sInclOk : Sig := ⟨[.v tLimits, .v tIncl], [.sh .bool], fun k x => sInclOk k x.1 x.2.1⟩
def S_sBitsSize : Sig := ⟨[.v i64], [.sh i64], fun k x => sBitsSize x.1⟩
def S_sBitsList : Sig := ⟨[.v bs], [.own i64 true], fun k x => sBitsList k x.1⟩
def S_sBitsOk : Sig := ⟨[.v bs, .v i64], [.sh .bool], fun k x => sBitsOk k x.1 x.2.1⟩
def S_sBitsCount : Sig := ⟨[.v bs], [.sh i64], fun k x => sBitsCount k x.1⟩
def S_sQcOk : Sig := ⟨[.v tLimits, .v tQc], [.sh .bool], fun k x => sQcOk k x.1 x.2.1⟩
def S_sSameBytes : Sig := ⟨[.v bs, .v bs], [.sh .bool], fun k x => sSameBytes x.1 x.2.1⟩
def S_sl13Fits : Sig := ⟨[.v tHead], [.sh .bool], fun k x => sl13Fits x.1⟩
def S_sHeadOk : Sig := ⟨[.v tLimits, .v tHead], [.sh .bool], fun k x => sHeadOk k x.1 x.2.1⟩
def S_sProofOk : Sig := ⟨[.v tLimits, .v tProof], [.sh .bool], fun k x => sProofOk k x.1 x.2.1⟩
def S_sTcOk : Sig := ⟨[.v tLimits, .v tTc], [.sh .bool], fun k x => sTcOk k x.1 x.2.1⟩
def S_sPutText : Sig := ⟨[.v bs, .v bs], [.own u8 false], fun k x => sPutText k x.1 x.2.1⟩
def S_sBlockOk : Sig := ⟨[.v tLimits, .v tBlock], [.sh .bool], fun k x => sBlockOk k x.1 x.2.1⟩
def S_sVoteOk : Sig := ⟨[.v tLimits, .v tVote], [.sh .bool], fun k x => sVoteOk x.1 x.2.1⟩
def S_sTreeSame : Sig := ⟨[.v (.slice bs), .v (.slice bs)], [.sh .bool], fun k x => sTreeSame k x.1 x.2.1⟩
def S_wszByteS : Sig := ⟨[.v bs, .v i64], [.sh i64], fun k x => wszByteS x.1 x.2.1⟩
def S_wszEntry : Sig := ⟨[.v tEntry, .v i64], [.sh i64], fun k x => wszEntry x.1 x.2.1⟩
def S_sl16Incl : Sig := ⟨[.v tIncl], [.sh tIncl], fun k x => sl16Incl k x.1⟩
def S_sl01Byte : Sig := ⟨[.p (.sh tl01Cur)], [.sh i64], fun k x => sl01Byte x.1⟩
def S_sl01Below : Sig := ⟨[.p (.sh tl01Cur), .v i64], [.sh i64], fun k x => sl01Below x.1 x.2.1⟩
def S_sl11Hash : Sig := ⟨[.p (.sh tl01Cur)], [.own u8 true], fun k x => sl11Hash x.1⟩
def S_sl01Pick : Sig := ⟨[.p (.sh tl01Cur), .v is], [.sh i64], fun k x => sl01Pick x.1 x.2.1⟩
def S_sl01AnyNum : Sig := ⟨[.p (.sh tl01Cur)], [.sh i64], fun k x => sl01AnyNum x.1⟩
def S_sBitsNew : Sig := ⟨[.v i64], [.own u8 false], fun k x => sBitsNew x.1⟩
def S_sl01Once : Sig := ⟨[.p (.sh tl01Cur), .v i64], [.sh .bool], fun k x => sl01Once x.1 x.2.1⟩
def S_sl02Draw : Sig := ⟨[.p (.sh tl01Cur), .v i64], [.own u8 false], fun k x => sl02Draw k x.1 x.2.1⟩
def S_sl12Draw : Sig := ⟨[.p (.sh tl01Cur), .v tLimits], [.sh tQc], fun k x => sl12Draw k x.1 x.2.1⟩
def S_sl13Draw : Sig := ⟨[.p (.sh tl01Cur), .v tLimits], [.sh tHead], fun k x => sl13Draw k x.1 x.2.1⟩
def S_sPutQc : Sig := ⟨[.v tLimits, .v bs, .v tQc], [.own u8 false, .sh .bool], fun k x => sPutQc k x.1 x.2.1 x.2.2.1⟩
def S_sPutHead : Sig := ⟨[.v tLimits, .v bs, .v tHead], [.own u8 false, .sh .bool], fun k x => sPutHead k x.1 x.2.1 x.2.2.1⟩
def S_sHeadHash : Sig := ⟨[.v tLimits, .v tHead], [.own u8 false], fun k x => sHeadHash k x.1 x.2.1⟩
def S_sl13Chain : Sig := ⟨[.p (.sh tl01Cur), .v tLimits, .v i64], [.own tHead true], fun k x => sl13Chain k x.1 x.2.1 x.2.2.1⟩
def S_sl16Copy : Sig := ⟨[.v tProof], [.sh tProof], fun k x => sl16Copy k x.1⟩
def S_sl15Copy : Sig := ⟨[.v tTc], [.sh tTc], fun k x => sl15Copy k x.1⟩
def S_sl01Bytes : Sig := ⟨[.p (.sh tl01Cur), .v i64], [.own u8 true], fun k x => sl01Bytes k x.1 x.2.1⟩
def S_sl14Txs : Sig := ⟨[.p (.sh tl01Cur), .v tLimits], [.own bs true], fun k x => sl14Txs k x.1 x.2.1⟩
def S_sBlockOf : Sig := ⟨[.v tLimits, .v tHead, .v (.slice bs)], [.sh tBlock, .sh .bool], fun k x => sBlockOf k x.1 x.2.1 x.2.2.1⟩
def S_sl14Copy : Sig := ⟨[.v tBlock], [.sh tBlock], fun k x => sl14Copy k x.1⟩
def S_iCrcMore : Sig := ⟨[.v i64, .v bs], [.sh i64], fun k x => iCrcMore k x.1 x.2.1⟩
def S_iGetVar : Sig := ⟨[.v bs, .v i64], [.sh i64, .sh i64, .sh i64], fun k x => iGetVar k x.1 x.2.1⟩
def S_iGetRaw : Sig := ⟨[.v bs, .v i64, .v i64], [.own u8 false, .sh i64, .sh i64], fun k x => iGetRaw x.1 x.2.1 x.2.2.1⟩
def S_iGetText : Sig := ⟨[.v bs, .v i64, .v i64], [.own u8 false, .sh i64, .sh i64], fun k x => iGetText k x.1 x.2.1 x.2.2.1⟩
def S_iNodeHash : Sig := ⟨[.v bs, .v bs], [.own u8 true], fun k x => iNodeHash k x.1 x.2.1⟩
def S_iSplitAt : Sig := ⟨[.v i64], [.sh i64], fun k x => iSplitAt k x.1⟩
def S_ireader_raw : Sig := ⟨[.p (.sh tl01Cur), .v i64], [.own u8 false], fun k x => ireader_raw x.1 x.2.1⟩
def S_icopyList : Sig := ⟨[.v (.slice bs)], [.own bs true], fun k x => icopyList k x.1⟩
def S_ipathRoot : Sig := ⟨[.v bs, .v i64, .v i64, .v (.slice bs)], [.own u8 true], fun k x => ipathRoot k x.1 x.2.1 x.2.2.1 x.2.2.2.1⟩
def S_iLimitsOk : Sig := ⟨[.v tLimits], [.sh .bool], fun k x => iLimitsOk x.1⟩
def S_iareHashes : Sig := ⟨[.v (.slice bs)], [.sh .bool], fun k x => iareHashes k x.1⟩
def S_iBitsSize : Sig := ⟨[.v i64], [.sh i64], fun k x => iBitsSize x.1⟩
def S_iBitsHas : Sig := ⟨[.v bs, .v i64], [.sh .bool], fun k x => iBitsHas x.1 x.2.1⟩
def S_iBitsList : Sig := ⟨[.v bs], [.own i64 true], fun k x => iBitsList k x.1⟩
def S_iBitsOk : Sig := ⟨[.v bs, .v i64], [.sh .bool], fun k x => iBitsOk k x.1 x.2.1⟩
def S_math_bits_OnesCount8 : Sig := ⟨[.v u8], [.sh i64], fun k x => math_bits_OnesCount8 x.1⟩
def S_iBitsCount : Sig := ⟨[.v bs], [.sh i64], fun k x => iBitsCount k x.1⟩
def S_iQcOk : Sig := ⟨[.v tLimits, .v tQc], [.sh .bool], fun k x => iQcOk k x.1 x.2.1⟩
def S_iSameBytes : Sig := ⟨[.v bs, .v bs], [.sh .bool], fun k x => iSameBytes x.1 x.2.1⟩
def S_iHead_matches : Sig := ⟨[.v tHead], [.sh .bool], fun k x => iHead_matches x.1⟩
def S_iHeadOk : Sig := ⟨[.v tLimits, .v tHead], [.sh .bool], fun k x => iHeadOk k x.1 x.2.1⟩
def S_iareHeads : Sig := ⟨[.v tLimits, .v (.slice tHead)], [.sh .bool], fun k x => iareHeads k x.1 x.2.1⟩
def S_iwriter_num : Sig := ⟨[.p (.pair (.own u8 false) .unit), .v i64], [], fun k x => iwriter_num k x.1 x.2.1⟩
def S_iwriter_raw : Sig := ⟨[.p (.pair (.own u8 false) .unit), .v bs], [], fun k x => iwriter_raw x.1 x.2.1⟩
def S_iwriter_qc : Sig := ⟨[.p (.pair (.own u8 false) .unit), .v tQc], [], fun k x => iwriter_qc k x.1 x.2.1⟩
def S_iwriter_head : Sig := ⟨[.p (.pair (.own u8 false) .unit), .v tHead], [], fun k x => iwriter_head k x.1 x.2.1⟩
def S_iPutHead : Sig := ⟨[.v tLimits, .v bs, .v tHead], [.own u8 false, .sh .bool], fun k x => iPutHead k x.1 x.2.1 x.2.2.1⟩
def S_iHeadHash : Sig := ⟨[.v tLimits, .v tHead], [.own u8 false], fun k x => iHeadHash k x.1 x.2.1⟩
def S_iLinks : Sig := ⟨[.v tLimits, .v tHead, .v tHead], [.sh .bool], fun k x => iLinks k x.1 x.2.1 x.2.2.1⟩
def S_iChainCode : Sig := ⟨[.v tLimits, .v (.slice tHead)], [.sh i64], fun k x => iChainCode k x.1 x.2.1⟩
def S_iBitsNew : Sig := ⟨[.v i64], [.own u8 false], fun k x => iBitsNew x.1⟩
def S_iBitsOf : Sig := ⟨[.v is, .v i64], [.own u8 false, .sh .bool], fun k x => iBitsOf k x.1 x.2.1⟩
def S_iTableOk : Sig := ⟨[.v tTable], [.sh .bool], fun k x => iTableOk k x.1⟩
def S_iMac : Sig := ⟨[.v bs, .v bs], [.own u8 true], fun k x => iMac k x.1 x.2.1⟩
def S_iSignLeave : Sig := ⟨[.v tTable, .v i64, .v i64, .v i64], [.sh tEntry, .sh .bool], fun k x => iSignLeave k x.1 x.2.1 x.2.2.1 x.2.2.2.1⟩
def S_iTotalOf : Sig := ⟨[.v tTable], [.sh i64], fun k x => iTotalOf k x.1⟩
def S_iWeightOf : Sig := ⟨[.v tTable, .v bs], [.sh i64], fun k x => iWeightOf k x.1 x.2.1⟩
def S_iVoteBytes : Sig := ⟨[.v i64, .v i64, .v bs], [.opt u8], fun k x => iVoteBytes k x.1 x.2.1 x.2.2.1⟩
def S_sl01Top : Sig := ⟨[.v i64], [.sh i64], fun k x => sl01Top x.1⟩
def S_sTableOk : Sig := ⟨[.v tTable], [.sh .bool], fun k x => sTableOk k x.1⟩
def S_sSignVote : Sig := ⟨[.v tTable, .v i64, .v i64, .v bs, .v i64], [.sh tVote, .sh .bool], fun k x => sSignVote k x.1 x.2.1 x.2.2.1 x.2.2.2.1 x.2.2.2.2.1⟩
def S_sCrc : Sig := ⟨[.v bs], [.sh i64], fun k x => sCrc k x.1⟩
def S_iIncl_copied : Sig := ⟨[.v tIncl], [.sh tIncl], fun k x => iIncl_copied k x.1⟩
def S_iTc_copied : Sig := ⟨[.v tTc], [.sh tTc], fun k x => iTc_copied k x.1⟩
def S_iQc_copied : Sig := ⟨[.v tQc], [.sh tQc], fun k x => iQc_copied k x.1⟩
def S_iHead_copied : Sig := ⟨[.v tHead], [.sh tHead], fun k x => iHead_copied k x.1⟩
def S_iBlock_copied : Sig := ⟨[.v tBlock], [.sh tBlock], fun k x => iBlock_copied k x.1⟩
def S_iPutFix : Sig := ⟨[.v bs, .v i64, .v i64], [.own u8 false, .sh .bool], fun k x => iPutFix k x.1 x.2.1 x.2.2.1⟩
def S_weqByteSS : Sig := ⟨[.v (.slice bs), .v (.slice bs)], [.sh .bool], fun k x => weqByteSS k x.1 x.2.1⟩
def S_weqQc : Sig := ⟨[.v tQc, .v tQc], [.sh .bool], fun k x => weqQc k x.1 x.2.1⟩
def S_weqHead : Sig := ⟨[.v tHead, .v tHead], [.sh .bool], fun k x => weqHead k x.1 x.2.1⟩
def S_weqHeadS : Sig := ⟨[.v (.slice tHead), .v (.slice tHead)], [.sh .bool], fun k x => weqHeadS k x.1 x.2.1⟩
def S_weqEntryS : Sig := ⟨[.v (.slice tEntry), .v (.slice tEntry)], [.sh .bool], fun k x => weqEntryS k x.1 x.2.1⟩
def S_wtoByteSS : Sig := ⟨[.v (.slice bs)], [.own bs true], fun k x => wtoByteSS k x.1⟩
def S_wtoQc : Sig := ⟨[.v tQc], [.sh tQc], fun k x => wtoQc k x.1⟩
def S_wtoHead : Sig := ⟨[.v tHead], [.sh tHead], fun k x => wtoHead k x.1⟩
def S_wtoHeadS : Sig := ⟨[.v (.slice tHead)], [.own tHead true], fun k x => wtoHeadS k x.1⟩
def S_wtoEntryS : Sig := ⟨[.v (.slice tEntry)], [.own tEntry true], fun k x => wtoEntryS k x.1⟩
def S_sPutIncl : Sig := ⟨[.v tLimits, .v bs, .v tIncl], [.own u8 false, .sh .bool], fun k x => sPutIncl k x.1 x.2.1 x.2.2.1⟩
def S_sPutProof : Sig := ⟨[.v tLimits, .v bs, .v tProof], [.own u8 false, .sh .bool], fun k x => sPutProof k x.1 x.2.1 x.2.2.1⟩
def S_sPutTc : Sig := ⟨[.v tLimits, .v bs, .v tTc], [.own u8 false, .sh .bool], fun k x => sPutTc k x.1 x.2.1 x.2.2.1⟩
def S_sPutBlock : Sig := ⟨[.v tLimits, .v bs, .v tBlock], [.own u8 false, .sh .bool], fun k x => sPutBlock k x.1 x.2.1 x.2.2.1⟩
def S_sPutVote : Sig := ⟨[.v tLimits, .v bs, .v tVote], [.own u8 false, .sh .bool], fun k x => sPutVote k x.1 x.2.1 x.2.2.1⟩
def S_sInclSame : Sig := ⟨[.v tIncl, .v tIncl], [.sh .bool], fun k x => sInclSame k x.1 x.2.1⟩
def S_sQcSame : Sig := ⟨[.v tQc, .v tQc], [.sh .bool], fun k x => sQcSame k x.1 x.2.1⟩
def S_sHeadSame : Sig := ⟨[.v tHead, .v tHead], [.sh .bool], fun k x => sHeadSame k x.1 x.2.1⟩
def S_sProofSame : Sig := ⟨[.v tProof, .v tProof], [.sh .bool], fun k x => sProofSame k x.1 x.2.1⟩
def S_sTcSame : Sig := ⟨[.v tTc, .v tTc], [.sh .bool], fun k x => sTcSame k x.1 x.2.1⟩
def S_sBlockSame : Sig := ⟨[.v tBlock, .v tBlock], [.sh .bool], fun k x => sBlockSame k x.1 x.2.1⟩
def S_sVoteSame : Sig := ⟨[.v tVote, .v tVote], [.sh .bool], fun k x => sVoteSame x.1 x.2.1⟩
def S_wszByteSS : Sig := ⟨[.v (.slice bs), .v i64], [.sh i64], fun k x => wszByteSS k x.1 x.2.1⟩
def S_wszQc : Sig := ⟨[.v tQc, .v i64], [.sh i64], fun k x => wszQc k x.1 x.2.1⟩
def S_wszHead : Sig := ⟨[.v tHead, .v i64], [.sh i64], fun k x => wszHead k x.1 x.2.1⟩
def S_wszHeadS : Sig := ⟨[.v (.slice tHead), .v i64], [.sh i64], fun k x => wszHeadS k x.1 x.2.1⟩
def S_wszEntryS : Sig := ⟨[.v (.slice tEntry), .v i64], [.sh i64], fun k x => wszEntryS k x.1 x.2.1⟩
def S_iOfIncl : Sig := ⟨[.v tIncl], [.sh tMsg], fun k x => iOfIncl k x.1⟩
def S_iOfTc : Sig := ⟨[.v tTc], [.sh tMsg], fun k x => iOfTc k x.1⟩
def S_iOfBlock : Sig := ⟨[.v tBlock], [.sh tMsg], fun k x => iOfBlock k x.1⟩
def S_iOfHead : Sig := ⟨[.v tHead], [.sh tMsg], fun k x => iOfHead k x.1⟩
def S_iOfQc : Sig := ⟨[.v tQc], [.sh tMsg], fun k x => iOfQc k x.1⟩
def S_iOfVote : Sig := ⟨[.v tVote], [.sh tMsg], fun k x => iOfVote x.1⟩
def S_sl16Some : Sig := ⟨[.p (.sh tl01Cur), .v tLimits], [.sh tIncl], fun k x => sl16Some k x.1 x.2.1⟩
def S_sOfIncl : Sig := ⟨[.v tIncl], [.sh tMsg], fun k x => sOfIncl k x.1⟩
def S_sl16Draw : Sig := ⟨[.p (.sh tl01Cur), .v tLimits], [.sh tProof], fun k x => sl16Draw k x.1 x.2.1⟩
def S_sOfProof : Sig := ⟨[.v tProof], [.sh tMsg], fun k x => sOfProof k x.1⟩
def S_sl15Draw : Sig := ⟨[.p (.sh tl01Cur), .v tLimits], [.sh tTc], fun k x => sl15Draw k x.1 x.2.1⟩
def S_sOfTc : Sig := ⟨[.v tTc], [.sh tMsg], fun k x => sOfTc k x.1⟩
def S_sl14Draw : Sig := ⟨[.p (.sh tl01Cur), .v tLimits], [.sh tBlock], fun k x => sl14Draw k x.1 x.2.1⟩
def S_sOfBlock : Sig := ⟨[.v tBlock], [.sh tMsg], fun k x => sOfBlock k x.1⟩
def S_sOfHead : Sig := ⟨[.v tHead], [.sh tMsg], fun k x => sOfHead k x.1⟩
def S_sOfQc : Sig := ⟨[.v tQc], [.sh tMsg], fun k x => sOfQc k x.1⟩
def S_iGetFix : Sig := ⟨[.v bs, .v i64, .v i64], [.sh i64, .sh i64, .sh i64], fun k x => iGetFix k x.1 x.2.1 x.2.2.1⟩
def S_iCrc : Sig := ⟨[.v bs], [.sh i64], fun k x => iCrc k x.1⟩
def S_iFrameAt : Sig := ⟨[.v tLimits, .v bs, .v i64], [.sh i64, .sh i64], fun k x => iFrameAt k x.1 x.2.1 x.2.2.1⟩
def S_iFrameData : Sig := ⟨[.v tLimits, .v bs, .v i64], [.own u8 false, .sh .bool], fun k x => iFrameData k x.1 x.2.1 x.2.2.1⟩
def S_sl11Draw : Sig := ⟨[.p (.sh tl01Cur), .v tLimits], [.sh tVote], fun k x => sl11Draw x.1 x.2.1⟩
def S_sOfVote : Sig := ⟨[.v tVote], [.sh tMsg], fun k x => sOfVote x.1⟩
def S_sl17Kind : Sig := ⟨[.v i64], [.sh .bool], fun k x => sl17Kind x.1⟩
def S_sl17Only : Sig := ⟨[.v tMsg], [.sh tMsg], fun k x => sl17Only k x.1⟩
def S_sMsgSame : Sig := ⟨[.v tMsg, .v tMsg], [.sh .bool], fun k x => sMsgSame k x.1 x.2.1⟩
def S_sl17Put : Sig := ⟨[.v tLimits, .v bs, .v tMsg], [.own u8 false, .sh .bool], fun k x => sl17Put k x.1 x.2.1 x.2.2.1⟩
def S_sMsgOk : Sig := ⟨[.v tLimits, .v tMsg], [.sh .bool], fun k x => sMsgOk k x.1 x.2.1⟩
def S_sEncode : Sig := ⟨[.v tLimits, .v tMsg], [.own u8 false, .sh .bool], fun k x => sEncode k x.1 x.2.1⟩
def S_sl17Draw : Sig := ⟨[.p (.sh tl01Cur), .v tLimits], [.sh tMsg], fun k x => sl17Draw k x.1 x.2.1⟩
def S_sPutFix : Sig := ⟨[.v bs, .v i64, .v i64], [.own u8 false, .sh .bool], fun k x => sPutFix k x.1 x.2.1 x.2.2.1⟩
def S_sFrame : Sig := ⟨[.v tLimits, .v bs], [.own u8 false, .sh .bool], fun k x => sFrame k x.1 x.2.1⟩
def S_sl18Some : Sig := ⟨[.p (.sh tl01Cur), .v tLimits], [.own u8 false], fun k x => sl18Some k x.1 x.2.1⟩
def S_iPathLen : Sig := ⟨[.v i64, .v i64], [.sh i64], fun k x => iPathLen k x.1 x.2.1⟩
def S_ireader_text : Sig := ⟨[.p (.sh tl01Cur), .v i64], [.own u8 false], fun k x => ireader_text k x.1 x.2.1⟩
def S_iLeafHash : Sig := ⟨[.v bs], [.own u8 true], fun k x => iLeafHash k x.1⟩
def S_iTreeRoot : Sig := ⟨[.v (.slice bs)], [.own u8 true], fun k x => iTreeRoot k x.1⟩
def S_ireader_must : Sig := ⟨[.p (.sh tl01Cur), .v .bool, .v i64], [], fun k x => ireader_must x.1 x.2.1 x.2.2.1⟩
def S_iGetBits : Sig := ⟨[.v bs, .v i64, .v i64], [.own u8 false, .sh i64, .sh i64], fun k x => iGetBits k x.1 x.2.1 x.2.2.1⟩
def S_ireader_num : Sig := ⟨[.p (.sh tl01Cur)], [.sh i64], fun k x => ireader_num k x.1⟩
def S_ireader_below : Sig := ⟨[.p (.sh tl01Cur), .v i64, .v i64], [.sh i64], fun k x => ireader_below k x.1 x.2.1 x.2.2.1⟩
def S_ireader_hash : Sig := ⟨[.p (.sh tl01Cur)], [.own u8 false], fun k x => ireader_hash x.1⟩
def S_iPathRoot : Sig := ⟨[.v bs, .v i64, .v i64, .v (.slice bs)], [.own u8 false, .sh .bool], fun k x => iPathRoot k x.1 x.2.1 x.2.2.1 x.2.2.2.1⟩
def S_iProof_closes : Sig := ⟨[.v tProof], [.sh .bool], fun k x => iProof_closes x.1⟩
def S_iProofOk : Sig := ⟨[.v tLimits, .v tProof], [.sh .bool], fun k x => iProofOk k x.1 x.2.1⟩
def S_iCommits : Sig := ⟨[.v tLimits, .v tProof], [.sh tHead, .sh .bool], fun k x => iCommits k x.1 x.2.1⟩
def S_ibelongs : Sig := ⟨[.v tLimits, .v tTable], [.sh .bool], fun k x => ibelongs k x.1 x.2.1⟩
def S_iQcVotes : Sig := ⟨[.v tQc], [.own tVote false], fun k x => iQcVotes k x.1⟩
def S_iSignVote : Sig := ⟨[.v tTable, .v i64, .v i64, .v bs, .v i64], [.sh tVote, .sh .bool], fun k x => iSignVote k x.1 x.2.1 x.2.2.1 x.2.2.2.1 x.2.2.2.2.1⟩
def S_iVoteSame : Sig := ⟨[.v tVote, .v tVote], [.sh .bool], fun k x => iVoteSame x.1 x.2.1⟩
def S_iVoteGood : Sig := ⟨[.v tTable, .v tVote], [.sh .bool], fun k x => iVoteGood k x.1 x.2.1⟩
def S_iIsQuorum : Sig := ⟨[.v tTable, .v bs], [.sh .bool], fun k x => iIsQuorum k x.1 x.2.1⟩
def S_iQcCode : Sig := ⟨[.v tLimits, .v tTable, .v tQc], [.sh i64], fun k x => iQcCode k x.1 x.2.1 x.2.2.1⟩
def S_iProofCode : Sig := ⟨[.v tLimits, .v tTable, .v tProof], [.sh i64], fun k x => iProofCode k x.1 x.2.1 x.2.2.1⟩
def S_iTcOk : Sig := ⟨[.v tLimits, .v tTc], [.sh .bool], fun k x => iTcOk k x.1 x.2.1⟩
def S_iTcBits : Sig := ⟨[.v tLimits, .v tTc], [.own u8 false, .sh .bool], fun k x => iTcBits k x.1 x.2.1⟩
def S_ientrySame : Sig := ⟨[.v tEntry, .v tEntry], [.sh .bool], fun k x => ientrySame x.1 x.2.1⟩
def S_iEntryGood : Sig := ⟨[.v tTable, .v i64, .v tEntry], [.sh .bool], fun k x => iEntryGood k x.1 x.2.1 x.2.2.1⟩
def S_sLinks : Sig := ⟨[.v tLimits, .v tHead, .v tHead], [.sh .bool], fun k x => sLinks k x.1 x.2.1 x.2.2.1⟩
def S_sl23Goes : Sig := ⟨[.v tLimits, .v tTable], [.sh .bool], fun k x => sl23Goes k x.1 x.2.1⟩
def S_sBuildQc : Sig := ⟨[.v tLimits, .v tTable, .v i64, .v i64, .v bs, .v bs], [.sh tQc, .sh .bool], fun k x => sBuildQc k x.1 x.2.1 x.2.2.1 x.2.2.2.1 x.2.2.2.2.1 x.2.2.2.2.2.1⟩
def S_sl21Draw : Sig := ⟨[.p (.sh tl01Cur), .v i64], [.sh tTable], fun k x => sl21Draw k x.1 x.2.1⟩
def S_icopyHeads : Sig := ⟨[.v (.slice tHead)], [.own tHead true], fun k x => icopyHeads k x.1⟩
def S_iProof_copied : Sig := ⟨[.v tProof], [.sh tProof], fun k x => iProof_copied k x.1⟩
def S_iMsg_copied : Sig := ⟨[.v tMsg], [.sh tMsg], fun k x => iMsg_copied k x.1⟩
def S_iFrame : Sig := ⟨[.v tLimits, .v bs], [.own u8 false, .sh .bool], fun k x => iFrame k x.1 x.2.1⟩
def S_weqIncl : Sig := ⟨[.v tIncl, .v tIncl], [.sh .bool], fun k x => weqIncl k x.1 x.2.1⟩
def S_weqProof : Sig := ⟨[.v tProof, .v tProof], [.sh .bool], fun k x => weqProof k x.1 x.2.1⟩
def S_weqTc : Sig := ⟨[.v tTc, .v tTc], [.sh .bool], fun k x => weqTc k x.1 x.2.1⟩
def S_weqBlock : Sig := ⟨[.v tBlock, .v tBlock], [.sh .bool], fun k x => weqBlock k x.1 x.2.1⟩
def S_weqVote : Sig := ⟨[.v tVote, .v tVote], [.sh .bool], fun k x => weqVote k x.1 x.2.1⟩
def S_wtoIncl : Sig := ⟨[.v tIncl], [.sh tIncl], fun k x => wtoIncl k x.1⟩
def S_wtoProof : Sig := ⟨[.v tProof], [.sh tProof], fun k x => wtoProof k x.1⟩
def S_wtoTc : Sig := ⟨[.v tTc], [.sh tTc], fun k x => wtoTc k x.1⟩
def S_wtoBlock : Sig := ⟨[.v tBlock], [.sh tBlock], fun k x => wtoBlock k x.1⟩
def S_wtoVote : Sig := ⟨[.v tVote], [.sh tVote], fun k x => wtoVote k x.1⟩
def S_wszIncl : Sig := ⟨[.v tIncl, .v i64], [.sh i64], fun k x => wszIncl k x.1 x.2.1⟩
def S_wszProof : Sig := ⟨[.v tProof, .v i64], [.sh i64], fun k x => wszProof k x.1 x.2.1⟩
def S_wszTc : Sig := ⟨[.v tTc, .v i64], [.sh i64], fun k x => wszTc k x.1 x.2.1⟩
def S_wszBlock : Sig := ⟨[.v tBlock, .v i64], [.sh i64], fun k x => wszBlock k x.1 x.2.1⟩
def S_wszVote : Sig := ⟨[.v tVote, .v i64], [.sh i64], fun k x => wszVote x.1 x.2.1⟩
def S_iOfProof : Sig := ⟨[.v tProof], [.sh tMsg], fun k x => iOfProof k x.1⟩
def S_iMsg_alone : Sig := ⟨[.v tMsg], [.sh tMsg], fun k x => iMsg_alone k x.1⟩
def S_sl01Bend : Sig := ⟨[.p (.sh tl01Cur), .v bs], [.own u8 false], fun k x => sl01Bend k x.1 x.2.1⟩
def S_inameAt : Sig := ⟨[.v i64, .v (.slice .str)], [.sh .str], fun k x => inameAt x.1 x.2.1⟩
def S_iVoteOk : Sig := ⟨[.v tLimits, .v tVote], [.sh .bool], fun k x => iVoteOk k x.1 x.2.1⟩
def S_iPutVote : Sig := ⟨[.v tLimits, .v bs, .v tVote], [.own u8 false, .sh .bool], fun k x => iPutVote k x.1 x.2.1 x.2.2.1⟩
def S_iPutQc : Sig := ⟨[.v tLimits, .v bs, .v tQc], [.own u8 false, .sh .bool], fun k x => iPutQc k x.1 x.2.1 x.2.2.1⟩
def S_iBlockOk : Sig := ⟨[.v tLimits, .v tBlock], [.sh .bool], fun k x => iBlockOk k x.1 x.2.1⟩
def S_iPutText : Sig := ⟨[.v bs, .v bs], [.own u8 false], fun k x => iPutText k x.1 x.2.1⟩
def S_iPutBlock : Sig := ⟨[.v tLimits, .v bs, .v tBlock], [.own u8 false, .sh .bool], fun k x => iPutBlock k x.1 x.2.1 x.2.2.1⟩
def S_iPutTc : Sig := ⟨[.v tLimits, .v bs, .v tTc], [.own u8 false, .sh .bool], fun k x => iPutTc k x.1 x.2.1 x.2.2.1⟩
def S_iPutProof : Sig := ⟨[.v tLimits, .v bs, .v tProof], [.own u8 false, .sh .bool], fun k x => iPutProof k x.1 x.2.1 x.2.2.1⟩
def S_iInclOk : Sig := ⟨[.v tLimits, .v tIncl], [.sh .bool], fun k x => iInclOk k x.1 x.2.1⟩
def S_iPutIncl : Sig := ⟨[.v tLimits, .v bs, .v tIncl], [.own u8 false, .sh .bool], fun k x => iPutIncl k x.1 x.2.1 x.2.2.1⟩
def S_iMsg_put : Sig := ⟨[.v tMsg, .v tLimits, .v bs], [.own u8 false, .sh .bool], fun k x => iMsg_put k x.1 x.2.1 x.2.2.1⟩
def S_iKindName : Sig := ⟨[.v i64], [.sh .str], fun k x => iKindName x.1⟩
def S_ireadVote : Sig := ⟨[.v tLimits, .p (.sh tl01Cur)], [.sh tVote], fun k x => ireadVote k x.1 x.2.1⟩
def S_iget_implVote : Sig := ⟨[.v tLimits, .v bs, .v i64, .f 121], [.sh tVote, .sh i64, .sh i64], fun k x => iget_implVote k x.1 x.2.1 x.2.2.1⟩
def S_iGetVote : Sig := ⟨[.v tLimits, .v bs, .v i64], [.sh tVote, .sh i64, .sh i64], fun k x => iGetVote k x.1 x.2.1 x.2.2.1⟩
def S_ireadQc : Sig := ⟨[.v tLimits, .p (.sh tl01Cur)], [.sh tQc], fun k x => ireadQc k x.1 x.2.1⟩
def S_iget_implQc : Sig := ⟨[.v tLimits, .v bs, .v i64, .f 125], [.sh tQc, .sh i64, .sh i64], fun k x => iget_implQc k x.1 x.2.1 x.2.2.1⟩
def S_iGetQc : Sig := ⟨[.v tLimits, .v bs, .v i64], [.sh tQc, .sh i64, .sh i64], fun k x => iGetQc k x.1 x.2.1 x.2.2.1⟩
def S_ireadHead : Sig := ⟨[.v tLimits, .p (.sh tl01Cur)], [.sh tHead], fun k x => ireadHead k x.1 x.2.1⟩
def S_iget_implHead : Sig := ⟨[.v tLimits, .v bs, .v i64, .f 129], [.sh tHead, .sh i64, .sh i64], fun k x => iget_implHead k x.1 x.2.1 x.2.2.1⟩
def S_iGetHead : Sig := ⟨[.v tLimits, .v bs, .v i64], [.sh tHead, .sh i64, .sh i64], fun k x => iGetHead k x.1 x.2.1 x.2.2.1⟩
def S_ireadBlock : Sig := ⟨[.v tLimits, .p (.sh tl01Cur)], [.sh tBlock], fun k x => ireadBlock k x.1 x.2.1⟩
def S_iget_implBlock : Sig := ⟨[.v tLimits, .v bs, .v i64, .f 134], [.sh tBlock, .sh i64, .sh i64], fun k x => iget_implBlock k x.1 x.2.1 x.2.2.1⟩
def S_iGetBlock : Sig := ⟨[.v tLimits, .v bs, .v i64], [.sh tBlock, .sh i64, .sh i64], fun k x => iGetBlock k x.1 x.2.1 x.2.2.1⟩
def S_ireadTc : Sig := ⟨[.v tLimits, .p (.sh tl01Cur)], [.sh tTc], fun k x => ireadTc k x.1 x.2.1⟩
def S_iget_implTc : Sig := ⟨[.v tLimits, .v bs, .v i64, .f 137], [.sh tTc, .sh i64, .sh i64], fun k x => iget_implTc k x.1 x.2.1 x.2.2.1⟩
def S_iGetTc : Sig := ⟨[.v tLimits, .v bs, .v i64], [.sh tTc, .sh i64, .sh i64], fun k x => iGetTc k x.1 x.2.1 x.2.2.1⟩
def S_ireadProof : Sig := ⟨[.v tLimits, .p (.sh tl01Cur)], [.sh tProof], fun k x => ireadProof k x.1 x.2.1⟩
def S_iget_implProof : Sig := ⟨[.v tLimits, .v bs, .v i64, .f 140], [.sh tProof, .sh i64, .sh i64], fun k x => iget_implProof k x.1 x.2.1 x.2.2.1⟩
def S_iGetProof : Sig := ⟨[.v tLimits, .v bs, .v i64], [.sh tProof, .sh i64, .sh i64], fun k x => iGetProof k x.1 x.2.1 x.2.2.1⟩
def S_ireadIncl : Sig := ⟨[.v tLimits, .p (.sh tl01Cur)], [.sh tIncl], fun k x => ireadIncl k x.1 x.2.1⟩
def S_iget_implIncl : Sig := ⟨[.v tLimits, .v bs, .v i64, .f 143], [.sh tIncl, .sh i64, .sh i64], fun k x => iget_implIncl k x.1 x.2.1 x.2.2.1⟩
def S_iGetIncl : Sig := ⟨[.v tLimits, .v bs, .v i64], [.sh tIncl, .sh i64, .sh i64], fun k x => iGetIncl k x.1 x.2.1 x.2.2.1⟩
def S_iDecode : Sig := ⟨[.v tLimits, .v bs], [.sh tMsg, .sh i64], fun k x => iDecode k x.1 x.2.1⟩
def S_iscan : Sig := ⟨[.v tLimits, .v bs, .v .bool, .v i64], [.own tEvent true, .sh i64, .sh i64], fun k x => iscan k x.1 x.2.1 x.2.2.1 x.2.2.2.1⟩
def S_iTreeSame : Sig := ⟨[.v (.slice bs), .v (.slice bs)], [.sh .bool], fun k x => iTreeSame k x.1 x.2.1⟩
def S_iQcSame : Sig := ⟨[.v tQc, .v tQc], [.sh .bool], fun k x => iQcSame k x.1 x.2.1⟩
def S_iHeadSame : Sig := ⟨[.v tHead, .v tHead], [.sh .bool], fun k x => iHeadSame k x.1 x.2.1⟩
def S_iBlockSame : Sig := ⟨[.v tBlock, .v tBlock], [.sh .bool], fun k x => iBlockSame k x.1 x.2.1⟩
def S_iTcSame : Sig := ⟨[.v tTc, .v tTc], [.sh .bool], fun k x => iTcSame k x.1 x.2.1⟩
def S_iheadsSame : Sig := ⟨[.v (.slice tHead), .v (.slice tHead)], [.sh .bool], fun k x => iheadsSame k x.1 x.2.1⟩
def S_iProofSame : Sig := ⟨[.v tProof, .v tProof], [.sh .bool], fun k x => iProofSame k x.1 x.2.1⟩
def S_iInclSame : Sig := ⟨[.v tIncl, .v tIncl], [.sh .bool], fun k x => iInclSame k x.1 x.2.1⟩
def S_iMsgSame : Sig := ⟨[.v tMsg, .v tMsg], [.sh .bool], fun k x => iMsgSame k x.1 x.2.1⟩
def S_iEventSame : Sig := ⟨[.v tEvent, .v tEvent], [.sh .bool], fun k x => iEventSame k x.1 x.2.1⟩
def S_sl20Pieces : Sig := ⟨[.p (.sh tl01Cur), .v bs], [.own bs true], fun k x => sl20Pieces k x.1 x.2.1⟩
def S_iPushOk : Sig := ⟨[.v tLimits, .v tPush], [.sh .bool], fun k x => iPushOk k x.1 x.2.1⟩
def S_iPush_copied : Sig := ⟨[.v tPush], [.sh tPush], fun k x => iPush_copied x.1⟩
def S_iFeed : Sig := ⟨[.v tLimits, .v tPush, .v bs], [.sh tPush, .own tEvent false], fun k x => iFeed k x.1 x.2.1 x.2.2.1⟩
def S_sl18Stream : Sig := ⟨[.p (.sh tl01Cur), .v tLimits], [.own u8 true], fun k x => sl18Stream k x.1 x.2.1⟩
def S_sl31Right : Sig := ⟨[.p (.sh tl01Cur), .v tLimits], [.sh tMsg], fun k x => sl31Right k x.1 x.2.1⟩
def S_sl10Draw : Sig := ⟨[.p (.sh tl01Cur)], [.sh tLimits], fun k x => sl10Draw x.1⟩
def S_iTableSame : Sig := ⟨[.v tTable, .v tTable], [.sh .bool], fun k x => iTableSame k x.1 x.2.1⟩
def S_iPathOk : Sig := ⟨[.v bs, .v i64, .v i64, .v (.slice bs), .v bs], [.sh .bool], fun k x => iPathOk k x.1 x.2.1 x.2.2.1 x.2.2.2.1 x.2.2.2.2.1⟩
def S_iLightOk : Sig := ⟨[.v tLight], [.sh .bool], fun k x => iLightOk k x.1⟩
def S_iKnown : Sig := ⟨[.v tLight, .v i64], [.sh tHead, .sh .bool], fun k x => iKnown k x.1 x.2.1⟩
def S_iTable_copied : Sig := ⟨[.v tTable], [.sh tTable], fun k x => iTable_copied k x.1⟩
def S_iLight_copied : Sig := ⟨[.v tLight], [.sh tLight], fun k x => iLight_copied k x.1⟩
def S_iLight_commit : Sig := ⟨[.v tLight, .v tProof], [.sh tLight, .sh i64], fun k x => iLight_commit k x.1 x.2.1⟩
def S_iTcCode : Sig := ⟨[.v tLimits, .v tTable, .v tTc], [.sh i64], fun k x => iTcCode k x.1 x.2.1 x.2.2.1⟩
def S_igoodOr : Sig := ⟨[.v i64], [.sh i64], fun k x => igoodOr x.1⟩
def S_iBuildQc : Sig := ⟨[.v tLimits, .v tTable, .v i64, .v i64, .v bs, .v bs], [.sh tQc, .sh .bool], fun k x => iBuildQc k x.1 x.2.1 x.2.2.1 x.2.2.2.1 x.2.2.2.2.1 x.2.2.2.2.2.1⟩
def S_sl30Full : Sig := ⟨[.v i64], [.own u8 false], fun k x => sl30Full k x.1⟩
def S_sNextHead : Sig := ⟨[.v tLimits, .v tTable, .v tHead, .v i64, .v i64, .v bs, .v bs], [.sh tHead, .sh .bool], fun k x => sNextHead k x.1 x.2.1 x.2.2.1 x.2.2.2.1 x.2.2.2.2.1 x.2.2.2.2.2.1 x.2.2.2.2.2.2.1⟩
def S_sFirstHead : Sig := ⟨[.v tLimits, .v tTable, .v i64, .v bs], [.sh tHead, .sh .bool], fun k x => sFirstHead k x.1 x.2.1 x.2.2.1 x.2.2.2.1⟩
def S_sl23Pair : Sig := ⟨[.p (.sh tl01Cur)], [.sh tLimits, .sh tTable], fun k x => sl23Pair k x.1⟩
def S_sl01New : Sig := ⟨[.v bs], [.pbox (.sh tl01Cur)], fun k x => sl01New k x.1⟩
def S_weqMsg : Sig := ⟨[.v tMsg, .v tMsg], [.sh .bool], fun k x => weqMsg k x.1 x.2.1⟩
def S_weqMsgS : Sig := ⟨[.v (.slice tMsg), .v (.slice tMsg)], [.sh .bool], fun k x => weqMsgS k x.1 x.2.1⟩
def S_wtoMsg : Sig := ⟨[.v tMsg], [.sh tMsg], fun k x => wtoMsg k x.1⟩
def S_wtoMsgS : Sig := ⟨[.v (.slice tMsg)], [.own tMsg true], fun k x => wtoMsgS k x.1⟩
def S_sFrames : Sig := ⟨[.v tLimits, .v (.slice tMsg)], [.own u8 false, .sh .bool], fun k x => sFrames k x.1 x.2.1⟩
def S_wszMsg : Sig := ⟨[.v tMsg, .v i64], [.sh i64], fun k x => wszMsg k x.1 x.2.1⟩
def S_wszMsgS : Sig := ⟨[.v (.slice tMsg), .v i64], [.sh i64], fun k x => wszMsgS k x.1 x.2.1⟩
def S_iSkipped : Sig := ⟨[.v (.slice tEvent)], [.sh i64], fun k x => iSkipped k x.1⟩
def S_iMsgs : Sig := ⟨[.v (.slice tEvent)], [.own tMsg true], fun k x => iMsgs k x.1⟩
def S_wheldByteS : Sig := ⟨[.v bs, .v i64], [.sh i64], fun k x => wheldByteS k x.1 x.2.1⟩
def S_iMsgOk : Sig := ⟨[.v tLimits, .v tMsg], [.sh .bool], fun k x => iMsgOk k x.1 x.2.1⟩
def S_iEncode : Sig := ⟨[.v tLimits, .v tMsg], [.own u8 false, .sh .bool], fun k x => iEncode k x.1 x.2.1⟩
def S_iFrames : Sig := ⟨[.v tLimits, .v (.slice tMsg)], [.own u8 false, .sh .bool], fun k x => iFrames k x.1 x.2.1⟩
def S_sMakeMsgs : Sig := ⟨[.v bs, .v tLimits], [.own tMsg true], fun k x => sMakeMsgs k x.1 x.2.1⟩
def S_sMakeBytes : Sig := ⟨[.v bs, .v i64], [.own u8 true], fun k x => sMakeBytes k x.1 x.2.1⟩
def S_sMsgSize : Sig := ⟨[.v tLimits, .v tMsg], [.sh i64], fun k x => sMsgSize k x.1 x.2.1⟩
def S_wtoLimits : Sig := ⟨[.v tLimits], [.sh tLimits], fun k x => wtoLimits x.1⟩
def S_iErName : Sig := ⟨[.v i64], [.sh .str], fun k x => iErName x.1⟩
def S_sMakeData : Sig := ⟨[.v bs, .v tLimits], [.own u8 false], fun k x => sMakeData k x.1 x.2.1⟩
def S_iClose : Sig := ⟨[.v tLimits, .v tPush], [.own tEvent false], fun k x => iClose k x.1 x.2.1⟩
def S_iParse : Sig := ⟨[.v tLimits, .v bs, .v .bool], [.own tEvent false], fun k x => iParse k x.1 x.2.1 x.2.2.1⟩
def S_iEventsSame : Sig := ⟨[.v (.slice tEvent), .v (.slice tEvent)], [.sh .bool], fun k x => iEventsSame k x.1 x.2.1⟩
def S_sMakePieces : Sig := ⟨[.v bs, .v bs], [.own bs true], fun k x => sMakePieces k x.1 x.2.1⟩
def S_iFeedAll : Sig := ⟨[.v tLimits, .v tPush, .v (.slice bs)], [.sh tPush, .own tEvent true], fun k x => iFeedAll k x.1 x.2.1 x.2.2.1⟩
def S_sMakeStream : Sig := ⟨[.v bs, .v tLimits], [.own u8 true], fun k x => sMakeStream k x.1 x.2.1⟩
def S_iMsgSize : Sig := ⟨[.v tLimits, .v tMsg], [.sh i64], fun k x => iMsgSize k x.1 x.2.1⟩
def S_sMakeNum : Sig := ⟨[.v bs, .v i64], [.sh i64], fun k x => sMakeNum k x.1 x.2.1⟩
def S_sMakeMsg : Sig := ⟨[.v bs, .v tLimits], [.sh tMsg], fun k x => sMakeMsg k x.1 x.2.1⟩
def S_sMakeLimits : Sig := ⟨[.v bs], [.sh tLimits], fun k x => sMakeLimits k x.1⟩
def S_iLightSame : Sig := ⟨[.v tLight, .v tLight], [.sh .bool], fun k x => iLightSame k x.1 x.2.1⟩
def S_iNextHead : Sig := ⟨[.v tLimits, .v tTable, .v tHead, .v i64, .v i64, .v bs, .v bs], [.sh tHead, .sh .bool], fun k x => iNextHead k x.1 x.2.1 x.2.2.1 x.2.2.2.1 x.2.2.2.2.1 x.2.2.2.2.2.1 x.2.2.2.2.2.2.1⟩
def S_sMakeHash : Sig := ⟨[.v bs, .v i64], [.own u8 true], fun k x => sMakeHash k x.1 x.2.1⟩
def S_iFirstHead : Sig := ⟨[.v tLimits, .v tTable, .v i64, .v bs], [.sh tHead, .sh .bool], fun k x => iFirstHead k x.1 x.2.1 x.2.2.1 x.2.2.2.1⟩
def S_iJudge : Sig := ⟨[.v tLight, .v tMsg], [.sh tLight, .sh i64], fun k x => iJudge k x.1 x.2.1⟩
def S_iBuildProof : Sig := ⟨[.v tLimits, .v tTable, .v (.slice tHead), .v bs], [.sh tProof, .sh .bool], fun k x => iBuildProof k x.1 x.2.1 x.2.2.1 x.2.2.2.1⟩
def S_iLightNew : Sig := ⟨[.v tLimits, .v tTable], [.sh tLight, .sh .bool], fun k x => iLightNew k x.1 x.2.1⟩
def S_sMakeFull : Sig := ⟨[.v i64], [.own u8 false], fun k x => sMakeFull k x.1⟩
def S_sMakeChain : Sig := ⟨[.v bs, .v i64], [.sh tLimits, .sh tTable, .own tHead true], fun k x => sMakeChain k x.1 x.2.1⟩
def S_wFnSkip : Sig := ⟨[.v bs], [.sh .bool], fun k x => wFnSkip k x.1⟩
def S_wFnFrames : Sig := ⟨[.v bs], [.sh .bool], fun k x => wFnFrames k x.1⟩
def S_wFnGarbage : Sig := ⟨[.v bs], [.sh .bool], fun k x => wFnGarbage k x.1⟩
def S_wFnExactMsgSize : Sig := ⟨[.v tLimits, .v tMsg], [.sh .bool], fun k x => wFnExactMsgSize k x.1 x.2.1⟩
def S_wFnExactMsgOk : Sig := ⟨[.v tLimits, .v tMsg], [.sh .bool], fun k x => wFnExactMsgOk k x.1 x.2.1⟩
def S_wFnStrict : Sig := ⟨[.v bs], [.sh .bool], fun k x => wFnStrict k x.1⟩
def S_wFnDecode : Sig := ⟨[.v bs], [.sh .bool], fun k x => wFnDecode k x.1⟩
def S_wFnChunk : Sig := ⟨[.v bs], [.sh .bool], fun k x => wFnChunk k x.1⟩
def S_wFnParts : Sig := ⟨[.v bs], [.sh .bool], fun k x => wFnParts k x.1⟩
def S_wFnClash : Sig := ⟨[.v bs], [.sh .bool], fun k x => wFnClash k x.1⟩
end Go.Ev.G
