/- The plain functions that the Go functions compute. No condition. -/
import Derived.Test.YtmbpdaffnabjcaaGreatEA
set_option linter.unusedVariables false
set_option linter.unusedSimpArgs false
set_option linter.unusedSectionVars false
/- The functions that the Go functions compute: printed by gen.py. -/
namespace Go.Ev.G
open Go.Ev
set_option linter.unusedVariables false
abbrev DLimits := Int × Int × Int × Int × Int × Unit
abbrev DPush := Int × (List Int) × Unit
abbrev DTable := (List DPush) × Unit
abbrev DQc := Int × Int × (List Int) × (List Int) × (List (List Int)) × Unit
abbrev DHead := Int × Int × Int × (List Int) × (List Int) × DQc × Unit
abbrev DLight := DLimits × DTable × DPush × (List DHead) × Unit
abbrev DProof := (List DHead) × DQc × Unit
abbrev DVote := Int × Int × (List Int) × Int × (List Int) × Unit
abbrev DBlock := DHead × (List (List Int)) × Unit
abbrev DEntry := Int × Int × (List Int) × Unit
abbrev DTc := Int × (List DEntry) × Unit
abbrev DIncl := Int × Int × Int × (List Int) × (List (List Int)) × Unit
abbrev DMsg := Int × DVote × DQc × DHead × DBlock × DTc × DProof × DIncl × Unit
abbrev DEvent := Int × Int × DMsg × Unit
abbrev Dl01Cur := (List Int) × Int × Int × Unit
abbrev Dwriter := (List Int) × Unit
abbrev i64 : Ty := .int .i64
abbrev u8 : Ty := .int .u8
abbrev bs : Ty := .slice u8
abbrev is : Ty := .slice i64
abbrev tLimits : Ty := .pair i64 (.pair i64 (.pair i64 (.pair i64 (.pair i64 (.unit)))))
abbrev tPush : Ty := .pair i64 (.pair bs (.unit))
abbrev tTable : Ty := .pair (.slice tPush) (.unit)
abbrev tQc : Ty := .pair i64 (.pair i64 (.pair bs (.pair bs (.pair (.slice bs) (.unit)))))
abbrev tHead : Ty := .pair i64 (.pair i64 (.pair i64 (.pair bs (.pair bs (.pair tQc (.unit))))))
abbrev tLight : Ty := .pair tLimits (.pair tTable (.pair tPush (.pair (.slice tHead) (.unit))))
abbrev tProof : Ty := .pair (.slice tHead) (.pair tQc (.unit))
abbrev tVote : Ty := .pair i64 (.pair i64 (.pair bs (.pair i64 (.pair bs (.unit)))))
abbrev tBlock : Ty := .pair tHead (.pair (.slice bs) (.unit))
abbrev tEntry : Ty := .pair i64 (.pair i64 (.pair bs (.unit)))
abbrev tTc : Ty := .pair i64 (.pair (.slice tEntry) (.unit))
abbrev tIncl : Ty := .pair i64 (.pair i64 (.pair i64 (.pair bs (.pair (.slice bs) (.unit)))))
abbrev tMsg : Ty := .pair i64 (.pair tVote (.pair tQc (.pair tHead (.pair tBlock (.pair tTc (.pair tProof (.pair tIncl (.unit))))))))
abbrev tEvent : Ty := .pair i64 (.pair i64 (.pair tMsg (.unit)))
abbrev tl01Cur : Ty := .pair bs (.pair i64 (.pair i64 (.unit)))
abbrev twriter : Ty := .pair bs (.unit)
def sShaInit : Option (List Int) :=
  some [1779033703, 3144134277, 1013904242, 2773480762, 1359893119, 2600822924, 528734635, 1541459225]
def sl01Copy (b0 : List Int) : Option (List Int) :=
  (app [] b0).bind fun v_1 =>
  some v_1
def sShaPad_l0 : Nat → (List Int) → (List Int) → Option (List Int × List Int)
  | 0, _, _ => none
  | k + 1, b0, out3 =>
    cond ((re (len out3) 64) != 56) (
      (app out3 [0]).bind fun v_3 =>
      sShaPad_l0 k b0 v_3) <|
    some (b0, out3)
def sShaPad_l2 : Nat → (List Int) → Int → Int → Option (List Int)
  | 0, _, _, _ => none
  | k + 1, out3, n4, i5 =>
    cond (decide (i5 ≥ 0)) (
      cond (decide ((mu .i64 8 i5) < 0)) none <|
      (app out3 [cv .u8 (sr .i64 n4 (mu .i64 8 i5))]).bind fun v_5 =>
      sShaPad_l2 k v_5 n4 (su .i64 i5 1)) <|
    some out3
def sShaPad (k : Nat) (b0 : List Int) : Option (List Int) :=
  (sl01Copy b0).bind fun v_1 =>
  (app v_1 [128]).bind fun v_2 =>
  (sShaPad_l0 k b0 v_2).bind fun v_4 =>
  (sShaPad_l2 k v_4.2 (mu .i64 8 (len v_4.1)) 7).bind fun v_6 =>
  some v_6
def sl01In (n0 : Int) (lo1 : Int) (hi2 : Int) : Option (Bool) :=
  cond (decide (n0 ≥ lo1)) (some (decide (n0 ≤ hi2))) <|
  some false
def sl04Word (x0 : Int) : Option (Bool) :=
  (sl01In x0 0 4294967295).bind fun v_1 =>
  some v_1
def sl04Turn (x0 : Int) (n1 : Int) : Option (Int) :=
  cond (decide (n1 < 0)) none <|
  cond (decide ((su .i64 32 n1) < 0)) none <|
  some (an .i64 (io .i64 (sr .i64 x0 n1) (sl .i64 x0 (su .i64 32 n1))) 4294967295)
def sl04K : Option (List Int) :=
  some [1116352408, 1899447441, 3049323471, 3921009573, 961987163, 1508970993, 2453635748, 2870763221, 3624381080, 310598401, 607225278, 1426881987, 1925078388, 2162078206, 2614888103, 3248222580, 3835390401, 4022224774, 264347078, 604807628, 770255983, 1249150122, 1555081692, 1996064986, 2554220882, 2821834349, 2952996808, 3210313671, 3336571891, 3584528711, 113926993, 338241895, 666307205, 773529912, 1294757372, 1396182291, 1695183700, 1986661051, 2177026350, 2456956037, 2730485921, 2820302411, 3259730800, 3345764771, 3516065817, 3600352804, 4094571909, 275423344, 430227734, 506948616, 659060556, 883997877, 958139571, 1322822218, 1537002063, 1747873779, 1955562222, 2024104815, 2227730452, 2361852424, 2428436474, 2756734187, 3204031479, 3329325298]
def sShaBlock_l0 : Nat → (List Int) → (List Int) → (List Int) → Int → Int → Option ((List Int × List Int) ⊕ (List Int))
  | 0, _, _, _, _, _ => none
  | k + 1, h0, b1, s31, s32, s33 =>
    cond (decide (s33 < s32)) (
      (rd s31 s33).bind fun v_1 =>
      (sl04Word v_1).bind fun v_2 =>
      cond (!v_2) (some (Sum.inr [])) <|
      sShaBlock_l0 k h0 b1 s31 s32 (ad .i64 s33 1)) <|
    some (Sum.inl (h0, b1))
def sShaBlock_l2 : Nat → (List Int) → (List Int) → (List Int) → Int → Option (List Int × List Int)
  | 0, _, _, _, _ => none
  | k + 1, h0, b1, w7, i8 =>
    cond (decide (i8 < 64)) (
      (rd b1 i8).bind fun v_6 =>
      (rd b1 (ad .i64 i8 1)).bind fun v_7 =>
      (rd b1 (ad .i64 i8 2)).bind fun v_8 =>
      (rd b1 (ad .i64 i8 3)).bind fun v_9 =>
      (app w7 [io .i64 (io .i64 (io .i64 (sl .i64 (cv .i64 v_6) 24) (sl .i64 (cv .i64 v_7) 16)) (sl .i64 (cv .i64 v_8) 8)) (cv .i64 v_9)]).bind fun v_10 =>
      sShaBlock_l2 k h0 b1 v_10 (ad .i64 i8 4)) <|
    some (h0, w7)
def sShaBlock_l4 : Nat → (List Int) → (List Int) → Int → Option (List Int × List Int)
  | 0, _, _, _ => none
  | k + 1, h0, w7, i9 =>
    cond (decide (i9 < 64)) (
      (rd w7 (su .i64 i9 15)).bind fun _v_12 =>
      (rd w7 (su .i64 i9 15)).bind fun v_13 =>
      (rd w7 (su .i64 i9 2)).bind fun _v_14 =>
      (rd w7 (su .i64 i9 2)).bind fun v_15 =>
      (sl04Turn v_13 7).bind fun v_16 =>
      (sl04Turn v_13 18).bind fun v_17 =>
      (sl04Turn v_15 17).bind fun v_18 =>
      (sl04Turn v_15 19).bind fun v_19 =>
      (rd w7 (su .i64 i9 16)).bind fun _v_20 =>
      (rd w7 (su .i64 i9 16)).bind fun v_21 =>
      (rd w7 (su .i64 i9 7)).bind fun _v_22 =>
      (rd w7 (su .i64 i9 7)).bind fun v_23 =>
      (app w7 [an .i64 (ad .i64 (ad .i64 (ad .i64 v_21 (xo .i64 (xo .i64 v_16 v_17) (sr .i64 v_13 3))) v_23) (xo .i64 (xo .i64 v_18 v_19) (sr .i64 v_15 10))) 4294967295]).bind fun v_24 =>
      sShaBlock_l4 k h0 v_24 (ad .i64 i9 1)) <|
    some (h0, w7)
def sShaBlock_l6 : Nat → (List Int) → (List Int) → (List Int) → (List Int) → Int → Option (List Int × List Int)
  | 0, _, _, _, _, _ => none
  | k + 1, h0, w7, k14, v15, i16 =>
    cond (decide (i16 < 64)) (
      (rd v15 4).bind fun _v_28 =>
      (rd v15 4).bind fun v_29 =>
      (rd v15 0).bind fun _v_30 =>
      (rd v15 0).bind fun v_31 =>
      (rd v15 7).bind fun _v_32 =>
      (rd v15 7).bind fun v_33 =>
      (sl04Turn v_29 6).bind fun v_34 =>
      (sl04Turn v_29 11).bind fun v_35 =>
      (sl04Turn v_29 25).bind fun v_36 =>
      (rd v15 5).bind fun _v_37 =>
      (rd v15 5).bind fun v_38 =>
      (rd v15 6).bind fun _v_39 =>
      (rd v15 6).bind fun v_40 =>
      (rd k14 i16).bind fun _v_41 =>
      (rd k14 i16).bind fun v_42 =>
      (rd w7 i16).bind fun _v_43 =>
      (rd w7 i16).bind fun v_44 =>
      (sl04Turn v_31 2).bind fun v_45 =>
      (sl04Turn v_31 13).bind fun v_46 =>
      (sl04Turn v_31 22).bind fun v_47 =>
      (rd v15 1).bind fun _v_48 =>
      (rd v15 1).bind fun v_49 =>
      (rd v15 2).bind fun _v_50 =>
      (rd v15 2).bind fun v_51 =>
      (rd v15 1).bind fun _v_52 =>
      (rd v15 1).bind fun v_53 =>
      (rd v15 2).bind fun _v_54 =>
      (rd v15 2).bind fun v_55 =>
      (rd v15 0).bind fun _v_56 =>
      (rd v15 0).bind fun v_57 =>
      (rd v15 1).bind fun _v_58 =>
      (rd v15 1).bind fun v_59 =>
      (rd v15 2).bind fun _v_60 =>
      (rd v15 2).bind fun v_61 =>
      (rd v15 3).bind fun _v_62 =>
      (rd v15 3).bind fun v_63 =>
      (rd v15 4).bind fun _v_64 =>
      (rd v15 4).bind fun v_65 =>
      (rd v15 5).bind fun _v_66 =>
      (rd v15 5).bind fun v_67 =>
      (rd v15 6).bind fun _v_68 =>
      (rd v15 6).bind fun v_69 =>
      sShaBlock_l6 k h0 w7 k14 [an .i64 (ad .i64 (ad .i64 (ad .i64 (ad .i64 (ad .i64 v_33 (xo .i64 (xo .i64 v_34 v_35) v_36)) (xo .i64 (an .i64 v_29 v_38) (an .i64 (xo .i64 4294967295 v_29) v_40))) v_42) v_44) (ad .i64 (xo .i64 (xo .i64 v_45 v_46) v_47) (xo .i64 (xo .i64 (an .i64 v_31 v_49) (an .i64 v_31 v_51)) (an .i64 v_53 v_55)))) 4294967295, v_57, v_59, v_61, an .i64 (ad .i64 v_63 (ad .i64 (ad .i64 (ad .i64 (ad .i64 v_33 (xo .i64 (xo .i64 v_34 v_35) v_36)) (xo .i64 (an .i64 v_29 v_38) (an .i64 (xo .i64 4294967295 v_29) v_40))) v_42) v_44)) 4294967295, v_65, v_67, v_69] (ad .i64 i16 1)) <|
    some (h0, v15)
def sShaBlock_l8 : Nat → (List Int) → (List Int) → (List Int) → Int → Int → Option (List Int)
  | 0, _, _, _, _, _ => none
  | k + 1, h0, v15, out21, s235, s236 =>
    cond (decide (s236 < s235)) (
      (rd h0 s236).bind fun v_71 =>
      (rd v15 s236).bind fun _v_72 =>
      (rd v15 s236).bind fun v_73 =>
      (app out21 [an .i64 (ad .i64 v_71 v_73) 4294967295]).bind fun v_74 =>
      sShaBlock_l8 k h0 v15 v_74 s235 (ad .i64 s236 1)) <|
    some out21
def sShaBlock (k : Nat) (h0 : List Int) (b1 : List Int) : Option (List Int) :=
  cond ((len h0) != 8) (some []) <|
  cond ((len b1) != 64) (some []) <|
  (sShaBlock_l0 k h0 b1 h0 (len h0) 0).bind fun v_3 =>
  sumE v_3 (fun v_4 =>
    (sShaBlock_l2 k v_4.1 v_4.2 [] 0).bind fun v_11 =>
    (sShaBlock_l4 k v_11.1 v_11.2 16).bind fun v_25 =>
    sl04K.bind fun v_26 =>
    (app [] v_25.1).bind fun v_27 =>
    (sShaBlock_l6 k v_25.1 v_25.2 v_26 v_27 0).bind fun v_70 =>
    (sShaBlock_l8 k v_70.1 v_70.2 [] (len v_70.1) 0).bind fun v_75 =>
    some v_75) fun v_5 =>
  some v_5
def sSha_l0 : Nat → (List Int) → (List Int) → Int → Option (List Int)
  | 0, _, _, _ => none
  | k + 1, h3, p4, i5 =>
    cond (decide (i5 < (len p4))) (
      (sub p4 i5 (ad .i64 i5 64)).bind fun _v_3 =>
      (sShaBlock k h3 (cut p4 i5 (ad .i64 i5 64))).bind fun v_4 =>
      sSha_l0 k v_4 p4 (ad .i64 i5 64)) <|
    some h3
def sSha_l2 : Nat → (List Int) → (List Int) → Int → Int → Option (List Int)
  | 0, _, _, _, _ => none
  | k + 1, out6, s26, s27, s28 =>
    cond (decide (s28 < s27)) (
      (rd s26 s28).bind fun _v_6 =>
      (rd s26 s28).bind fun v_7 =>
      (app out6 [cv .u8 (sr .i64 v_7 24), cv .u8 (sr .i64 v_7 16), cv .u8 (sr .i64 v_7 8), cv .u8 v_7]).bind fun v_8 =>
      sSha_l2 k v_8 s26 s27 (ad .i64 s28 1)) <|
    some out6
def sSha (k : Nat) (b0 : List Int) : Option (List Int) :=
  sShaInit.bind fun v_1 =>
  (sShaPad k b0).bind fun v_2 =>
  (sSha_l0 k v_1 v_2 0).bind fun v_5 =>
  (sSha_l2 k [] v_5 (len v_5) 0).bind fun v_9 =>
  some v_9
def sNodeHash (k : Nat) (a0 : List Int) (b1 : List Int) : Option (List Int) :=
  (app [1] a0).bind fun v_1 =>
  (app v_1 b1).bind fun v_2 =>
  (sSha k v_2).bind fun v_3 =>
  some v_3
def sLeafHash (k : Nat) (x0 : List Int) : Option (List Int) :=
  (app [0] x0).bind fun v_1 =>
  (sSha k v_1).bind fun v_2 =>
  some v_2
def sMacKey_l0 : Nat → (List Int) → Option (List Int)
  | 0, _ => none
  | k + 1, k3 =>
    cond (decide ((len k3) < 64)) (
      (app k3 [0]).bind fun v_3 =>
      sMacKey_l0 k v_3) <|
    some k3
def sMacKey (k : Nat) (key0 : List Int) : Option (List Int) :=
  (sl01Copy key0).bind fun v_1 =>
  cond (decide ((len v_1) > 64)) (
    (sSha k v_1).bind fun v_2 =>
    (sMacKey_l0 k v_2).bind fun v_4 =>
    some v_4) <|
  (sMacKey_l0 k v_1).bind fun v_5 =>
  some v_5
def sl03Turn (c0 : Int) : Option (Int) :=
  cond ((re c0 2) == 1) (some (xo .i64 (qu .i64 c0 2) 3988292384)) <|
  some (qu .i64 c0 2)
def sl03Sum (c0 : Int) : Option (Bool) :=
  (sl01In c0 0 4294967295).bind fun v_1 =>
  some v_1
def sl16Fits (p0 : DProof) : Option (Bool) :=
  (rd p0.1 (su .i64 (len p0.1) 1)).bind fun v_1 =>
  cond (p0.2.1.1 == v_1.1) (some (p0.2.1.2.1 == v_1.2.1)) <|
  some false
def sl01Num (n0 : Int) : Option (Bool) :=
  (sl01In n0 0 1152921504606846975).bind fun v_1 =>
  some v_1
def sPutVar_l0 : Nat → Int → (List Int) → Option (Int × List Int)
  | 0, _, _ => none
  | k + 1, n1, out6 =>
    cond (decide (n1 > 127)) (
      (app out6 [cv .u8 (ad .i64 128 (re n1 128))]).bind fun v_3 =>
      sPutVar_l0 k (qu .i64 n1 128) v_3) <|
    some (n1, out6)
def sPutVar (k : Nat) (b0 : List Int) (n1 : Int) : Option (List Int × Bool) :=
  (sl01Num n1).bind fun v_1 =>
  cond (!v_1) (some ([], false)) <|
  (sl01Copy b0).bind fun v_2 =>
  (sPutVar_l0 k n1 v_2).bind fun v_4 =>
  (app v_4.2 [cv .u8 v_4.1]).bind fun v_5 =>
  some (v_5, true)
def sSplitAt_l0 : Nat → Int → Int → Option (Int)
  | 0, _, _ => none
  | k + 1, n0, k3 =>
    cond (decide (k3 < (su .i64 n0 k3))) (sSplitAt_l0 k n0 (mu .i64 2 k3)) <|
    some k3
def sSplitAt (k : Nat) (n0 : Int) : Option (Int) :=
  cond (decide (n0 < 2)) (some 0) <|
  (sSplitAt_l0 k n0 1).bind fun v_1 =>
  some v_1
def sl08In (i0 : Int) (n1 : Int) : Option (Bool) :=
  (sl01In n1 1 1048576).bind fun v_1 =>
  cond v_1 (
    (sl01In i0 0 (su .i64 n1 1)).bind fun v_2 =>
    some v_2) <|
  some false
def sl06Copy_l0 : Nat → (List (List Int)) → (List (List Int)) → Int → Int → Option (List (List Int))
  | 0, _, _, _, _ => none
  | k + 1, out3, s7, s8, s9 =>
    cond (decide (s9 < s8)) (
      (rd s7 s9).bind fun v_1 =>
      (sl01Copy v_1).bind fun v_2 =>
      (app out3 [v_2]).bind fun v_3 =>
      sl06Copy_l0 k v_3 s7 s8 (ad .i64 s9 1)) <|
    some out3
def sl06Copy (k : Nat) (l0 : List (List Int)) : Option (List (List Int)) :=
  (sl06Copy_l0 k [] l0 (len l0) 0).bind fun v_4 =>
  some v_4
def sl12Copy (k : Nat) (q0 : DQc) : Option (DQc) :=
  (sl01Copy q0.2.2.1).bind fun v_1 =>
  (sl01Copy q0.2.2.2.1).bind fun v_2 =>
  (sl06Copy k q0.2.2.2.2.1).bind fun v_3 =>
  some (q0.1, q0.2.1, v_1, v_2, v_3, ())
def sl13Copy (k : Nat) (h0 : DHead) : Option (DHead) :=
  (sl01Copy h0.2.2.2.1).bind fun v_1 =>
  (sl01Copy h0.2.2.2.2.1).bind fun v_2 =>
  (sl12Copy k h0.2.2.2.2.2.1).bind fun v_3 =>
  some (h0.1, h0.2.1, h0.2.2.1, v_1, v_2, v_3, ())
def sl16Heads_l0 : Nat → (List DHead) → (List DHead) → Int → Int → Option (List DHead)
  | 0, _, _, _, _ => none
  | k + 1, out3, s7, s8, s9 =>
    cond (decide (s9 < s8)) (
      (rd s7 s9).bind fun v_1 =>
      (sl13Copy k v_1).bind fun v_2 =>
      (app out3 [v_2]).bind fun v_3 =>
      sl16Heads_l0 k v_3 s7 s8 (ad .i64 s9 1)) <|
    some out3
def sl16Heads (k : Nat) (l0 : List DHead) : Option (List DHead) :=
  (sl16Heads_l0 k [] l0 (len l0) 0).bind fun v_4 =>
  some v_4
def sTreeRoot : Nat → (List (List Int)) → Option (List Int)
  | 0, _ => none
  | k + 1, l0 =>
  cond ((len l0) == 0) (
    (sSha k []).bind fun v_1 =>
    some v_1) <|
  cond ((len l0) == 1) (
    (rd l0 0).bind fun v_2 =>
    (sLeafHash k v_2).bind fun v_3 =>
    some v_3) <|
  (sSplitAt k (len l0)).bind fun v_4 =>
  (sub l0 0 v_4).bind fun v_5 =>
  (sTreeRoot k v_5).bind fun v_6 =>
  (sub l0 v_4 (len l0)).bind fun v_7 =>
  (sTreeRoot k v_7).bind fun v_8 =>
  (sNodeHash k v_6 v_8).bind fun v_9 =>
  some v_9
def isteps_l0 : Nat → Int → Int → Option (Int)
  | 0, _, _ => none
  | k + 1, c0, s4 =>
    cond (decide (s4 < 8)) (
      cond ((an .i64 c0 1) == 1) (isteps_l0 k (xo .i64 (sr .i64 c0 1) 3988292384) (ad .i64 s4 1)) <|
      isteps_l0 k (sr .i64 c0 1) (ad .i64 s4 1)) <|
    some c0
def isteps (k : Nat) (c0 : Int) : Option (Int) :=
  (isteps_l0 k c0 0).bind fun v_1 =>
  some v_1
def iwithin (n0 : Int) (low1 : Int) (high2 : Int) : Option (Bool) :=
  cond (decide (low1 ≤ n0)) (some (decide (n0 ≤ high2))) <|
  some false
def iisNum (n0 : Int) : Option (Bool) :=
  (iwithin n0 0 1152921504606846975).bind fun v_1 =>
  some v_1
def icopyBytes (b0 : List Int) : Option (List Int) :=
  (app [] b0).bind fun v_1 =>
  some v_1
def iPutVar_l0 : Nat → Int → (List Int) → Option (Int × List Int)
  | 0, _, _ => none
  | k + 1, n1, out6 =>
    cond (decide (n1 ≥ 128)) (
      (app out6 [cv .u8 (ad .i64 (re n1 128) 128)]).bind fun v_3 =>
      iPutVar_l0 k (qu .i64 n1 128) v_3) <|
    some (n1, out6)
def iPutVar (k : Nat) (b0 : List Int) (n1 : Int) : Option (Option (List Int) × Bool) :=
  (iisNum n1).bind fun v_1 =>
  cond (!v_1) (some (none, false)) <|
  (icopyBytes b0).bind fun v_2 =>
  (iPutVar_l0 k n1 v_2).bind fun v_4 =>
  (app v_4.2 [cv .u8 v_4.1]).bind fun v_5 =>
  some (some v_5, true)
def inumbers_l0 : Nat → (Option (List Int)) → (List Int) → Int → Int → Option ((Option (List Int)) ⊕ (Option (List Int)))
  | 0, _, _, _, _ => none
  | k + 1, out5, s12, s13, s14 =>
    optE out5 (
      cond (decide (s14 < s13)) (
        (rd s12 s14).bind fun v_2 =>
        (iPutVar k [] v_2).bind fun v_3 =>
        optE v_3.1 (
          cond (!v_3.2) (some (Sum.inr none)) <|
          inumbers_l0 k none s12 s13 (ad .i64 s14 1)) fun v_4 =>
        cond (!v_3.2) (some (Sum.inr none)) <|
        inumbers_l0 k (some v_4) s12 s13 (ad .i64 s14 1)) <|
      some (Sum.inl none)) fun v_1 =>
    cond (decide (s14 < s13)) (
      (rd s12 s14).bind fun v_5 =>
      (iPutVar k v_1 v_5).bind fun v_6 =>
      optE v_6.1 (
        cond (!v_6.2) (some (Sum.inr none)) <|
        inumbers_l0 k none s12 s13 (ad .i64 s14 1)) fun v_7 =>
      cond (!v_6.2) (some (Sum.inr none)) <|
      inumbers_l0 k (some v_7) s12 s13 (ad .i64 s14 1)) <|
    some (Sum.inl (some v_1))
def inumbers (k : Nat) (kind0 : Int) (n1 : List Int) : Option (Option (List Int)) :=
  (inumbers_l0 k (some [kind0]) n1 (len n1) 0).bind fun v_8 =>
  sumE v_8 (fun v_9 =>
    optE v_9 (
      some none) fun v_11 =>
    some (some v_11)) fun v_10 =>
  some v_10
def iLeaveBytes (k : Nat) (view0 : Int) (high1 : Int) : Option (Option (List Int)) :=
  (inumbers k 76 [view0, high1]).bind fun v_1 =>
  optE v_1 (
    some none) fun v_2 =>
  some (some v_2)
def imasked_l0 : Nat → Int → (List Int) → (List Int) → Int → Int → Option (List Int)
  | 0, _, _, _, _, _ => none
  | k + 1, x1, out5, s9, s10, s11 =>
    cond (decide (s11 < s10)) (
      (rd s9 s11).bind fun v_1 =>
      (app out5 [xo .u8 v_1 x1]).bind fun v_2 =>
      imasked_l0 k x1 v_2 s9 s10 (ad .i64 s11 1)) <|
    some out5
def imasked (k : Nat) (b0 : List Int) (x1 : Int) : Option (List Int) :=
  (imasked_l0 k x1 [] b0 (len b0) 0).bind fun v_3 =>
  some v_3
def iShaInit : Option (List Int) :=
  some [1779033703, 3144134277, 1013904242, 2773480762, 1359893119, 2600822924, 528734635, 1541459225]
def iShaPad_l0 : Nat → (List Int) → (List Int) → Option (List Int × List Int)
  | 0, _, _ => none
  | k + 1, b0, out3 =>
    cond ((re (len out3) 64) != 56) (
      (app out3 [0]).bind fun v_3 =>
      iShaPad_l0 k b0 v_3) <|
    some (b0, out3)
def iShaPad_l2 : Nat → (List Int) → (List Int) → Int → Option (List Int)
  | 0, _, _, _ => none
  | k + 1, b0, out3, i4 =>
    cond (decide (i4 ≥ 0)) (
      cond (decide ((mu .i64 8 i4) < 0)) none <|
      (app out3 [cv .u8 (sr .i64 (mu .i64 8 (len b0)) (mu .i64 8 i4))]).bind fun v_5 =>
      iShaPad_l2 k b0 v_5 (su .i64 i4 1)) <|
    some out3
def iShaPad (k : Nat) (b0 : List Int) : Option (List Int) :=
  (icopyBytes b0).bind fun v_1 =>
  (app v_1 [128]).bind fun v_2 =>
  (iShaPad_l0 k b0 v_2).bind fun v_4 =>
  (iShaPad_l2 k v_4.1 v_4.2 7).bind fun v_6 =>
  some v_6
def iisWord (x0 : Int) : Option (Bool) :=
  (iwithin x0 0 4294967295).bind fun v_1 =>
  some v_1
def irounds : Option (List Int) :=
  some [1116352408, 1899447441, 3049323471, 3921009573, 961987163, 1508970993, 2453635748, 2870763221, 3624381080, 310598401, 607225278, 1426881987, 1925078388, 2162078206, 2614888103, 3248222580, 3835390401, 4022224774, 264347078, 604807628, 770255983, 1249150122, 1555081692, 1996064986, 2554220882, 2821834349, 2952996808, 3210313671, 3336571891, 3584528711, 113926993, 338241895, 666307205, 773529912, 1294757372, 1396182291, 1695183700, 1986661051, 2177026350, 2456956037, 2730485921, 2820302411, 3259730800, 3345764771, 3516065817, 3600352804, 4094571909, 275423344, 430227734, 506948616, 659060556, 883997877, 958139571, 1322822218, 1537002063, 1747873779, 1955562222, 2024104815, 2227730452, 2361852424, 2428436474, 2756734187, 3204031479, 3329325298]
def iTurnRight (x0 : Int) (n1 : Int) : Option (Int) :=
  (iisWord x0).bind fun v_1 =>
  cond (!v_1) (some 0) <|
  (iwithin n1 0 31).bind fun v_2 =>
  cond (!v_2) (some 0) <|
  cond (decide (n1 < 0)) none <|
  cond (decide ((su .i64 32 n1) < 0)) none <|
  some (an .i64 (io .i64 (sr .i64 x0 n1) (sl .i64 x0 (su .i64 32 n1))) 4294967295)
def iShaBlock_l0 : Nat → (List Int) → (List Int) → (List Int) → Int → Int → Option ((List Int × List Int) ⊕ (List Int))
  | 0, _, _, _, _, _ => none
  | k + 1, h0, b1, s33, s34, s35 =>
    cond (decide (s35 < s34)) (
      (rd s33 s35).bind fun v_1 =>
      (iisWord v_1).bind fun v_2 =>
      cond (!v_2) (some (Sum.inr [])) <|
      iShaBlock_l0 k h0 b1 s33 s34 (ad .i64 s35 1)) <|
    some (Sum.inl (h0, b1))
def iShaBlock_l2 : Nat → (List Int) → (List Int) → (List Int) → (List Int) → (List Int) → Int → Option (List Int × List Int × List Int × List Int)
  | 0, _, _, _, _, _, _ => none
  | k + 1, h0, b1, w7, k8, v9, s46 =>
    cond (decide (s46 < 16)) (
      (rd b1 (mu .i64 4 s46)).bind fun v_7 =>
      (rd b1 (ad .i64 (mu .i64 4 s46) 1)).bind fun v_8 =>
      (rd b1 (ad .i64 (mu .i64 4 s46) 2)).bind fun v_9 =>
      (rd b1 (ad .i64 (mu .i64 4 s46) 3)).bind fun v_10 =>
      (rd w7 s46).bind fun _v_11 =>
      (st w7 s46 (io .i64 (io .i64 (io .i64 (sl .i64 (cv .i64 v_7) 24) (sl .i64 (cv .i64 v_8) 16)) (sl .i64 (cv .i64 v_9) 8)) (cv .i64 v_10))).bind fun v_12 =>
      iShaBlock_l2 k h0 b1 v_12 k8 v9 (ad .i64 s46 1)) <|
    some (h0, w7, k8, v9)
def iShaBlock_l4 : Nat → (List Int) → (List Int) → (List Int) → (List Int) → Int → Option (List Int × List Int × List Int × List Int)
  | 0, _, _, _, _, _ => none
  | k + 1, h0, w7, k8, v9, i11 =>
    cond (decide (i11 < 64)) (
      (rd w7 (su .i64 i11 15)).bind fun _v_14 =>
      (rd w7 (su .i64 i11 15)).bind fun v_15 =>
      (rd w7 (su .i64 i11 2)).bind fun _v_16 =>
      (rd w7 (su .i64 i11 2)).bind fun v_17 =>
      (iTurnRight v_15 7).bind fun v_18 =>
      (iTurnRight v_15 18).bind fun v_19 =>
      (iTurnRight v_17 17).bind fun v_20 =>
      (iTurnRight v_17 19).bind fun v_21 =>
      (rd w7 (su .i64 i11 16)).bind fun _v_22 =>
      (rd w7 (su .i64 i11 16)).bind fun v_23 =>
      (rd w7 (su .i64 i11 7)).bind fun _v_24 =>
      (rd w7 (su .i64 i11 7)).bind fun v_25 =>
      (rd w7 i11).bind fun _v_26 =>
      (st w7 i11 (an .i64 (ad .i64 (ad .i64 (ad .i64 v_23 (xo .i64 (xo .i64 v_18 v_19) (sr .i64 v_15 3))) v_25) (xo .i64 (xo .i64 v_20 v_21) (sr .i64 v_17 10))) 4294967295)).bind fun v_27 =>
      iShaBlock_l4 k h0 v_27 k8 v9 (ad .i64 i11 1)) <|
    some (h0, w7, k8, v9)
def iShaBlock_l6 : Nat → (List Int) → (List Int) → (List Int) → (List Int) → Int → Option (List Int × List Int)
  | 0, _, _, _, _, _ => none
  | k + 1, h0, w7, k8, v9, s132 =>
    cond (decide (s132 < 64)) (
      (rd v9 4).bind fun _v_29 =>
      (rd v9 4).bind fun v_30 =>
      (rd v9 0).bind fun _v_31 =>
      (rd v9 0).bind fun v_32 =>
      (rd v9 5).bind fun _v_33 =>
      (rd v9 5).bind fun v_34 =>
      (rd v9 6).bind fun _v_35 =>
      (rd v9 6).bind fun v_36 =>
      (rd v9 1).bind fun _v_37 =>
      (rd v9 1).bind fun v_38 =>
      (rd v9 2).bind fun _v_39 =>
      (rd v9 2).bind fun v_40 =>
      (rd v9 1).bind fun _v_41 =>
      (rd v9 1).bind fun v_42 =>
      (rd v9 2).bind fun _v_43 =>
      (rd v9 2).bind fun v_44 =>
      (rd v9 7).bind fun _v_45 =>
      (rd v9 7).bind fun v_46 =>
      (iTurnRight v_30 6).bind fun v_47 =>
      (iTurnRight v_30 11).bind fun v_48 =>
      (iTurnRight v_30 25).bind fun v_49 =>
      (rd k8 s132).bind fun _v_50 =>
      (rd k8 s132).bind fun v_51 =>
      (rd w7 s132).bind fun _v_52 =>
      (rd w7 s132).bind fun v_53 =>
      (iTurnRight v_32 2).bind fun v_54 =>
      (iTurnRight v_32 13).bind fun v_55 =>
      (iTurnRight v_32 22).bind fun v_56 =>
      (rd v9 1).bind fun _v_57 =>
      (rd v9 1).bind fun v_58 =>
      (rd v9 2).bind fun _v_59 =>
      (rd v9 2).bind fun v_60 =>
      (rd v9 3).bind fun _v_61 =>
      (rd v9 3).bind fun v_62 =>
      (rd v9 5).bind fun _v_63 =>
      (rd v9 5).bind fun v_64 =>
      (rd v9 6).bind fun _v_65 =>
      (rd v9 6).bind fun v_66 =>
      iShaBlock_l6 k h0 w7 k8 [an .i64 (ad .i64 (ad .i64 (ad .i64 (ad .i64 (ad .i64 v_46 (xo .i64 (xo .i64 v_47 v_48) v_49)) (io .i64 (an .i64 v_30 v_34) (an .i64 (xo .i64 v_30 4294967295) v_36))) v_51) v_53) (ad .i64 (xo .i64 (xo .i64 v_54 v_55) v_56) (io .i64 (io .i64 (an .i64 v_32 v_38) (an .i64 v_32 v_40)) (an .i64 v_42 v_44)))) 4294967295, v_32, v_58, v_60, an .i64 (ad .i64 v_62 (ad .i64 (ad .i64 (ad .i64 (ad .i64 v_46 (xo .i64 (xo .i64 v_47 v_48) v_49)) (io .i64 (an .i64 v_30 v_34) (an .i64 (xo .i64 v_30 4294967295) v_36))) v_51) v_53)) 4294967295, v_30, v_64, v_66] (ad .i64 s132 1)) <|
    some (h0, v9)
def iShaBlock_l8 : Nat → (List Int) → (List Int) → (List Int) → Int → Option (List Int)
  | 0, _, _, _, _ => none
  | k + 1, h0, v9, out23, s218 =>
    cond (decide (s218 < 8)) (
      (rd h0 s218).bind fun v_68 =>
      (rd v9 s218).bind fun _v_69 =>
      (rd v9 s218).bind fun v_70 =>
      (app out23 [an .i64 (ad .i64 v_68 v_70) 4294967295]).bind fun v_71 =>
      iShaBlock_l8 k h0 v9 v_71 (ad .i64 s218 1)) <|
    some out23
def iShaBlock (k : Nat) (h0 : List Int) (b1 : List Int) : Option (List Int) :=
  cond ((len h0) != 8) (some []) <|
  cond ((len b1) != 64) (some []) <|
  (iShaBlock_l0 k h0 b1 h0 (len h0) 0).bind fun v_3 =>
  sumE v_3 (fun v_4 =>
    irounds.bind fun v_6 =>
    (iShaBlock_l2 k v_4.1 v_4.2 (List.replicate 64 0) v_6 (List.replicate 8 0) 0).bind fun v_13 =>
    (iShaBlock_l4 k v_13.1 v_13.2.1 v_13.2.2.1 v_13.2.2.2 16).bind fun v_28 =>
    (iShaBlock_l6 k v_28.1 v_28.2.1 v_28.2.2.1 (cpy v_28.2.2.2 v_28.1) 0).bind fun v_67 =>
    (iShaBlock_l8 k v_67.1 v_67.2 [] 0).bind fun v_72 =>
    some v_72) fun v_5 =>
  some v_5
def iSha_l0 : Nat → (List Int) → (List Int) → Int → Option (List Int)
  | 0, _, _, _ => none
  | k + 1, h3, padded4, i5 =>
    cond (decide (i5 < (len padded4))) (
      (sub padded4 i5 (ad .i64 i5 64)).bind fun _v_3 =>
      (iShaBlock k h3 (cut padded4 i5 (ad .i64 i5 64))).bind fun v_4 =>
      iSha_l0 k v_4 padded4 (ad .i64 i5 64)) <|
    some h3
def iSha_l2 : Nat → (List Int) → (List Int) → Int → Int → Option (List Int)
  | 0, _, _, _, _ => none
  | k + 1, out6, s26, s27, s28 =>
    cond (decide (s28 < s27)) (
      (rd s26 s28).bind fun _v_6 =>
      (rd s26 s28).bind fun v_7 =>
      (app out6 [cv .u8 (sr .i64 v_7 24), cv .u8 (sr .i64 v_7 16), cv .u8 (sr .i64 v_7 8), cv .u8 v_7]).bind fun v_8 =>
      iSha_l2 k v_8 s26 s27 (ad .i64 s28 1)) <|
    some out6
def iSha (k : Nat) (b0 : List Int) : Option (List Int) :=
  iShaInit.bind fun v_1 =>
  (iShaPad k b0).bind fun v_2 =>
  (iSha_l0 k v_1 v_2 0).bind fun v_5 =>
  (iSha_l2 k [] v_5 (len v_5) 0).bind fun v_9 =>
  some v_9
def iMacKey (k : Nat) (key0 : List Int) : Option (List Int) :=
  cond (decide ((len key0) > 64)) (
    (iSha k key0).bind fun v_1 =>
    (mk 64 0).bind fun v_2 =>
    some (cpy v_2 v_1)) <|
  (mk 64 0).bind fun v_3 =>
  some (cpy v_3 key0)
def sMac_l0 : Nat → (List Int) → (List Int) → (List Int) → (List Int) → Int → Int → Option (List Int × List Int × List Int)
  | 0, _, _, _, _, _, _ => none
  | k + 1, b1, inner5, outer6, s12, s13, s14 =>
    cond (decide (s14 < s13)) (
      (rd s12 s14).bind fun _v_2 =>
      (rd s12 s14).bind fun v_3 =>
      (app inner5 [xo .u8 v_3 54]).bind fun v_4 =>
      (app outer6 [xo .u8 v_3 92]).bind fun v_5 =>
      sMac_l0 k b1 v_4 v_5 s12 s13 (ad .i64 s14 1)) <|
    some (b1, inner5, outer6)
def sMac (k : Nat) (key0 : List Int) (b1 : List Int) : Option (List Int) :=
  (sMacKey k key0).bind fun v_1 =>
  (sMac_l0 k b1 [] [] v_1 (len v_1) 0).bind fun v_6 =>
  (app v_6.2.1 v_6.1).bind fun v_7 =>
  (sSha k v_7).bind fun v_8 =>
  (app v_6.2.2 v_8).bind fun v_9 =>
  (sSha k v_9).bind fun v_10 =>
  some v_10
def sl07Hash (h0 : List Int) : Option (Bool) :=
  some ((len h0) == 32)
def sl11Num (k : Nat) (b0 : List Int) (n1 : Int) : Option (List Int) :=
  (sPutVar k b0 n1).bind fun v_1 =>
  some v_1.1
def sVoteBytes (k : Nat) (view0 : Int) (height1 : Int) (block2 : List Int) : Option (List Int) :=
  (sl01Num view0).bind fun v_1 =>
  cond (!v_1) (some []) <|
  (sl01Num height1).bind fun v_2 =>
  cond (!v_2) (some []) <|
  (sl07Hash block2).bind fun v_3 =>
  cond (!v_3) (some []) <|
  (sl11Num k [86] view0).bind fun v_4 =>
  (sl11Num k v_4 height1).bind fun v_5 =>
  (app v_5 block2).bind fun v_6 =>
  some v_6
def sBitsHas (b0 : List Int) (i1 : Int) : Option (Bool) :=
  cond (decide (i1 ≥ 0)) (
    cond (decide ((qu .i64 i1 8) < (len b0))) (
      (rd b0 (qu .i64 i1 8)).bind fun v_1 =>
      cond (decide ((re i1 8) < 0)) none <|
      some ((re (sr .i64 (cv .i64 v_1) (re i1 8)) 2) == 1)) <|
    some false) <|
  some false
def sl08Hashes_l0 : Nat → (List (List Int)) → Int → Int → Option ((Unit) ⊕ (Bool))
  | 0, _, _, _ => none
  | k + 1, s5, s6, s7 =>
    cond (decide (s7 < s6)) (
      (rd s5 s7).bind fun v_1 =>
      (sl07Hash v_1).bind fun v_2 =>
      cond (!v_2) (some (Sum.inr false)) <|
      sl08Hashes_l0 k s5 s6 (ad .i64 s7 1)) <|
    some (Sum.inl ())
def sl08Hashes (k : Nat) (l0 : List (List Int)) : Option (Bool) :=
  (sl08Hashes_l0 k l0 (len l0) 0).bind fun v_3 =>
  sumE v_3 (fun v_4 =>
    some true) fun v_5 =>
  some v_5
def sCrcMore_l2 : Nat → Int → Int → (List Int) → Int → Int → Option (Int × List Int × Int × Int)
  | 0, _, _, _, _, _ => none
  | k + 1, x5, i8, s14, s15, s16 =>
    cond (decide (i8 < 8)) (
      (sl03Turn x5).bind fun v_3 =>
      sCrcMore_l2 k v_3 (ad .i64 i8 1) s14 s15 s16) <|
    some (x5, s14, s15, s16)
def sCrcMore_l0 : Nat → Int → (List Int) → Int → Int → Option (Int)
  | 0, _, _, _, _ => none
  | k + 1, x5, s14, s15, s16 =>
    cond (decide (s16 < s15)) (
      (rd s14 s16).bind fun v_2 =>
      (sCrcMore_l2 k (xo .i64 x5 (cv .i64 v_2)) 0 s14 s15 s16).bind fun v_4 =>
      sCrcMore_l0 k v_4.1 v_4.2.1 v_4.2.2.1 (ad .i64 v_4.2.2.2 1)) <|
    some x5
def sCrcMore (k : Nat) (c0 : Int) (b1 : List Int) : Option (Int) :=
  (sl03Sum c0).bind fun v_1 =>
  cond (!v_1) (some 0) <|
  (sCrcMore_l0 k (xo .i64 c0 4294967295) b1 (len b1) 0).bind fun v_5 =>
  some (xo .i64 v_5 4294967295)
def weqByteS_l0 : Nat → (List Int) → (List Int) → Int → Option ((Unit) ⊕ (Bool))
  | 0, _, _, _ => none
  | k + 1, a0, b1, i5 =>
    cond (decide (i5 < (len a0))) (
      (rd a0 i5).bind fun v_1 =>
      (rd b1 i5).bind fun v_2 =>
      cond (v_1 != v_2) (some (Sum.inr false)) <|
      weqByteS_l0 k a0 b1 (ad .i64 i5 1)) <|
    some (Sum.inl ())
def weqByteS (k : Nat) (a0 : List Int) (b1 : List Int) : Option (Bool) :=
  cond ((len a0) != (len b1)) (some false) <|
  (weqByteS_l0 k a0 b1 0).bind fun v_3 =>
  sumE v_3 (fun v_4 =>
    some true) fun v_5 =>
  some v_5
def weqEntry (k : Nat) (a0 : DEntry) (b1 : DEntry) : Option (Bool) :=
  cond (a0.1 != b1.1) (some false) <|
  cond (a0.2.1 != b1.2.1) (some false) <|
  (weqByteS k a0.2.2.1 b1.2.2.1).bind fun v_1 =>
  cond (!v_1) (some false) <|
  some true
def wtoByteS_l0 : Nat → (List Int) → (List Int) → Int → Option (List Int)
  | 0, _, _, _ => none
  | k + 1, a0, out3, i4 =>
    cond (decide (i4 < (len a0))) (
      (rd a0 i4).bind fun v_2 =>
      (rd out3 i4).bind fun _v_3 =>
      (st out3 i4 v_2).bind fun v_4 =>
      wtoByteS_l0 k a0 v_4 (ad .i64 i4 1)) <|
    some out3
def wtoByteS (k : Nat) (a0 : List Int) : Option (List Int) :=
  (mk (len a0) 0).bind fun v_1 =>
  (wtoByteS_l0 k a0 v_1 0).bind fun v_5 =>
  some v_5
def wtoEntry (k : Nat) (a0 : DEntry) : Option (DEntry) :=
  (wtoByteS k a0.2.2.1).bind fun v_1 =>
  some (a0.1, a0.2.1, v_1, ())
def sl02Signers (n0 : Int) : Option (Bool) :=
  (sl01In n0 1 10).bind fun v_1 =>
  some v_1
def sLimitsOk (l0 : DLimits) : Option (Bool) :=
  (sl02Signers l0.1).bind fun v_1 =>
  cond v_1 (
    (sl01In l0.2.1 0 40).bind fun v_2 =>
    cond v_2 (
      (sl01In l0.2.2.1 0 8).bind fun v_3 =>
      cond v_3 (
        (sl01In l0.2.2.2.1 1 4000).bind fun v_4 =>
        cond v_4 (
          (sl01In l0.2.2.2.2.1 3 5).bind fun v_5 =>
          some v_5) <|
        some false) <|
      some false) <|
    some false) <|
  some false
def sPathLen : Nat → Int → Int → Option (Int)
  | 0, _, _ => none
  | k + 1, i0, n1 =>
  (sl08In i0 n1).bind fun v_1 =>
  cond (!v_1) (some 0) <|
  cond (n1 == 1) (some 0) <|
  (sSplitAt k n1).bind fun v_2 =>
  cond (decide (i0 < v_2)) (
    (sPathLen k i0 v_2).bind fun v_3 =>
    some (ad .i64 1 v_3)) <|
  (sPathLen k (su .i64 i0 v_2) (su .i64 n1 v_2)).bind fun v_4 =>
  some (ad .i64 1 v_4)
def sInclOk (k : Nat) (l0 : DLimits) (x1 : DIncl) : Option (Bool) :=
  (sLimitsOk l0).bind fun v_1 =>
  cond v_1 (
    (sl01Num x1.1).bind fun v_2 =>
    cond v_2 (
      (sl01In x1.2.1 1 l0.2.2.1).bind fun v_3 =>
      cond v_3 (
        (sl01In x1.2.2.1 0 (su .i64 x1.2.1 1)).bind fun v_4 =>
        cond v_4 (
          cond (decide ((len x1.2.2.2.1) ≤ l0.2.1)) (
            (sPathLen k x1.2.2.1 x1.2.1).bind fun v_5 =>
            cond ((len x1.2.2.2.2.1) == v_5) (
              (sl08Hashes k x1.2.2.2.2.1).bind fun v_6 =>
              some v_6) <|
            some false) <|
          some false) <|
        some false) <|
      some false) <|
    some false) <|
  some false
def sBitsSize (n0 : Int) : Option (Int) :=
  cond (decide (n0 < 1)) (some 0) <|
  some (ad .i64 (qu .i64 (su .i64 n0 1) 8) 1)
def sBitsList_l0 : Nat → (List Int) → (List Int) → Int → Option (List Int)
  | 0, _, _, _ => none
  | k + 1, b0, out3, i4 =>
    cond (decide (i4 < (mu .i64 8 (len b0)))) (
      (sBitsHas b0 i4).bind fun v_1 =>
      cond v_1 (
        (app out3 [i4]).bind fun v_2 =>
        sBitsList_l0 k b0 v_2 (ad .i64 i4 1)) <|
      sBitsList_l0 k b0 out3 (ad .i64 i4 1)) <|
    some out3
def sBitsList (k : Nat) (b0 : List Int) : Option (List Int) :=
  (sBitsList_l0 k b0 [] 0).bind fun v_3 =>
  some v_3
def sBitsOk (k : Nat) (b0 : List Int) (n1 : Int) : Option (Bool) :=
  (sl02Signers n1).bind fun v_1 =>
  cond (!v_1) (some false) <|
  (sBitsSize n1).bind fun v_2 =>
  cond ((len b0) != v_2) (some false) <|
  (sBitsList k b0).bind fun v_3 =>
  cond ((len v_3) == 0) (some true) <|
  (rd v_3 (su .i64 (len v_3) 1)).bind fun _v_4 =>
  (rd v_3 (su .i64 (len v_3) 1)).bind fun v_5 =>
  some (decide (v_5 < n1))
def sBitsCount (k : Nat) (b0 : List Int) : Option (Int) :=
  (sBitsList k b0).bind fun v_1 =>
  some (len v_1)
def sQcOk (k : Nat) (l0 : DLimits) (q1 : DQc) : Option (Bool) :=
  (sLimitsOk l0).bind fun v_1 =>
  cond v_1 (
    (sl01Num q1.1).bind fun v_2 =>
    cond v_2 (
      (sl01Num q1.2.1).bind fun v_3 =>
      cond v_3 (
        (sl07Hash q1.2.2.1).bind fun v_4 =>
        cond v_4 (
          (sBitsOk k q1.2.2.2.1 l0.1).bind fun v_5 =>
          cond v_5 (
            (sBitsCount k q1.2.2.2.1).bind fun v_6 =>
            cond ((len q1.2.2.2.2.1) == v_6) (
              (sl08Hashes k q1.2.2.2.2.1).bind fun v_7 =>
              some v_7) <|
            some false) <|
          some false) <|
        some false) <|
      some false) <|
    some false) <|
  some false
def sSameBytes (a0 : List Int) (b1 : List Int) : Option (Bool) :=
  some ((a0 : List Int) == b1)
def sl13Fits (h0 : DHead) : Option (Bool) :=
  cond (decide (h0.2.2.2.2.2.1.1 < h0.1)) (
    cond (h0.2.2.2.2.2.1.2.1 == (su .i64 h0.2.1 1)) (
      (sSameBytes h0.2.2.2.2.2.1.2.2.1 h0.2.2.2.1).bind fun v_1 =>
      some v_1) <|
    some false) <|
  some false
def sHeadOk (k : Nat) (l0 : DLimits) (h1 : DHead) : Option (Bool) :=
  (sLimitsOk l0).bind fun v_1 =>
  cond v_1 (
    (sl01Num h1.1).bind fun v_2 =>
    cond v_2 (
      (sl01In h1.2.1 1 1152921504606846975).bind fun v_3 =>
      cond v_3 (
        (sl01In h1.2.2.1 0 (su .i64 l0.1 1)).bind fun v_4 =>
        cond v_4 (
          (sl07Hash h1.2.2.2.1).bind fun v_5 =>
          cond v_5 (
            (sl07Hash h1.2.2.2.2.1).bind fun v_6 =>
            cond v_6 (
              (sQcOk k l0 h1.2.2.2.2.2.1).bind fun v_7 =>
              cond v_7 (
                (sl13Fits h1).bind fun v_8 =>
                some v_8) <|
              some false) <|
            some false) <|
          some false) <|
        some false) <|
      some false) <|
    some false) <|
  some false
def sProofOk_l0 : Nat → DLimits → DProof → (List DHead) → Int → Int → Option ((DLimits × DProof) ⊕ (Bool))
  | 0, _, _, _, _, _ => none
  | k + 1, l2, p3, s20, s21, s22 =>
    cond (decide (s22 < s21)) (
      (rd s20 s22).bind fun v_3 =>
      (sHeadOk k l2 v_3).bind fun v_4 =>
      cond (!v_4) (some (Sum.inr false)) <|
      sProofOk_l0 k l2 p3 s20 s21 (ad .i64 s22 1)) <|
    some (Sum.inl (l2, p3))
def sProofOk (k : Nat) (l0 : DLimits) (p1 : DProof) : Option (Bool) :=
  (sLimitsOk l0).bind fun v_1 =>
  cond (!v_1) (some false) <|
  (sl01In (len p1.1) 3 l0.2.2.2.2.1).bind fun v_2 =>
  cond (!v_2) (some false) <|
  (sProofOk_l0 k l0 p1 p1.1 (len p1.1) 0).bind fun v_5 =>
  sumE v_5 (fun v_6 =>
    (sQcOk k v_6.1 v_6.2.2.1).bind fun v_8 =>
    cond v_8 (
      (sl16Fits v_6.2).bind fun v_9 =>
      some v_9) <|
    some false) fun v_7 =>
  some v_7
def sTcOk_l0 : Nat → DLimits → DTc → (List DEntry) → Int → Int → Option ((Unit) ⊕ (Bool))
  | 0, _, _, _, _, _ => none
  | k + 1, l2, t3, s25, s26, s27 =>
    cond (decide (s27 < s26)) (
      (rd s25 s27).bind fun v_3 =>
      (sl01In v_3.1 0 (su .i64 l2.1 1)).bind fun v_4 =>
      cond (!v_4) (some (Sum.inr false)) <|
      cond (decide (v_3.2.1 < 0)) (some (Sum.inr false)) <|
      cond (decide (v_3.2.1 ≥ t3.1)) (some (Sum.inr false)) <|
      (sl07Hash v_3.2.2.1).bind fun v_5 =>
      cond (!v_5) (some (Sum.inr false)) <|
      cond (decide (s27 > 0)) (
        (rd t3.2.1 (su .i64 s27 1)).bind fun v_6 =>
        cond (decide (v_6.1 ≥ v_3.1)) (some (Sum.inr false)) <|
        sTcOk_l0 k l2 t3 s25 s26 (ad .i64 s27 1)) <|
      sTcOk_l0 k l2 t3 s25 s26 (ad .i64 s27 1)) <|
    some (Sum.inl ())
def sTcOk (k : Nat) (l0 : DLimits) (t1 : DTc) : Option (Bool) :=
  (sLimitsOk l0).bind fun v_1 =>
  cond (!v_1) (some false) <|
  (sl01Num t1.1).bind fun v_2 =>
  cond (!v_2) (some false) <|
  cond (decide ((len t1.2.1) > l0.1)) (some false) <|
  (sTcOk_l0 k l0 t1 t1.2.1 (len t1.2.1) 0).bind fun v_7 =>
  sumE v_7 (fun v_8 =>
    some true) fun v_9 =>
  some v_9
def sPutText (k : Nat) (b0 : List Int) (x1 : List Int) : Option (List Int) :=
  (sPutVar k b0 (len x1)).bind fun v_1 =>
  (app v_1.1 x1).bind fun v_2 =>
  some v_2
def sBlockOk_l0 : Nat → DLimits → DBlock → (List (List Int)) → Int → Int → Option ((DBlock) ⊕ (Bool))
  | 0, _, _, _, _, _ => none
  | k + 1, l2, x3, s21, s22, s23 =>
    cond (decide (s23 < s22)) (
      (rd s21 s23).bind fun v_2 =>
      cond (decide ((len v_2) > l2.2.1)) (some (Sum.inr false)) <|
      sBlockOk_l0 k l2 x3 s21 s22 (ad .i64 s23 1)) <|
    some (Sum.inl x3)
def sBlockOk (k : Nat) (l0 : DLimits) (x1 : DBlock) : Option (Bool) :=
  (sHeadOk k l0 x1.1).bind fun v_1 =>
  cond (!v_1) (some false) <|
  cond (decide ((len x1.2.1) > l0.2.2.1)) (some false) <|
  (sBlockOk_l0 k l0 x1 x1.2.1 (len x1.2.1) 0).bind fun v_3 =>
  sumE v_3 (fun v_4 =>
    (sTreeRoot k v_4.2.1).bind fun v_6 =>
    (sSameBytes v_4.1.2.2.2.2.1 v_6).bind fun v_7 =>
    some v_7) fun v_5 =>
  some v_5
def sVoteOk (l0 : DLimits) (v1 : DVote) : Option (Bool) :=
  (sLimitsOk l0).bind fun v_1 =>
  cond v_1 (
    (sl01Num v1.1).bind fun v_2 =>
    cond v_2 (
      (sl01Num v1.2.1).bind fun v_3 =>
      cond v_3 (
        (sl07Hash v1.2.2.1).bind fun v_4 =>
        cond v_4 (
          (sl07Hash v1.2.2.2.2.1).bind fun v_5 =>
          cond v_5 (
            (sl01In v1.2.2.2.1 0 (su .i64 l0.1 1)).bind fun v_6 =>
            some v_6) <|
          some false) <|
        some false) <|
      some false) <|
    some false) <|
  some false
def sTreeSame_l0 : Nat → (List (List Int)) → (List (List Int)) → Int → Int → Option ((Unit) ⊕ (Bool))
  | 0, _, _, _, _ => none
  | k + 1, a0, b1, s12, s13 =>
    cond (decide (s13 < s12)) (
      (rd a0 s13).bind fun v_1 =>
      (rd b1 s13).bind fun v_2 =>
      (sSameBytes v_1 v_2).bind fun v_3 =>
      cond (!v_3) (some (Sum.inr false)) <|
      sTreeSame_l0 k a0 b1 s12 (ad .i64 s13 1)) <|
    some (Sum.inl ())
def sTreeSame (k : Nat) (a0 : List (List Int)) (b1 : List (List Int)) : Option (Bool) :=
  cond ((len a0) != (len b1)) (some false) <|
  (sTreeSame_l0 k a0 b1 (len a0) 0).bind fun v_4 =>
  sumE v_4 (fun v_5 =>
    some true) fun v_6 =>
  some v_6
def wszByteS (a0 : List Int) (left1 : Int) : Option (Int) :=
  cond (decide ((su .i64 left1 (len a0)) < 0)) (some (-1)) <|
  some (su .i64 left1 (len a0))
def wszEntry (a0 : DEntry) (left1 : Int) : Option (Int) :=
  (wszByteS a0.2.2.1 left1).bind fun v_1 =>
  cond (decide (v_1 < 0)) (some (-1)) <|
  some v_1
def sl16Incl (k : Nat) (x0 : DIncl) : Option (DIncl) :=
  (sl01Copy x0.2.2.2.1).bind fun v_1 =>
  (sl06Copy k x0.2.2.2.2.1).bind fun v_2 =>
  some (x0.1, x0.2.1, x0.2.2.1, v_1, v_2, ())
def sl01Byte (c0 : Dl01Cur) : Option (Int × Dl01Cur) :=
  cond (decide (c0.2.1 < (len c0.1))) (
    (rd c0.1 c0.2.1).bind fun v_1 =>
    some (an .i64 (ad .i64 (an .i64 (xo .i64 (sr .i64 (ad .i64 (mu .i64 c0.2.2.1 6364136223846793005) 1442695040888963407) 33) (sr .i64 (ad .i64 (mu .i64 c0.2.2.1 6364136223846793005) 1442695040888963407) 45)) 255) (cv .i64 v_1)) 255, c0.1, ad .i64 c0.2.1 1, ad .i64 (mu .i64 c0.2.2.1 6364136223846793005) 1442695040888963407, c0.2.2.2)) <|
  some (an .i64 (xo .i64 (sr .i64 (ad .i64 (mu .i64 c0.2.2.1 6364136223846793005) 1442695040888963407) 33) (sr .i64 (ad .i64 (mu .i64 c0.2.2.1 6364136223846793005) 1442695040888963407) 45)) 255, c0.1, c0.2.1, ad .i64 (mu .i64 c0.2.2.1 6364136223846793005) 1442695040888963407, c0.2.2.2)
def sl01Below (c0 : Dl01Cur) (n1 : Int) : Option (Int × Dl01Cur) :=
  cond (decide (n1 ≤ 0)) (some (0, c0)) <|
  cond (decide (n1 ≤ 256)) (
    (sl01Byte c0).bind fun v_1 =>
    cond (n1 == 0) none <|
    some (re v_1.1 n1, v_1.2)) <|
  (sl01Byte c0).bind fun v_2 =>
  (sl01Byte v_2.2).bind fun v_3 =>
  (sl01Byte v_3.2).bind fun v_4 =>
  (sl01Byte v_4.2).bind fun v_5 =>
  cond (n1 == 0) none <|
  some (re (ad .i64 (ad .i64 (ad .i64 (mu .i64 v_2.1 16777216) (mu .i64 v_3.1 65536)) (mu .i64 v_4.1 256)) v_5.1) n1, v_5.2)
def sl11Hash (c0 : Dl01Cur) : Option (List Int × Dl01Cur) :=
  (mk 32 0).bind fun v_1 =>
  (sl01Below c0 3).bind fun v_2 =>
  (rd v_1 0).bind fun _v_3 =>
  (st v_1 0 (cv .u8 v_2.1)).bind fun v_4 =>
  (sl01Byte v_2.2).bind fun v_5 =>
  (rd v_4 31).bind fun _v_6 =>
  (st v_4 31 (cv .u8 v_5.1)).bind fun v_7 =>
  some (v_7, v_5.2)
def sl01Pick (c0 : Dl01Cur) (l1 : List Int) : Option (Int × Dl01Cur) :=
  (sl01Below c0 (len l1)).bind fun v_1 =>
  (rd l1 v_1.1).bind fun v_2 =>
  some (v_2, v_1.2)
def sl01AnyNum (c0 : Dl01Cur) : Option (Int × Dl01Cur) :=
  (sl01Below c0 100).bind fun v_1 =>
  (sl01Below v_1.2 100000).bind fun v_2 =>
  (sl01Pick v_2.2 [0, 1, 127, 128, 300, 16383, 16384, 1152921504606846975, 1152921504606846974, v_1.1, v_2.1]).bind fun v_3 =>
  some v_3
def sBitsNew (n0 : Int) : Option (List Int) :=
  (sl02Signers n0).bind fun v_1 =>
  cond (!v_1) (some []) <|
  (sBitsSize n0).bind fun v_2 =>
  (mk v_2 0).bind fun v_3 =>
  some v_3
def sl01Once (c0 : Dl01Cur) (n1 : Int) : Option (Bool × Dl01Cur) :=
  (sl01Below c0 n1).bind fun v_1 =>
  some (v_1.1 == 0, v_1.2)
def sl02Draw_l0 : Nat → Dl01Cur → Int → (List Int) → Int → Option (Dl01Cur × List Int)
  | 0, _, _, _, _ => none
  | k + 1, c0, n1, b5, i6 =>
    cond (decide (i6 < n1)) (
      (sl01Once c0 3).bind fun v_2 =>
      cond (!v_2.1) (
        (rd b5 (qu .i64 i6 8)).bind fun _v_3 =>
        (rd b5 (qu .i64 i6 8)).bind fun v_4 =>
        cond (decide ((re i6 8) < 0)) none <|
        (rd b5 (qu .i64 i6 8)).bind fun _v_5 =>
        (st b5 (qu .i64 i6 8) (io .u8 v_4 (sl .u8 1 (re i6 8)))).bind fun v_6 =>
        sl02Draw_l0 k v_2.2 n1 v_6 (ad .i64 i6 1)) <|
      sl02Draw_l0 k v_2.2 n1 b5 (ad .i64 i6 1)) <|
    some (c0, b5)
def sl02Draw (k : Nat) (c0 : Dl01Cur) (n1 : Int) : Option (List Int × Dl01Cur) :=
  (sBitsNew n1).bind fun v_1 =>
  (sl02Draw_l0 k c0 n1 v_1 0).bind fun v_7 =>
  some (v_7.2, v_7.1)
def sl12Draw_l0 : Nat → Dl01Cur → DQc → DQc → Int → Option (Dl01Cur × DQc × DQc)
  | 0, _, _, _, _ => none
  | k + 1, c0, s4, q5, i6 =>
    cond (decide (i6 > 0)) (
      (sl11Hash c0).bind fun v_6 =>
      (app q5.2.2.2.2.1 [v_6.1]).bind fun v_7 =>
      sl12Draw_l0 k v_6.2 s4 (q5.1, q5.2.1, q5.2.2.1, q5.2.2.2.1, v_7, ()) (su .i64 i6 1)) <|
    some (c0, s4, q5)
def sl12Draw (k : Nat) (c0 : Dl01Cur) (l1 : DLimits) : Option (DQc × Dl01Cur) :=
  (sl01AnyNum c0).bind fun v_1 =>
  (sl01AnyNum v_1.2).bind fun v_2 =>
  (sl11Hash v_2.2).bind fun v_3 =>
  (sl02Draw k v_3.2 l1.1).bind fun v_4 =>
  (sBitsCount k v_4.1).bind fun v_5 =>
  (sl12Draw_l0 k v_4.2 (0, 0, [], [], [], ()) (v_1.1, v_2.1, v_3.1, v_4.1, [], ()) v_5).bind fun v_8 =>
  some (v_8.2.2, v_8.1)
def sl13Draw (k : Nat) (c0 : Dl01Cur) (l1 : DLimits) : Option (DHead × Dl01Cur) :=
  (sl01Below c0 200).bind fun v_1 =>
  (sl01Below v_1.2 200).bind fun v_2 =>
  (sl01Below v_2.2 l1.1).bind fun v_3 =>
  (sl11Hash v_3.2).bind fun v_4 =>
  (sl11Hash v_4.2).bind fun v_5 =>
  (sl12Draw k v_5.2 l1).bind fun v_6 =>
  (sl01Below v_6.2 (ad .i64 2 v_1.1)).bind fun v_7 =>
  (sl01Copy v_4.1).bind fun v_8 =>
  some ((ad .i64 2 v_1.1, ad .i64 1 v_2.1, v_3.1, v_4.1, v_5.1, (v_7.1, su .i64 (ad .i64 1 v_2.1) 1, v_8, v_6.1.2.2.2), ()), v_7.2)
def sPutQc_l0 : Nat → (List Int) → (List (List Int)) → Int → Int → Option (List Int)
  | 0, _, _, _, _ => none
  | k + 1, out8, s30, s31, s32 =>
    cond (decide (s32 < s31)) (
      (rd s30 s32).bind fun v_6 =>
      (app out8 v_6).bind fun v_7 =>
      sPutQc_l0 k v_7 s30 s31 (ad .i64 s32 1)) <|
    some out8
def sPutQc (k : Nat) (l0 : DLimits) (b1 : List Int) (q2 : DQc) : Option (List Int × Bool) :=
  (sQcOk k l0 q2).bind fun v_1 =>
  cond (!v_1) (some ([], false)) <|
  (sl11Num k b1 q2.1).bind fun v_2 =>
  (sl11Num k v_2 q2.2.1).bind fun v_3 =>
  (app v_3 q2.2.2.1).bind fun v_4 =>
  (app v_4 q2.2.2.2.1).bind fun v_5 =>
  (sPutQc_l0 k v_5 q2.2.2.2.2.1 (len q2.2.2.2.2.1) 0).bind fun v_8 =>
  some (v_8, true)
def sPutHead (k : Nat) (l0 : DLimits) (b1 : List Int) (h2 : DHead) : Option (List Int × Bool) :=
  (sHeadOk k l0 h2).bind fun v_1 =>
  cond (!v_1) (some ([], false)) <|
  (sl11Num k b1 h2.1).bind fun v_2 =>
  (sl11Num k v_2 h2.2.1).bind fun v_3 =>
  (sl11Num k v_3 h2.2.2.1).bind fun v_4 =>
  (app v_4 h2.2.2.2.1).bind fun v_5 =>
  (app v_5 h2.2.2.2.2.1).bind fun v_6 =>
  (sPutQc k l0 v_6 h2.2.2.2.2.2.1).bind fun v_7 =>
  some v_7
def sHeadHash (k : Nat) (l0 : DLimits) (h1 : DHead) : Option (List Int) :=
  (sPutHead k l0 [72] h1).bind fun v_1 =>
  cond (!v_1.2) (some []) <|
  (sSha k v_1.1).bind fun v_2 =>
  some v_2
def sl13Chain_l0 : Nat → Dl01Cur → Int → DLimits → (List DHead) → Option (Dl01Cur × List DHead)
  | 0, _, _, _, _ => none
  | k + 1, c0, n2, l4, out7 =>
    cond (decide ((len out7) < n2)) (
      (rd out7 (su .i64 (len out7) 1)).bind fun _v_2 =>
      (rd out7 (su .i64 (len out7) 1)).bind fun v_3 =>
      (sl13Draw k c0 l4).bind fun v_4 =>
      (sl01Below v_4.2 6).bind fun v_5 =>
      (sHeadHash k l4 v_3).bind fun v_6 =>
      (sl01Copy v_6).bind fun v_7 =>
      (app out7 [(ad .i64 (ad .i64 v_3.1 1) (qu .i64 v_5.1 5), ad .i64 v_3.2.1 1, v_4.1.2.2.1, v_6, v_4.1.2.2.2.2.1, (v_3.1, v_3.2.1, v_7, v_4.1.2.2.2.2.2.1.2.2.2), v_4.1.2.2.2.2.2.2)]).bind fun v_8 =>
      sl13Chain_l0 k v_5.2 n2 l4 v_8) <|
    some (c0, out7)
def sl13Chain (k : Nat) (c0 : Dl01Cur) (l1 : DLimits) (n2 : Int) : Option (List DHead × Dl01Cur) :=
  (sl13Draw k c0 l1).bind fun v_1 =>
  (sl13Chain_l0 k v_1.2 n2 l1 [v_1.1]).bind fun v_9 =>
  some (v_9.2, v_9.1)
def sl16Copy (k : Nat) (p0 : DProof) : Option (DProof) :=
  (sl16Heads k p0.1).bind fun v_1 =>
  (sl12Copy k p0.2.1).bind fun v_2 =>
  some (v_1, v_2, ())
def sl15Copy_l0 : Nat → DTc → DTc → (List DEntry) → Int → Int → Option (DTc × DTc)
  | 0, _, _, _, _, _ => none
  | k + 1, s2, out3, s10, s11, s12 =>
    cond (decide (s12 < s11)) (
      (rd s10 s12).bind fun v_1 =>
      (sl01Copy v_1.2.2.1).bind fun v_2 =>
      (app out3.2.1 [(v_1.1, v_1.2.1, v_2, ())]).bind fun v_3 =>
      sl15Copy_l0 k s2 (out3.1, v_3, ()) s10 s11 (ad .i64 s12 1)) <|
    some (s2, out3)
def sl15Copy (k : Nat) (t0 : DTc) : Option (DTc) :=
  (sl15Copy_l0 k (0, [], ()) (t0.1, [], ()) t0.2.1 (len t0.2.1) 0).bind fun v_4 =>
  some v_4.2
def sl01Bytes_l0 : Nat → Dl01Cur → (List Int) → Int → Option (Dl01Cur × List Int)
  | 0, _, _, _ => none
  | k + 1, c0, b5, n6 =>
    cond (decide (n6 > 0)) (
      (sl01Byte c0).bind fun v_2 =>
      (app b5 [cv .u8 v_2.1]).bind fun v_3 =>
      sl01Bytes_l0 k v_2.2 v_3 (su .i64 n6 1)) <|
    some (c0, b5)
def sl01Bytes (k : Nat) (c0 : Dl01Cur) (most1 : Int) : Option (List Int × Dl01Cur) :=
  (sl01Below c0 (ad .i64 most1 1)).bind fun v_1 =>
  (sl01Bytes_l0 k v_1.2 [] v_1.1).bind fun v_4 =>
  some (v_4.2, v_4.1)
def sl14Txs_l0 : Nat → Dl01Cur → DLimits → (List (List Int)) → Int → Option (Dl01Cur × List (List Int))
  | 0, _, _, _, _ => none
  | k + 1, c0, l3, txs5, n6 =>
    cond (decide (n6 > 0)) (
      cond (decide (l3.2.1 > 6)) (
        (sl01Bytes k c0 6).bind fun v_2 =>
        (app txs5 [v_2.1]).bind fun v_3 =>
        sl14Txs_l0 k v_2.2 l3 v_3 (su .i64 n6 1)) <|
      (sl01Bytes k c0 l3.2.1).bind fun v_4 =>
      (app txs5 [v_4.1]).bind fun v_5 =>
      sl14Txs_l0 k v_4.2 l3 v_5 (su .i64 n6 1)) <|
    some (c0, txs5)
def sl14Txs (k : Nat) (c0 : Dl01Cur) (l1 : DLimits) : Option (List (List Int) × Dl01Cur) :=
  (sl01Below c0 (ad .i64 l1.2.2.1 1)).bind fun v_1 =>
  (sl14Txs_l0 k v_1.2 l1 [] v_1.1).bind fun v_6 =>
  some (v_6.2, v_6.1)
def sBlockOf (k : Nat) (l0 : DLimits) (h1 : DHead) (txs2 : List (List Int)) : Option (DBlock × Bool) :=
  (sl13Copy k h1).bind fun v_1 =>
  (sl06Copy k txs2).bind fun v_2 =>
  (sTreeRoot k txs2).bind fun v_3 =>
  (sBlockOk k l0 ((v_1.1, v_1.2.1, v_1.2.2.1, v_1.2.2.2.1, v_3, v_1.2.2.2.2.2), v_2, ())).bind fun v_4 =>
  cond (!v_4) (some (((0, 0, 0, [], [], (0, 0, [], [], [], ()), ()), [], ()), false)) <|
  some (((v_1.1, v_1.2.1, v_1.2.2.1, v_1.2.2.2.1, v_3, v_1.2.2.2.2.2), v_2, ()), true)
def sl14Copy (k : Nat) (x0 : DBlock) : Option (DBlock) :=
  (sl13Copy k x0.1).bind fun v_1 =>
  (sl06Copy k x0.2.1).bind fun v_2 =>
  some (v_1, v_2, ())
def iCrcMore_l0 : Nat → Int → (List Int) → Int → Int → Option (Int)
  | 0, _, _, _, _ => none
  | k + 1, c0, s12, s13, s14 =>
    cond (decide (s14 < s13)) (
      (rd s12 s14).bind fun v_2 =>
      (isteps k (xo .i64 c0 (cv .i64 v_2))).bind fun v_3 =>
      iCrcMore_l0 k v_3 s12 s13 (ad .i64 s14 1)) <|
    some c0
def iCrcMore (k : Nat) (c0 : Int) (b1 : List Int) : Option (Int) :=
  (iisWord c0).bind fun v_1 =>
  cond (!v_1) (some 0) <|
  (iCrcMore_l0 k (xo .i64 c0 4294967295) b1 (len b1) 0).bind fun v_4 =>
  some (xo .i64 v_4 4294967295)
def iGetVar_l0 : Nat → (List Int) → Int → Int → Int → Option ((Unit) ⊕ (Int × Int × Int))
  | 0, _, _, _, _ => none
  | k + 1, b0, at1, n7, k8 =>
    cond (decide ((ad .i64 at1 k8) ≥ (len b0))) (some (Sum.inr (0, 0, 1))) <|
    (rd b0 (ad .i64 at1 k8)).bind fun v_2 =>
    cond (decide (k8 > 0)) (
      cond (v_2 == 0) (some (Sum.inr (0, 0, 2))) <|
      cond (k8 == 8) (
        cond (decide (v_2 ≥ 128)) (some (Sum.inr (0, 0, 2))) <|
        cond (decide ((mu .i64 7 k8) < 0)) none <|
        cond (decide (v_2 < 128)) (
          (iisNum (io .i64 n7 (sl .i64 (cv .i64 (an .u8 v_2 127)) (mu .i64 7 k8)))).bind fun v_3 =>
          cond (!v_3) (some (Sum.inr (0, 0, 2))) <|
          some (Sum.inr (io .i64 n7 (sl .i64 (cv .i64 (an .u8 v_2 127)) (mu .i64 7 k8)), ad .i64 (ad .i64 at1 k8) 1, 0))) <|
        iGetVar_l0 k b0 at1 (io .i64 n7 (sl .i64 (cv .i64 (an .u8 v_2 127)) (mu .i64 7 k8))) (ad .i64 k8 1)) <|
      cond (decide ((mu .i64 7 k8) < 0)) none <|
      cond (decide (v_2 < 128)) (
        (iisNum (io .i64 n7 (sl .i64 (cv .i64 (an .u8 v_2 127)) (mu .i64 7 k8)))).bind fun v_4 =>
        cond (!v_4) (some (Sum.inr (0, 0, 2))) <|
        some (Sum.inr (io .i64 n7 (sl .i64 (cv .i64 (an .u8 v_2 127)) (mu .i64 7 k8)), ad .i64 (ad .i64 at1 k8) 1, 0))) <|
      iGetVar_l0 k b0 at1 (io .i64 n7 (sl .i64 (cv .i64 (an .u8 v_2 127)) (mu .i64 7 k8))) (ad .i64 k8 1)) <|
    cond (k8 == 8) (
      cond (decide (v_2 ≥ 128)) (some (Sum.inr (0, 0, 2))) <|
      cond (decide ((mu .i64 7 k8) < 0)) none <|
      cond (decide (v_2 < 128)) (
        (iisNum (io .i64 n7 (sl .i64 (cv .i64 (an .u8 v_2 127)) (mu .i64 7 k8)))).bind fun v_5 =>
        cond (!v_5) (some (Sum.inr (0, 0, 2))) <|
        some (Sum.inr (io .i64 n7 (sl .i64 (cv .i64 (an .u8 v_2 127)) (mu .i64 7 k8)), ad .i64 (ad .i64 at1 k8) 1, 0))) <|
      iGetVar_l0 k b0 at1 (io .i64 n7 (sl .i64 (cv .i64 (an .u8 v_2 127)) (mu .i64 7 k8))) (ad .i64 k8 1)) <|
    cond (decide ((mu .i64 7 k8) < 0)) none <|
    cond (decide (v_2 < 128)) (
      (iisNum (io .i64 n7 (sl .i64 (cv .i64 (an .u8 v_2 127)) (mu .i64 7 k8)))).bind fun v_6 =>
      cond (!v_6) (some (Sum.inr (0, 0, 2))) <|
      some (Sum.inr (io .i64 n7 (sl .i64 (cv .i64 (an .u8 v_2 127)) (mu .i64 7 k8)), ad .i64 (ad .i64 at1 k8) 1, 0))) <|
    iGetVar_l0 k b0 at1 (io .i64 n7 (sl .i64 (cv .i64 (an .u8 v_2 127)) (mu .i64 7 k8))) (ad .i64 k8 1)
def iGetVar (k : Nat) (b0 : List Int) (at1 : Int) : Option (Int × Int × Int) :=
  (iwithin at1 0 (len b0)).bind fun v_1 =>
  cond (!v_1) (some (0, 0, 1)) <|
  (iGetVar_l0 k b0 at1 0 0).bind fun v_7 =>
  sumE v_7 (fun v_8 =>
    none) fun v_9 =>
  some v_9
def iGetRaw (b0 : List Int) (at1 : Int) (n2 : Int) : Option (List Int × Int × Int) :=
  (iwithin at1 0 (len b0)).bind fun v_1 =>
  cond (!v_1) (some ([], 0, 1)) <|
  (iwithin n2 0 (su .i64 (len b0) at1)).bind fun v_2 =>
  cond (!v_2) (some ([], 0, 1)) <|
  (sub b0 at1 (ad .i64 at1 n2)).bind fun v_3 =>
  (icopyBytes v_3).bind fun v_4 =>
  some (v_4, ad .i64 at1 n2, 0)
def iGetText (k : Nat) (b0 : List Int) (at1 : Int) (most2 : Int) : Option (List Int × Int × Int) :=
  (iGetVar k b0 at1).bind fun v_1 =>
  cond (v_1.2.2 != 0) (some ([], 0, v_1.2.2)) <|
  cond (decide (v_1.1 > most2)) (some ([], 0, 3)) <|
  (iGetRaw b0 v_1.2.1 v_1.1).bind fun v_2 =>
  some v_2
def iNodeHash (k : Nat) (a0 : List Int) (b1 : List Int) : Option (List Int) :=
  (app [1] a0).bind fun v_1 =>
  (app v_1 b1).bind fun v_2 =>
  (iSha k v_2).bind fun v_3 =>
  some v_3
def iSplitAt_l0 : Nat → Int → Int → Option (Int)
  | 0, _, _ => none
  | k + 1, n0, k3 =>
    cond (decide (k3 < (su .i64 n0 k3))) (iSplitAt_l0 k n0 (mu .i64 k3 2)) <|
    some k3
def iSplitAt (k : Nat) (n0 : Int) : Option (Int) :=
  cond (decide (n0 < 2)) (some 0) <|
  (iSplitAt_l0 k n0 1).bind fun v_1 =>
  some v_1
def ireader_raw (r0 : Dl01Cur) (n1 : Int) : Option (List Int × Dl01Cur) :=
  cond (r0.2.2.1 != 0) (some ([], r0)) <|
  (iGetRaw r0.1 r0.2.1 n1).bind fun v_1 =>
  some (v_1.1, r0.1, v_1.2.1, v_1.2.2, r0.2.2.2)
def icopyList_l0 : Nat → (List (List Int)) → (List (List Int)) → Int → Int → Option (List (List Int))
  | 0, _, _, _, _ => none
  | k + 1, out3, s7, s8, s9 =>
    cond (decide (s9 < s8)) (
      (rd s7 s9).bind fun v_1 =>
      (icopyBytes v_1).bind fun v_2 =>
      (app out3 [v_2]).bind fun v_3 =>
      icopyList_l0 k v_3 s7 s8 (ad .i64 s9 1)) <|
    some out3
def icopyList (k : Nat) (l0 : List (List Int)) : Option (List (List Int)) :=
  (icopyList_l0 k [] l0 (len l0) 0).bind fun v_4 =>
  some v_4
def ipathRoot : Nat → (List Int) → Int → Int → (List (List Int)) → Option (List Int)
  | 0, _, _, _, _ => none
  | k + 1, h0, i1, n2, path3 =>
  cond (n2 == 1) (
    (icopyBytes h0).bind fun v_1 =>
    some v_1) <|
  (iSplitAt k n2).bind fun v_2 =>
  cond (decide (i1 < v_2)) (
    (sub path3 0 (su .i64 (len path3) 1)).bind fun v_3 =>
    (ipathRoot k h0 i1 v_2 v_3).bind fun v_4 =>
    (rd path3 (su .i64 (len path3) 1)).bind fun v_5 =>
    (iNodeHash k v_4 v_5).bind fun v_6 =>
    some v_6) <|
  (rd path3 (su .i64 (len path3) 1)).bind fun v_7 =>
  (sub path3 0 (su .i64 (len path3) 1)).bind fun v_8 =>
  (ipathRoot k h0 (su .i64 i1 v_2) (su .i64 n2 v_2) v_8).bind fun v_9 =>
  (iNodeHash k v_7 v_9).bind fun v_10 =>
  some v_10
def iLimitsOk (l0 : DLimits) : Option (Bool) :=
  (iwithin l0.1 1 10).bind fun v_1 =>
  cond v_1 (
    (iwithin l0.2.1 0 40).bind fun v_2 =>
    cond v_2 (
      (iwithin l0.2.2.1 0 8).bind fun v_3 =>
      cond v_3 (
        (iwithin l0.2.2.2.1 1 4000).bind fun v_4 =>
        cond v_4 (
          (iwithin l0.2.2.2.2.1 3 5).bind fun v_5 =>
          some v_5) <|
        some false) <|
      some false) <|
    some false) <|
  some false
def iareHashes_l0 : Nat → (List (List Int)) → Int → Int → Option ((Unit) ⊕ (Bool))
  | 0, _, _, _ => none
  | k + 1, s5, s6, s7 =>
    cond (decide (s7 < s6)) (
      (rd s5 s7).bind fun v_1 =>
      cond ((len v_1) != 32) (some (Sum.inr false)) <|
      iareHashes_l0 k s5 s6 (ad .i64 s7 1)) <|
    some (Sum.inl ())
def iareHashes (k : Nat) (l0 : List (List Int)) : Option (Bool) :=
  (iareHashes_l0 k l0 (len l0) 0).bind fun v_2 =>
  sumE v_2 (fun v_3 =>
    some true) fun v_4 =>
  some v_4
def iBitsSize (n0 : Int) : Option (Int) :=
  cond (decide (n0 < 1)) (some 0) <|
  some (ad .i64 (qu .i64 (su .i64 n0 1) 8) 1)
def iBitsHas (b0 : List Int) (i1 : Int) : Option (Bool) :=
  (iwithin i1 0 (su .i64 (mu .i64 8 (len b0)) 1)).bind fun v_1 =>
  cond v_1 (
    (rd b0 (qu .i64 i1 8)).bind fun v_2 =>
    cond (decide ((re i1 8) < 0)) none <|
    some ((an .u8 (sr .u8 v_2 (re i1 8)) 1) == 1)) <|
  some false
def iBitsList_l0 : Nat → (List Int) → (List Int) → Int → Int → Option (List Int)
  | 0, _, _, _, _ => none
  | k + 1, b0, out3, s8, s9 =>
    cond (decide (s9 < s8)) (
      (iBitsHas b0 s9).bind fun v_1 =>
      cond v_1 (
        (app out3 [s9]).bind fun v_2 =>
        iBitsList_l0 k b0 v_2 s8 (ad .i64 s9 1)) <|
      iBitsList_l0 k b0 out3 s8 (ad .i64 s9 1)) <|
    some out3
def iBitsList (k : Nat) (b0 : List Int) : Option (List Int) :=
  (iBitsList_l0 k b0 [] (mu .i64 8 (len b0)) 0).bind fun v_3 =>
  some v_3
def iBitsOk_l0 : Nat → Int → (List Int) → Int → Int → Option ((Unit) ⊕ (Bool))
  | 0, _, _, _, _ => none
  | k + 1, n1, s18, s19, s20 =>
    cond (decide (s20 < s19)) (
      (rd s18 s20).bind fun _v_4 =>
      (rd s18 s20).bind fun v_5 =>
      cond (decide (v_5 ≥ n1)) (some (Sum.inr false)) <|
      iBitsOk_l0 k n1 s18 s19 (ad .i64 s20 1)) <|
    some (Sum.inl ())
def iBitsOk (k : Nat) (b0 : List Int) (n1 : Int) : Option (Bool) :=
  (iwithin n1 1 10).bind fun v_1 =>
  cond (!v_1) (some false) <|
  (iBitsSize n1).bind fun v_2 =>
  cond ((len b0) != v_2) (some false) <|
  (iBitsList k b0).bind fun v_3 =>
  (iBitsOk_l0 k n1 v_3 (len v_3) 0).bind fun v_6 =>
  sumE v_6 (fun v_7 =>
    some true) fun v_8 =>
  some v_8
def math_bits_OnesCount8 (x0 : Int) : Option (Int) :=
  (rd [0, 1, 1, 2, 1, 2, 2, 3, 1, 2, 2, 3, 2, 3, 3, 4, 1, 2, 2, 3, 2, 3, 3, 4, 2, 3, 3, 4, 3, 4, 4, 5, 1, 2, 2, 3, 2, 3, 3, 4, 2, 3, 3, 4, 3, 4, 4, 5, 2, 3, 3, 4, 3, 4, 4, 5, 3, 4, 4, 5, 4, 5, 5, 6, 1, 2, 2, 3, 2, 3, 3, 4, 2, 3, 3, 4, 3, 4, 4, 5, 2, 3, 3, 4, 3, 4, 4, 5, 3, 4, 4, 5, 4, 5, 5, 6, 2, 3, 3, 4, 3, 4, 4, 5, 3, 4, 4, 5, 4, 5, 5, 6, 3, 4, 4, 5, 4, 5, 5, 6, 4, 5, 5, 6, 5, 6, 6, 7, 1, 2, 2, 3, 2, 3, 3, 4, 2, 3, 3, 4, 3, 4, 4, 5, 2, 3, 3, 4, 3, 4, 4, 5, 3, 4, 4, 5, 4, 5, 5, 6, 2, 3, 3, 4, 3, 4, 4, 5, 3, 4, 4, 5, 4, 5, 5, 6, 3, 4, 4, 5, 4, 5, 5, 6, 4, 5, 5, 6, 5, 6, 6, 7, 2, 3, 3, 4, 3, 4, 4, 5, 3, 4, 4, 5, 4, 5, 5, 6, 3, 4, 4, 5, 4, 5, 5, 6, 4, 5, 5, 6, 5, 6, 6, 7, 3, 4, 4, 5, 4, 5, 5, 6, 4, 5, 5, 6, 5, 6, 6, 7, 4, 5, 5, 6, 5, 6, 6, 7, 5, 6, 6, 7, 6, 7, 7, 8] x0).bind fun v_1 =>
  some (cv .i64 v_1)
def iBitsCount_l0 : Nat → Int → (List Int) → Int → Int → Option (Int)
  | 0, _, _, _, _ => none
  | k + 1, n3, s6, s7, s8 =>
    cond (decide (s8 < s7)) (
      (rd s6 s8).bind fun v_1 =>
      (math_bits_OnesCount8 v_1).bind fun v_2 =>
      iBitsCount_l0 k (ad .i64 n3 v_2) s6 s7 (ad .i64 s8 1)) <|
    some n3
def iBitsCount (k : Nat) (b0 : List Int) : Option (Int) :=
  (iBitsCount_l0 k 0 b0 (len b0) 0).bind fun v_3 =>
  some v_3
def iQcOk (k : Nat) (l0 : DLimits) (q1 : DQc) : Option (Bool) :=
  (iLimitsOk l0).bind fun v_1 =>
  cond v_1 (
    (iisNum q1.1).bind fun v_2 =>
    cond v_2 (
      (iisNum q1.2.1).bind fun v_3 =>
      cond v_3 (
        (iareHashes k [q1.2.2.1]).bind fun v_4 =>
        cond v_4 (
          (iBitsOk k q1.2.2.2.1 l0.1).bind fun v_5 =>
          cond v_5 (
            (iBitsCount k q1.2.2.2.1).bind fun v_6 =>
            cond ((len q1.2.2.2.2.1) == v_6) (
              (iareHashes k q1.2.2.2.2.1).bind fun v_7 =>
              some v_7) <|
            some false) <|
          some false) <|
        some false) <|
      some false) <|
    some false) <|
  some false
def iSameBytes (a0 : List Int) (b1 : List Int) : Option (Bool) :=
  some ((a0 : List Int) == b1)
def iHead_matches (h0 : DHead) : Option (Bool) :=
  cond (decide (h0.2.2.2.2.2.1.1 < h0.1)) (
    cond (h0.2.2.2.2.2.1.2.1 == (su .i64 h0.2.1 1)) (
      (iSameBytes h0.2.2.2.2.2.1.2.2.1 h0.2.2.2.1).bind fun v_1 =>
      some v_1) <|
    some false) <|
  some false
def iHeadOk (k : Nat) (l0 : DLimits) (h1 : DHead) : Option (Bool) :=
  (iQcOk k l0 h1.2.2.2.2.2.1).bind fun v_1 =>
  cond v_1 (
    (iisNum h1.1).bind fun v_2 =>
    cond v_2 (
      (iwithin h1.2.1 1 1152921504606846975).bind fun v_3 =>
      cond v_3 (
        (iwithin h1.2.2.1 0 (su .i64 l0.1 1)).bind fun v_4 =>
        cond v_4 (
          (iareHashes k [h1.2.2.2.1, h1.2.2.2.2.1]).bind fun v_5 =>
          cond v_5 (
            (iHead_matches h1).bind fun v_6 =>
            some v_6) <|
          some false) <|
        some false) <|
      some false) <|
    some false) <|
  some false
def iareHeads_l0 : Nat → DLimits → (List DHead) → Int → Int → Option ((Unit) ⊕ (Bool))
  | 0, _, _, _, _ => none
  | k + 1, l2, s7, s8, s9 =>
    cond (decide (s9 < s8)) (
      (rd s7 s9).bind fun v_1 =>
      (iHeadOk k l2 v_1).bind fun v_2 =>
      cond (!v_2) (some (Sum.inr false)) <|
      iareHeads_l0 k l2 s7 s8 (ad .i64 s9 1)) <|
    some (Sum.inl ())
def iareHeads (k : Nat) (l0 : DLimits) (heads1 : List DHead) : Option (Bool) :=
  (iareHeads_l0 k l0 heads1 (len heads1) 0).bind fun v_3 =>
  sumE v_3 (fun v_4 =>
    some true) fun v_5 =>
  some v_5
def iwriter_num (k : Nat) (w0 : Dwriter) (n1 : Int) : Option (Dwriter) :=
  (iPutVar k w0.1 n1).bind fun v_1 =>
  optE v_1.1 (
    some ([], ())) fun v_2 =>
  some (v_2, ())
def iwriter_raw (w0 : Dwriter) (b1 : List Int) : Option (Dwriter) :=
  (app w0.1 b1).bind fun v_1 =>
  some (v_1, ())
def iwriter_qc_l0 : Nat → Dwriter → (List (List Int)) → Int → Int → Option (Dwriter)
  | 0, _, _, _, _ => none
  | k + 1, w0, s23, s24, s25 =>
    cond (decide (s25 < s24)) (
      (rd s23 s25).bind fun v_5 =>
      (iwriter_raw w0 v_5).bind fun v_6 =>
      iwriter_qc_l0 k v_6 s23 s24 (ad .i64 s25 1)) <|
    some w0
def iwriter_qc (k : Nat) (w0 : Dwriter) (q1 : DQc) : Option (Dwriter) :=
  (iwriter_num k w0 q1.1).bind fun v_1 =>
  (iwriter_num k v_1 q1.2.1).bind fun v_2 =>
  (iwriter_raw v_2 q1.2.2.1).bind fun v_3 =>
  (iwriter_raw v_3 q1.2.2.2.1).bind fun v_4 =>
  (iwriter_qc_l0 k v_4 q1.2.2.2.2.1 (len q1.2.2.2.2.1) 0).bind fun v_7 =>
  some v_7
def iwriter_head (k : Nat) (w0 : Dwriter) (h1 : DHead) : Option (Dwriter) :=
  (iwriter_num k w0 h1.1).bind fun v_1 =>
  (iwriter_num k v_1 h1.2.1).bind fun v_2 =>
  (iwriter_num k v_2 h1.2.2.1).bind fun v_3 =>
  (iwriter_raw v_3 h1.2.2.2.1).bind fun v_4 =>
  (iwriter_raw v_4 h1.2.2.2.2.1).bind fun v_5 =>
  (iwriter_qc k v_5 h1.2.2.2.2.2.1).bind fun v_6 =>
  some v_6
def iPutHead (k : Nat) (l0 : DLimits) (b1 : List Int) (h2 : DHead) : Option (List Int × Bool) :=
  (iHeadOk k l0 h2).bind fun v_1 =>
  cond (!v_1) (some ([], false)) <|
  (icopyBytes b1).bind fun v_2 =>
  (iwriter_head k (v_2, ()) h2).bind fun v_3 =>
  some (v_3.1, true)
def iHeadHash (k : Nat) (l0 : DLimits) (h1 : DHead) : Option (List Int) :=
  (iPutHead k l0 [72] h1).bind fun v_1 =>
  cond (!v_1.2) (some []) <|
  (iSha k v_1.1).bind fun v_2 =>
  some v_2
def iLinks (k : Nat) (l0 : DLimits) (a1 : DHead) (b2 : DHead) : Option (Bool) :=
  (iHeadOk k l0 a1).bind fun v_1 =>
  cond v_1 (
    (iHeadOk k l0 b2).bind fun v_2 =>
    cond v_2 (
      (iHeadHash k l0 a1).bind fun v_3 =>
      (iSameBytes b2.2.2.2.1 v_3).bind fun v_4 =>
      cond v_4 (
        cond (b2.2.2.2.2.2.1.1 == a1.1) (some (b2.2.2.2.2.2.1.2.1 == a1.2.1)) <|
        some false) <|
      some false) <|
    some false) <|
  some false
def iChainCode_l0 : Nat → (List DHead) → DLimits → Int → Option ((Unit) ⊕ (Int))
  | 0, _, _, _ => none
  | k + 1, heads1, l2, i5 =>
    cond (decide (i5 < (len heads1))) (
      (rd heads1 (su .i64 i5 1)).bind fun v_2 =>
      (rd heads1 i5).bind fun v_3 =>
      (iLinks k l2 v_2 v_3).bind fun v_4 =>
      cond (!v_4) (some (Sum.inr 4)) <|
      iChainCode_l0 k heads1 l2 (ad .i64 i5 1)) <|
    some (Sum.inl ())
def iChainCode (k : Nat) (l0 : DLimits) (heads1 : List DHead) : Option (Int) :=
  cond ((len heads1) == 0) (some 1) <|
  (iareHeads k l0 heads1).bind fun v_1 =>
  cond (!v_1) (some 1) <|
  (iChainCode_l0 k heads1 l0 1).bind fun v_5 =>
  sumE v_5 (fun v_6 =>
    some 0) fun v_7 =>
  some v_7
def iBitsNew (n0 : Int) : Option (List Int) :=
  (iwithin n0 1 10).bind fun v_1 =>
  cond (!v_1) (some []) <|
  (iBitsSize n0).bind fun v_2 =>
  (mk v_2 0).bind fun v_3 =>
  some v_3
def iBitsOf_l0 : Nat → Int → (List Int) → (List Int) → Int → Int → Option ((List Int) ⊕ (List Int × Bool))
  | 0, _, _, _, _, _ => none
  | k + 1, n1, out6, s14, s15, s16 =>
    cond (decide (s16 < s15)) (
      (rd s14 s16).bind fun v_3 =>
      (iwithin v_3 0 (su .i64 n1 1)).bind fun v_4 =>
      cond (!v_4) (some (Sum.inr ([], false))) <|
      (rd out6 (qu .i64 v_3 8)).bind fun _v_5 =>
      (rd out6 (qu .i64 v_3 8)).bind fun v_6 =>
      cond (decide ((re v_3 8) < 0)) none <|
      (rd out6 (qu .i64 v_3 8)).bind fun _v_7 =>
      (st out6 (qu .i64 v_3 8) (io .u8 v_6 (sl .u8 1 (re v_3 8)))).bind fun v_8 =>
      iBitsOf_l0 k n1 v_8 s14 s15 (ad .i64 s16 1)) <|
    some (Sum.inl out6)
def iBitsOf (k : Nat) (l0 : List Int) (n1 : Int) : Option (List Int × Bool) :=
  (iwithin n1 1 10).bind fun v_1 =>
  cond (!v_1) (some ([], false)) <|
  (iBitsNew n1).bind fun v_2 =>
  (iBitsOf_l0 k n1 v_2 l0 (len l0) 0).bind fun v_9 =>
  sumE v_9 (fun v_10 =>
    some (v_10, true)) fun v_11 =>
  some v_11
def iTableOk_l0 : Nat → DTable → (List DPush) → Int → Int → Option ((DTable) ⊕ (Bool))
  | 0, _, _, _, _ => none
  | k + 1, t1, s6, s7, s8 =>
    cond (decide (s8 < s7)) (
      (rd s6 s8).bind fun v_1 =>
      (iwithin v_1.1 1 1099511627776).bind fun v_2 =>
      cond (!v_2) (some (Sum.inr false)) <|
      (iwithin (len v_1.2.1) 1 64).bind fun v_3 =>
      cond (!v_3) (some (Sum.inr false)) <|
      iTableOk_l0 k t1 s6 s7 (ad .i64 s8 1)) <|
    some (Sum.inl t1)
def iTableOk (k : Nat) (t0 : DTable) : Option (Bool) :=
  (iTableOk_l0 k t0 t0.1 (len t0.1) 0).bind fun v_4 =>
  sumE v_4 (fun v_5 =>
    (iwithin (len v_5.1) 1 10).bind fun v_7 =>
    some v_7) fun v_6 =>
  some v_6
def iMac (k : Nat) (key0 : List Int) (b1 : List Int) : Option (List Int) :=
  (iMacKey k key0).bind fun v_1 =>
  (imasked k v_1 92).bind fun v_2 =>
  (imasked k v_1 54).bind fun v_3 =>
  (app v_3 b1).bind fun v_4 =>
  (iSha k v_4).bind fun v_5 =>
  (app v_2 v_5).bind fun v_6 =>
  (iSha k v_6).bind fun v_7 =>
  some v_7
def iSignLeave (k : Nat) (t0 : DTable) (view1 : Int) (high2 : Int) (who3 : Int) : Option (DEntry × Bool) :=
  (iLeaveBytes k view1 high2).bind fun v_1 =>
  optE v_1 (
    (iTableOk k t0).bind fun v_3 =>
    cond (!v_3) (some ((0, 0, [], ()), false)) <|
    some ((0, 0, [], ()), false)) fun v_2 =>
  (iTableOk k t0).bind fun v_4 =>
  cond (!v_4) (some ((0, 0, [], ()), false)) <|
  (iwithin who3 0 (su .i64 (len t0.1) 1)).bind fun v_5 =>
  cond (!v_5) (some ((0, 0, [], ()), false)) <|
  cond (decide (high2 ≥ view1)) (some ((0, 0, [], ()), false)) <|
  (rd t0.1 who3).bind fun v_6 =>
  (iMac k v_6.2.1 v_2).bind fun v_7 =>
  some ((who3, high2, v_7, ()), true)
def iTotalOf_l0 : Nat → DTable → Int → (List DPush) → Int → Int → Option (Int)
  | 0, _, _, _, _, _ => none
  | k + 1, t1, n3, s7, s8, s9 =>
    cond (decide (s9 < s8)) (
      (rd s7 s9).bind fun v_1 =>
      (iTableOk k t1).bind fun v_2 =>
      cond v_2 (iTotalOf_l0 k t1 (ad .i64 n3 v_1.1) s7 s8 (ad .i64 s9 1)) <|
      iTotalOf_l0 k t1 n3 s7 s8 (ad .i64 s9 1)) <|
    some n3
def iTotalOf (k : Nat) (t0 : DTable) : Option (Int) :=
  (iTotalOf_l0 k t0 0 t0.1 (len t0.1) 0).bind fun v_3 =>
  some v_3
def iWeightOf_l0 : Nat → DTable → Int → (List Int) → Int → Int → Option (Int)
  | 0, _, _, _, _, _ => none
  | k + 1, t2, n5, s20, s21, s22 =>
    cond (decide (s22 < s21)) (
      (rd s20 s22).bind fun _v_4 =>
      (rd s20 s22).bind fun v_5 =>
      (rd t2.1 v_5).bind fun v_6 =>
      iWeightOf_l0 k t2 (ad .i64 n5 v_6.1) s20 s21 (ad .i64 s22 1)) <|
    some n5
def iWeightOf (k : Nat) (t0 : DTable) (bits1 : List Int) : Option (Int) :=
  (iTableOk k t0).bind fun v_1 =>
  cond (!v_1) (some 0) <|
  (iBitsOk k bits1 (len t0.1)).bind fun v_2 =>
  cond (!v_2) (some 0) <|
  (iBitsList k bits1).bind fun v_3 =>
  (iWeightOf_l0 k t0 0 v_3 (len v_3) 0).bind fun v_7 =>
  some v_7
def iVoteBytes (k : Nat) (view0 : Int) (height1 : Int) (block2 : List Int) : Option (Option (List Int)) :=
  (inumbers k 86 [view0, height1]).bind fun v_1 =>
  optE v_1 (
    some none) fun v_2 =>
  (iareHashes k [block2]).bind fun v_3 =>
  cond (!v_3) (some none) <|
  (app v_2 block2).bind fun v_4 =>
  some (some v_4)
def sl01Top (w0 : Int) : Option (Int) :=
  cond (decide ((mu .i64 8 w0) < 0)) none <|
  some (sl .i64 1 (mu .i64 8 w0))
def sTableOk_l0 : Nat → DTable → (List DPush) → Int → Int → Option ((DTable) ⊕ (Bool))
  | 0, _, _, _, _ => none
  | k + 1, t1, s6, s7, s8 =>
    cond (decide (s8 < s7)) (
      (rd s6 s8).bind fun v_1 =>
      (sl01In v_1.1 1 1099511627776).bind fun v_2 =>
      cond (!v_2) (some (Sum.inr false)) <|
      (sl01In (len v_1.2.1) 1 64).bind fun v_3 =>
      cond (!v_3) (some (Sum.inr false)) <|
      sTableOk_l0 k t1 s6 s7 (ad .i64 s8 1)) <|
    some (Sum.inl t1)
def sTableOk (k : Nat) (t0 : DTable) : Option (Bool) :=
  (sTableOk_l0 k t0 t0.1 (len t0.1) 0).bind fun v_4 =>
  sumE v_4 (fun v_5 =>
    (sl02Signers (len v_5.1)).bind fun v_7 =>
    some v_7) fun v_6 =>
  some v_6
def sSignVote (k : Nat) (t0 : DTable) (view1 : Int) (height2 : Int) (block3 : List Int) (who4 : Int) : Option (DVote × Bool) :=
  (sVoteBytes k view1 height2 block3).bind fun v_1 =>
  (sTableOk k t0).bind fun v_2 =>
  cond (!v_2) (some ((0, 0, [], 0, [], ()), false)) <|
  cond ((len v_1) == 0) (some ((0, 0, [], 0, [], ()), false)) <|
  (sl01In who4 0 (su .i64 (len t0.1) 1)).bind fun v_3 =>
  cond (!v_3) (some ((0, 0, [], 0, [], ()), false)) <|
  (sl01Copy block3).bind fun v_4 =>
  (rd t0.1 who4).bind fun v_5 =>
  (sMac k v_5.2.1 v_1).bind fun v_6 =>
  some ((view1, height2, v_4, who4, v_6, ()), true)
def sCrc (k : Nat) (b0 : List Int) : Option (Int) :=
  (sCrcMore k 0 b0).bind fun v_1 =>
  some v_1
def iIncl_copied (k : Nat) (x0 : DIncl) : Option (DIncl) :=
  (icopyBytes x0.2.2.2.1).bind fun v_1 =>
  (icopyList k x0.2.2.2.2.1).bind fun v_2 =>
  some (x0.1, x0.2.1, x0.2.2.1, v_1, v_2, ())
def iTc_copied_l0 : Nat → DTc → DTc → (List DEntry) → Int → Int → Option (DTc × DTc)
  | 0, _, _, _, _, _ => none
  | k + 1, s2, out3, s10, s11, s12 =>
    cond (decide (s12 < s11)) (
      (rd s10 s12).bind fun v_1 =>
      (icopyBytes v_1.2.2.1).bind fun v_2 =>
      (app out3.2.1 [(v_1.1, v_1.2.1, v_2, ())]).bind fun v_3 =>
      iTc_copied_l0 k s2 (out3.1, v_3, ()) s10 s11 (ad .i64 s12 1)) <|
    some (s2, out3)
def iTc_copied (k : Nat) (t0 : DTc) : Option (DTc) :=
  (iTc_copied_l0 k (0, [], ()) (t0.1, [], ()) t0.2.1 (len t0.2.1) 0).bind fun v_4 =>
  some v_4.2
def iQc_copied (k : Nat) (q0 : DQc) : Option (DQc) :=
  (icopyBytes q0.2.2.1).bind fun v_1 =>
  (icopyBytes q0.2.2.2.1).bind fun v_2 =>
  (icopyList k q0.2.2.2.2.1).bind fun v_3 =>
  some (q0.1, q0.2.1, v_1, v_2, v_3, ())
def iHead_copied (k : Nat) (h0 : DHead) : Option (DHead) :=
  (icopyBytes h0.2.2.2.1).bind fun v_1 =>
  (icopyBytes h0.2.2.2.2.1).bind fun v_2 =>
  (iQc_copied k h0.2.2.2.2.2.1).bind fun v_3 =>
  some (h0.1, h0.2.1, h0.2.2.1, v_1, v_2, v_3, ())
def iBlock_copied (k : Nat) (x0 : DBlock) : Option (DBlock) :=
  (iHead_copied k x0.1).bind fun v_1 =>
  (icopyList k x0.2.1).bind fun v_2 =>
  some (v_1, v_2, ())
def iPutFix_l0 : Nat → Int → (List Int) → Int → Int → Option (List Int)
  | 0, _, _, _, _ => none
  | k + 1, n1, out8, s26, s27 =>
    cond (decide (s27 < s26)) (
      cond (decide ((mu .i64 8 s27) < 0)) none <|
      (app out8 [cv .u8 (sr .i64 n1 (mu .i64 8 s27))]).bind fun v_3 =>
      iPutFix_l0 k n1 v_3 s26 (ad .i64 s27 1)) <|
    some out8
def iPutFix (k : Nat) (b0 : List Int) (n1 : Int) (w2 : Int) : Option (List Int × Bool) :=
  (iwithin w2 1 7).bind fun v_1 =>
  cond (!v_1) (some ([], false)) <|
  cond (decide (n1 < 0)) (some ([], false)) <|
  cond (decide ((mu .i64 8 w2) < 0)) none <|
  cond (decide (n1 ≥ (sl .i64 1 (mu .i64 8 w2)))) (some ([], false)) <|
  (icopyBytes b0).bind fun v_2 =>
  (iPutFix_l0 k n1 v_2 w2 0).bind fun v_4 =>
  some (v_4, true)
def weqByteSS_l0 : Nat → (List (List Int)) → (List (List Int)) → Int → Option ((Unit) ⊕ (Bool))
  | 0, _, _, _ => none
  | k + 1, a0, b1, i5 =>
    cond (decide (i5 < (len a0))) (
      (rd a0 i5).bind fun v_1 =>
      (rd b1 i5).bind fun v_2 =>
      (weqByteS k v_1 v_2).bind fun v_3 =>
      cond (!v_3) (some (Sum.inr false)) <|
      weqByteSS_l0 k a0 b1 (ad .i64 i5 1)) <|
    some (Sum.inl ())
def weqByteSS (k : Nat) (a0 : List (List Int)) (b1 : List (List Int)) : Option (Bool) :=
  cond ((len a0) != (len b1)) (some false) <|
  (weqByteSS_l0 k a0 b1 0).bind fun v_4 =>
  sumE v_4 (fun v_5 =>
    some true) fun v_6 =>
  some v_6
def weqQc (k : Nat) (a0 : DQc) (b1 : DQc) : Option (Bool) :=
  cond (a0.1 != b1.1) (some false) <|
  cond (a0.2.1 != b1.2.1) (some false) <|
  (weqByteS k a0.2.2.1 b1.2.2.1).bind fun v_1 =>
  cond (!v_1) (some false) <|
  (weqByteS k a0.2.2.2.1 b1.2.2.2.1).bind fun v_2 =>
  cond (!v_2) (some false) <|
  (weqByteSS k a0.2.2.2.2.1 b1.2.2.2.2.1).bind fun v_3 =>
  cond (!v_3) (some false) <|
  some true
def weqHead (k : Nat) (a0 : DHead) (b1 : DHead) : Option (Bool) :=
  cond (a0.1 != b1.1) (some false) <|
  cond (a0.2.1 != b1.2.1) (some false) <|
  cond (a0.2.2.1 != b1.2.2.1) (some false) <|
  (weqByteS k a0.2.2.2.1 b1.2.2.2.1).bind fun v_1 =>
  cond (!v_1) (some false) <|
  (weqByteS k a0.2.2.2.2.1 b1.2.2.2.2.1).bind fun v_2 =>
  cond (!v_2) (some false) <|
  (weqQc k a0.2.2.2.2.2.1 b1.2.2.2.2.2.1).bind fun v_3 =>
  cond (!v_3) (some false) <|
  some true
def weqHeadS_l0 : Nat → (List DHead) → (List DHead) → Int → Option ((Unit) ⊕ (Bool))
  | 0, _, _, _ => none
  | k + 1, a0, b1, i5 =>
    cond (decide (i5 < (len a0))) (
      (rd a0 i5).bind fun v_1 =>
      (rd b1 i5).bind fun v_2 =>
      (weqHead k v_1 v_2).bind fun v_3 =>
      cond (!v_3) (some (Sum.inr false)) <|
      weqHeadS_l0 k a0 b1 (ad .i64 i5 1)) <|
    some (Sum.inl ())
def weqHeadS (k : Nat) (a0 : List DHead) (b1 : List DHead) : Option (Bool) :=
  cond ((len a0) != (len b1)) (some false) <|
  (weqHeadS_l0 k a0 b1 0).bind fun v_4 =>
  sumE v_4 (fun v_5 =>
    some true) fun v_6 =>
  some v_6
def weqEntryS_l0 : Nat → (List DEntry) → (List DEntry) → Int → Option ((Unit) ⊕ (Bool))
  | 0, _, _, _ => none
  | k + 1, a0, b1, i5 =>
    cond (decide (i5 < (len a0))) (
      (rd a0 i5).bind fun v_1 =>
      (rd b1 i5).bind fun v_2 =>
      (weqEntry k v_1 v_2).bind fun v_3 =>
      cond (!v_3) (some (Sum.inr false)) <|
      weqEntryS_l0 k a0 b1 (ad .i64 i5 1)) <|
    some (Sum.inl ())
def weqEntryS (k : Nat) (a0 : List DEntry) (b1 : List DEntry) : Option (Bool) :=
  cond ((len a0) != (len b1)) (some false) <|
  (weqEntryS_l0 k a0 b1 0).bind fun v_4 =>
  sumE v_4 (fun v_5 =>
    some true) fun v_6 =>
  some v_6
def wtoByteSS_l0 : Nat → (List (List Int)) → (List (List Int)) → Int → Option (List (List Int))
  | 0, _, _, _ => none
  | k + 1, a0, out3, i4 =>
    cond (decide (i4 < (len a0))) (
      (rd a0 i4).bind fun v_2 =>
      (wtoByteS k v_2).bind fun v_3 =>
      (rd out3 i4).bind fun _v_4 =>
      (st out3 i4 v_3).bind fun v_5 =>
      wtoByteSS_l0 k a0 v_5 (ad .i64 i4 1)) <|
    some out3
def wtoByteSS (k : Nat) (a0 : List (List Int)) : Option (List (List Int)) :=
  (mk (len a0) []).bind fun v_1 =>
  (wtoByteSS_l0 k a0 v_1 0).bind fun v_6 =>
  some v_6
def wtoQc (k : Nat) (a0 : DQc) : Option (DQc) :=
  (wtoByteS k a0.2.2.1).bind fun v_1 =>
  (wtoByteS k a0.2.2.2.1).bind fun v_2 =>
  (wtoByteSS k a0.2.2.2.2.1).bind fun v_3 =>
  some (a0.1, a0.2.1, v_1, v_2, v_3, ())
def wtoHead (k : Nat) (a0 : DHead) : Option (DHead) :=
  (wtoByteS k a0.2.2.2.1).bind fun v_1 =>
  (wtoByteS k a0.2.2.2.2.1).bind fun v_2 =>
  (wtoQc k a0.2.2.2.2.2.1).bind fun v_3 =>
  some (a0.1, a0.2.1, a0.2.2.1, v_1, v_2, v_3, ())
def wtoHeadS_l0 : Nat → (List DHead) → (List DHead) → Int → Option (List DHead)
  | 0, _, _, _ => none
  | k + 1, a0, out3, i4 =>
    cond (decide (i4 < (len a0))) (
      (rd a0 i4).bind fun v_2 =>
      (wtoHead k v_2).bind fun v_3 =>
      (rd out3 i4).bind fun _v_4 =>
      (st out3 i4 v_3).bind fun v_5 =>
      wtoHeadS_l0 k a0 v_5 (ad .i64 i4 1)) <|
    some out3
def wtoHeadS (k : Nat) (a0 : List DHead) : Option (List DHead) :=
  (mk (len a0) (0, 0, 0, [], [], (0, 0, [], [], [], ()), ())).bind fun v_1 =>
  (wtoHeadS_l0 k a0 v_1 0).bind fun v_6 =>
  some v_6
def wtoEntryS_l0 : Nat → (List DEntry) → (List DEntry) → Int → Option (List DEntry)
  | 0, _, _, _ => none
  | k + 1, a0, out3, i4 =>
    cond (decide (i4 < (len a0))) (
      (rd a0 i4).bind fun v_2 =>
      (wtoEntry k v_2).bind fun v_3 =>
      (rd out3 i4).bind fun _v_4 =>
      (st out3 i4 v_3).bind fun v_5 =>
      wtoEntryS_l0 k a0 v_5 (ad .i64 i4 1)) <|
    some out3
def wtoEntryS (k : Nat) (a0 : List DEntry) : Option (List DEntry) :=
  (mk (len a0) (0, 0, [], ())).bind fun v_1 =>
  (wtoEntryS_l0 k a0 v_1 0).bind fun v_6 =>
  some v_6
def sPutIncl_l0 : Nat → (List Int) → (List (List Int)) → Int → Int → Option (List Int)
  | 0, _, _, _, _ => none
  | k + 1, out8, s29, s30, s31 =>
    cond (decide (s31 < s30)) (
      (rd s29 s31).bind fun v_6 =>
      (app out8 v_6).bind fun v_7 =>
      sPutIncl_l0 k v_7 s29 s30 (ad .i64 s31 1)) <|
    some out8
def sPutIncl (k : Nat) (l0 : DLimits) (b1 : List Int) (x2 : DIncl) : Option (List Int × Bool) :=
  (sInclOk k l0 x2).bind fun v_1 =>
  cond (!v_1) (some ([], false)) <|
  (sl11Num k b1 x2.1).bind fun v_2 =>
  (sl11Num k v_2 x2.2.1).bind fun v_3 =>
  (sl11Num k v_3 x2.2.2.1).bind fun v_4 =>
  (sPutText k v_4 x2.2.2.2.1).bind fun v_5 =>
  (sPutIncl_l0 k v_5 x2.2.2.2.2.1 (len x2.2.2.2.2.1) 0).bind fun v_8 =>
  some (v_8, true)
def sPutProof_l0 : Nat → DLimits → DProof → (List Int) → (List DHead) → Int → Int → Option (DLimits × DProof × List Int)
  | 0, _, _, _, _, _, _ => none
  | k + 1, l3, p5, out8, s21, s22, s23 =>
    cond (decide (s23 < s22)) (
      (rd s21 s23).bind fun v_3 =>
      (sPutHead k l3 out8 v_3).bind fun v_4 =>
      sPutProof_l0 k l3 p5 v_4.1 s21 s22 (ad .i64 s23 1)) <|
    some (l3, p5, out8)
def sPutProof (k : Nat) (l0 : DLimits) (b1 : List Int) (p2 : DProof) : Option (List Int × Bool) :=
  (sProofOk k l0 p2).bind fun v_1 =>
  cond (!v_1) (some ([], false)) <|
  (sl11Num k b1 (len p2.1)).bind fun v_2 =>
  (sPutProof_l0 k l0 p2 v_2 p2.1 (len p2.1) 0).bind fun v_5 =>
  (sPutQc k v_5.1 v_5.2.2 v_5.2.1.2.1).bind fun v_6 =>
  some v_6
def sPutTc_l0 : Nat → (List Int) → (List DEntry) → Int → Int → Option (List Int)
  | 0, _, _, _, _ => none
  | k + 1, out8, s24, s25, s26 =>
    cond (decide (s26 < s25)) (
      (rd s24 s26).bind fun v_4 =>
      (sl11Num k out8 v_4.1).bind fun v_5 =>
      (sl11Num k v_5 v_4.2.1).bind fun v_6 =>
      (app v_6 v_4.2.2.1).bind fun v_7 =>
      sPutTc_l0 k v_7 s24 s25 (ad .i64 s26 1)) <|
    some out8
def sPutTc (k : Nat) (l0 : DLimits) (b1 : List Int) (t2 : DTc) : Option (List Int × Bool) :=
  (sTcOk k l0 t2).bind fun v_1 =>
  cond (!v_1) (some ([], false)) <|
  (sl11Num k b1 t2.1).bind fun v_2 =>
  (sl11Num k v_2 (len t2.2.1)).bind fun v_3 =>
  (sPutTc_l0 k v_3 t2.2.1 (len t2.2.1) 0).bind fun v_8 =>
  some (v_8, true)
def sPutBlock_l0 : Nat → (List Int) → (List (List Int)) → Int → Int → Option (List Int)
  | 0, _, _, _, _ => none
  | k + 1, out8, s30, s31, s32 =>
    cond (decide (s32 < s31)) (
      (rd s30 s32).bind fun v_4 =>
      (sPutText k out8 v_4).bind fun v_5 =>
      sPutBlock_l0 k v_5 s30 s31 (ad .i64 s32 1)) <|
    some out8
def sPutBlock (k : Nat) (l0 : DLimits) (b1 : List Int) (x2 : DBlock) : Option (List Int × Bool) :=
  (sBlockOk k l0 x2).bind fun v_1 =>
  cond (!v_1) (some ([], false)) <|
  (sPutHead k l0 b1 x2.1).bind fun v_2 =>
  (sl11Num k v_2.1 (len x2.2.1)).bind fun v_3 =>
  (sPutBlock_l0 k v_3 x2.2.1 (len x2.2.1) 0).bind fun v_6 =>
  some (v_6, true)
def sPutVote (k : Nat) (l0 : DLimits) (b1 : List Int) (v2 : DVote) : Option (List Int × Bool) :=
  (sVoteOk l0 v2).bind fun v_1 =>
  cond (!v_1) (some ([], false)) <|
  (sl11Num k b1 v2.1).bind fun v_2 =>
  (sl11Num k v_2 v2.2.1).bind fun v_3 =>
  (app v_3 v2.2.2.1).bind fun v_4 =>
  (sl11Num k v_4 v2.2.2.2.1).bind fun v_5 =>
  (app v_5 v2.2.2.2.2.1).bind fun v_6 =>
  some (v_6, true)
def sInclSame (k : Nat) (a0 : DIncl) (b1 : DIncl) : Option (Bool) :=
  cond (a0.1 == b1.1) (
    cond (a0.2.1 == b1.2.1) (
      cond (a0.2.2.1 == b1.2.2.1) (
        (sSameBytes a0.2.2.2.1 b1.2.2.2.1).bind fun v_1 =>
        cond v_1 (
          (sTreeSame k a0.2.2.2.2.1 b1.2.2.2.2.1).bind fun v_2 =>
          some v_2) <|
        some false) <|
      some false) <|
    some false) <|
  some false
def sQcSame (k : Nat) (a0 : DQc) (b1 : DQc) : Option (Bool) :=
  cond (a0.1 == b1.1) (
    cond (a0.2.1 == b1.2.1) (
      (sSameBytes a0.2.2.1 b1.2.2.1).bind fun v_1 =>
      cond v_1 (
        (sSameBytes a0.2.2.2.1 b1.2.2.2.1).bind fun v_2 =>
        cond v_2 (
          (sTreeSame k a0.2.2.2.2.1 b1.2.2.2.2.1).bind fun v_3 =>
          some v_3) <|
        some false) <|
      some false) <|
    some false) <|
  some false
def sHeadSame (k : Nat) (a0 : DHead) (b1 : DHead) : Option (Bool) :=
  cond (a0.1 == b1.1) (
    cond (a0.2.1 == b1.2.1) (
      cond (a0.2.2.1 == b1.2.2.1) (
        (sSameBytes a0.2.2.2.1 b1.2.2.2.1).bind fun v_1 =>
        cond v_1 (
          (sSameBytes a0.2.2.2.2.1 b1.2.2.2.2.1).bind fun v_2 =>
          cond v_2 (
            (sQcSame k a0.2.2.2.2.2.1 b1.2.2.2.2.2.1).bind fun v_3 =>
            some v_3) <|
          some false) <|
        some false) <|
      some false) <|
    some false) <|
  some false
def sProofSame_l0 : Nat → DProof → DProof → Int → Int → Option ((DProof × DProof) ⊕ (Bool))
  | 0, _, _, _, _ => none
  | k + 1, a2, b3, s15, s16 =>
    cond (decide (s16 < s15)) (
      (rd a2.1 s16).bind fun v_1 =>
      (rd b3.1 s16).bind fun v_2 =>
      (sHeadSame k v_1 v_2).bind fun v_3 =>
      cond (!v_3) (some (Sum.inr false)) <|
      sProofSame_l0 k a2 b3 s15 (ad .i64 s16 1)) <|
    some (Sum.inl (a2, b3))
def sProofSame (k : Nat) (a0 : DProof) (b1 : DProof) : Option (Bool) :=
  cond ((len a0.1) != (len b1.1)) (some false) <|
  (sProofSame_l0 k a0 b1 (len a0.1) 0).bind fun v_4 =>
  sumE v_4 (fun v_5 =>
    (sQcSame k v_5.1.2.1 v_5.2.2.1).bind fun v_7 =>
    some v_7) fun v_6 =>
  some v_6
def sTcSame_l0 : Nat → DTc → (List DEntry) → Int → Int → Option ((Unit) ⊕ (Bool))
  | 0, _, _, _, _ => none
  | k + 1, b3, s23, s24, s25 =>
    cond (decide (s25 < s24)) (
      (rd s23 s25).bind fun v_1 =>
      (rd b3.2.1 s25).bind fun v_2 =>
      cond (v_1.1 != v_2.1) (some (Sum.inr false)) <|
      cond (v_1.2.1 != v_2.2.1) (some (Sum.inr false)) <|
      (sSameBytes v_1.2.2.1 v_2.2.2.1).bind fun v_3 =>
      cond (!v_3) (some (Sum.inr false)) <|
      sTcSame_l0 k b3 s23 s24 (ad .i64 s25 1)) <|
    some (Sum.inl ())
def sTcSame (k : Nat) (a0 : DTc) (b1 : DTc) : Option (Bool) :=
  cond (a0.1 != b1.1) (some false) <|
  cond ((len a0.2.1) != (len b1.2.1)) (some false) <|
  (sTcSame_l0 k b1 a0.2.1 (len a0.2.1) 0).bind fun v_4 =>
  sumE v_4 (fun v_5 =>
    some true) fun v_6 =>
  some v_6
def sBlockSame (k : Nat) (a0 : DBlock) (b1 : DBlock) : Option (Bool) :=
  (sHeadSame k a0.1 b1.1).bind fun v_1 =>
  cond v_1 (
    (sTreeSame k a0.2.1 b1.2.1).bind fun v_2 =>
    some v_2) <|
  some false
def sVoteSame (a0 : DVote) (b1 : DVote) : Option (Bool) :=
  cond (a0.1 == b1.1) (
    cond (a0.2.1 == b1.2.1) (
      (sSameBytes a0.2.2.1 b1.2.2.1).bind fun v_1 =>
      cond v_1 (
        cond (a0.2.2.2.1 == b1.2.2.2.1) (
          (sSameBytes a0.2.2.2.2.1 b1.2.2.2.2.1).bind fun v_2 =>
          some v_2) <|
        some false) <|
      some false) <|
    some false) <|
  some false
def wszByteSS_l0 : Nat → (List (List Int)) → Int → Int → Option ((Int) ⊕ (Int))
  | 0, _, _, _ => none
  | k + 1, a0, left1, i5 =>
    cond (decide (i5 < (len a0))) (
      (rd a0 i5).bind fun v_1 =>
      (wszByteS v_1 left1).bind fun v_2 =>
      cond (decide (v_2 < 0)) (some (Sum.inr (-1))) <|
      wszByteSS_l0 k a0 v_2 (ad .i64 i5 1)) <|
    some (Sum.inl left1)
def wszByteSS (k : Nat) (a0 : List (List Int)) (left1 : Int) : Option (Int) :=
  cond (decide ((su .i64 left1 (len a0)) < 0)) (some (-1)) <|
  (wszByteSS_l0 k a0 (su .i64 left1 (len a0)) 0).bind fun v_3 =>
  sumE v_3 (fun v_4 =>
    some v_4) fun v_5 =>
  some v_5
def wszQc (k : Nat) (a0 : DQc) (left1 : Int) : Option (Int) :=
  (wszByteS a0.2.2.1 left1).bind fun v_1 =>
  cond (decide (v_1 < 0)) (some (-1)) <|
  (wszByteS a0.2.2.2.1 v_1).bind fun v_2 =>
  cond (decide (v_2 < 0)) (some (-1)) <|
  (wszByteSS k a0.2.2.2.2.1 v_2).bind fun v_3 =>
  cond (decide (v_3 < 0)) (some (-1)) <|
  some v_3
def wszHead (k : Nat) (a0 : DHead) (left1 : Int) : Option (Int) :=
  (wszByteS a0.2.2.2.1 left1).bind fun v_1 =>
  cond (decide (v_1 < 0)) (some (-1)) <|
  (wszByteS a0.2.2.2.2.1 v_1).bind fun v_2 =>
  cond (decide (v_2 < 0)) (some (-1)) <|
  (wszQc k a0.2.2.2.2.2.1 v_2).bind fun v_3 =>
  cond (decide (v_3 < 0)) (some (-1)) <|
  some v_3
def wszHeadS_l0 : Nat → (List DHead) → Int → Int → Option ((Int) ⊕ (Int))
  | 0, _, _, _ => none
  | k + 1, a0, left1, i5 =>
    cond (decide (i5 < (len a0))) (
      (rd a0 i5).bind fun v_1 =>
      (wszHead k v_1 left1).bind fun v_2 =>
      cond (decide (v_2 < 0)) (some (Sum.inr (-1))) <|
      wszHeadS_l0 k a0 v_2 (ad .i64 i5 1)) <|
    some (Sum.inl left1)
def wszHeadS (k : Nat) (a0 : List DHead) (left1 : Int) : Option (Int) :=
  cond (decide ((su .i64 left1 (len a0)) < 0)) (some (-1)) <|
  (wszHeadS_l0 k a0 (su .i64 left1 (len a0)) 0).bind fun v_3 =>
  sumE v_3 (fun v_4 =>
    some v_4) fun v_5 =>
  some v_5
def wszEntryS_l0 : Nat → (List DEntry) → Int → Int → Option ((Int) ⊕ (Int))
  | 0, _, _, _ => none
  | k + 1, a0, left1, i5 =>
    cond (decide (i5 < (len a0))) (
      (rd a0 i5).bind fun v_1 =>
      (wszEntry v_1 left1).bind fun v_2 =>
      cond (decide (v_2 < 0)) (some (Sum.inr (-1))) <|
      wszEntryS_l0 k a0 v_2 (ad .i64 i5 1)) <|
    some (Sum.inl left1)
def wszEntryS (k : Nat) (a0 : List DEntry) (left1 : Int) : Option (Int) :=
  cond (decide ((su .i64 left1 (len a0)) < 0)) (some (-1)) <|
  (wszEntryS_l0 k a0 (su .i64 left1 (len a0)) 0).bind fun v_3 =>
  sumE v_3 (fun v_4 =>
    some v_4) fun v_5 =>
  some v_5
def iOfIncl (k : Nat) (x0 : DIncl) : Option (DMsg) :=
  (iIncl_copied k x0).bind fun v_1 =>
  some (7, (0, 0, [], 0, [], ()), (0, 0, [], [], [], ()), (0, 0, 0, [], [], (0, 0, [], [], [], ()), ()), ((0, 0, 0, [], [], (0, 0, [], [], [], ()), ()), [], ()), (0, [], ()), ([], (0, 0, [], [], [], ()), ()), v_1, ())
def iOfTc (k : Nat) (t0 : DTc) : Option (DMsg) :=
  (iTc_copied k t0).bind fun v_1 =>
  some (5, (0, 0, [], 0, [], ()), (0, 0, [], [], [], ()), (0, 0, 0, [], [], (0, 0, [], [], [], ()), ()), ((0, 0, 0, [], [], (0, 0, [], [], [], ()), ()), [], ()), v_1, ([], (0, 0, [], [], [], ()), ()), (0, 0, 0, [], [], ()), ())
def iOfBlock (k : Nat) (x0 : DBlock) : Option (DMsg) :=
  (iBlock_copied k x0).bind fun v_1 =>
  some (4, (0, 0, [], 0, [], ()), (0, 0, [], [], [], ()), (0, 0, 0, [], [], (0, 0, [], [], [], ()), ()), v_1, (0, [], ()), ([], (0, 0, [], [], [], ()), ()), (0, 0, 0, [], [], ()), ())
def iOfHead (k : Nat) (h0 : DHead) : Option (DMsg) :=
  (iHead_copied k h0).bind fun v_1 =>
  some (3, (0, 0, [], 0, [], ()), (0, 0, [], [], [], ()), v_1, ((0, 0, 0, [], [], (0, 0, [], [], [], ()), ()), [], ()), (0, [], ()), ([], (0, 0, [], [], [], ()), ()), (0, 0, 0, [], [], ()), ())
def iOfQc (k : Nat) (q0 : DQc) : Option (DMsg) :=
  (iQc_copied k q0).bind fun v_1 =>
  some (2, (0, 0, [], 0, [], ()), v_1, (0, 0, 0, [], [], (0, 0, [], [], [], ()), ()), ((0, 0, 0, [], [], (0, 0, [], [], [], ()), ()), [], ()), (0, [], ()), ([], (0, 0, [], [], [], ()), ()), (0, 0, 0, [], [], ()), ())
def iOfVote (v0 : DVote) : Option (DMsg) :=
  (icopyBytes v0.2.2.1).bind fun v_1 =>
  (icopyBytes v0.2.2.2.2.1).bind fun v_2 =>
  some (1, (v0.1, v0.2.1, v_1, v0.2.2.2.1, v_2, v0.2.2.2.2.2), (0, 0, [], [], [], ()), (0, 0, 0, [], [], (0, 0, [], [], [], ()), ()), ((0, 0, 0, [], [], (0, 0, [], [], [], ()), ()), [], ()), (0, [], ()), ([], (0, 0, [], [], [], ()), ()), (0, 0, 0, [], [], ()), ())
def sl16Some_l0 : Nat → Dl01Cur → DIncl → DIncl → Int → Option (Dl01Cur × DIncl × DIncl)
  | 0, _, _, _, _ => none
  | k + 1, c0, s4, x6, i7 =>
    cond (decide (i7 > 0)) (
      (sl11Hash c0).bind fun v_7 =>
      (app x6.2.2.2.2.1 [v_7.1]).bind fun v_8 =>
      sl16Some_l0 k v_7.2 s4 (x6.1, x6.2.1, x6.2.2.1, x6.2.2.2.1, v_8, ()) (su .i64 i7 1)) <|
    some (c0, s4, x6)
def sl16Some (k : Nat) (c0 : Dl01Cur) (l1 : DLimits) : Option (DIncl × Dl01Cur) :=
  (sl01Below c0 8).bind fun v_1 =>
  cond (decide (l1.2.2.1 > 0)) (
    (sl01Below v_1.2 l1.2.2.1).bind fun v_2 =>
    (sl01Below v_2.2 200).bind fun v_3 =>
    (sl01Below v_3.2 (ad .i64 1 v_2.1)).bind fun v_4 =>
    (sl01Bytes k v_4.2 3).bind fun v_5 =>
    cond (decide (l1.2.1 < 3)) (
      (sPathLen k v_4.1 (ad .i64 1 v_2.1)).bind fun v_6 =>
      (sl16Some_l0 k v_5.2 (0, 0, 0, [], [], ()) (v_3.1, ad .i64 1 v_2.1, v_4.1, [], [], ()) v_6).bind fun v_9 =>
      some (v_9.2.2, v_9.1)) <|
    (sPathLen k v_4.1 (ad .i64 1 v_2.1)).bind fun v_10 =>
    (sl16Some_l0 k v_5.2 (0, 0, 0, [], [], ()) (v_3.1, ad .i64 1 v_2.1, v_4.1, v_5.1, [], ()) v_10).bind fun v_11 =>
    some (v_11.2.2, v_11.1)) <|
  (sl01Below v_1.2 200).bind fun v_12 =>
  (sl01Below v_12.2 (ad .i64 1 v_1.1)).bind fun v_13 =>
  (sl01Bytes k v_13.2 3).bind fun v_14 =>
  cond (decide (l1.2.1 < 3)) (
    (sPathLen k v_13.1 (ad .i64 1 v_1.1)).bind fun v_15 =>
    (sl16Some_l0 k v_14.2 (0, 0, 0, [], [], ()) (v_12.1, ad .i64 1 v_1.1, v_13.1, [], [], ()) v_15).bind fun v_16 =>
    some (v_16.2.2, v_16.1)) <|
  (sPathLen k v_13.1 (ad .i64 1 v_1.1)).bind fun v_17 =>
  (sl16Some_l0 k v_14.2 (0, 0, 0, [], [], ()) (v_12.1, ad .i64 1 v_1.1, v_13.1, v_14.1, [], ()) v_17).bind fun v_18 =>
  some (v_18.2.2, v_18.1)
def sOfIncl (k : Nat) (x0 : DIncl) : Option (DMsg) :=
  (sl16Incl k x0).bind fun v_1 =>
  some (7, (0, 0, [], 0, [], ()), (0, 0, [], [], [], ()), (0, 0, 0, [], [], (0, 0, [], [], [], ()), ()), ((0, 0, 0, [], [], (0, 0, [], [], [], ()), ()), [], ()), (0, [], ()), ([], (0, 0, [], [], [], ()), ()), v_1, ())
def sl16Draw (k : Nat) (c0 : Dl01Cur) (l1 : DLimits) : Option (DProof × Dl01Cur) :=
  (sl01Below c0 (su .i64 l1.2.2.2.2.1 2)).bind fun v_1 =>
  (sl13Chain k v_1.2 l1 (ad .i64 3 v_1.1)).bind fun v_2 =>
  (sl12Draw k v_2.2 l1).bind fun v_3 =>
  (rd v_2.1 (su .i64 (len v_2.1) 1)).bind fun _v_4 =>
  (rd v_2.1 (su .i64 (len v_2.1) 1)).bind fun v_5 =>
  (sHeadHash k l1 v_5).bind fun v_6 =>
  some ((v_2.1, (v_5.1, v_5.2.1, v_6, v_3.1.2.2.2), ()), v_3.2)
def sOfProof (k : Nat) (p0 : DProof) : Option (DMsg) :=
  (sl16Copy k p0).bind fun v_1 =>
  some (6, (0, 0, [], 0, [], ()), (0, 0, [], [], [], ()), (0, 0, 0, [], [], (0, 0, [], [], [], ()), ()), ((0, 0, 0, [], [], (0, 0, [], [], [], ()), ()), [], ()), (0, [], ()), v_1, (0, 0, 0, [], [], ()), ())
def sl15Draw_l0 : Nat → Dl01Cur → DLimits → DTc → DTc → Int → Option (Dl01Cur × DTc × DTc)
  | 0, _, _, _, _, _ => none
  | k + 1, c0, l3, s4, t5, i6 =>
    cond (decide (i6 < l3.1)) (
      (sl01Once c0 3).bind fun v_2 =>
      cond (!v_2.1) (
        (sl01Below v_2.2 t5.1).bind fun v_3 =>
        (sl11Hash v_3.2).bind fun v_4 =>
        (app t5.2.1 [(i6, v_3.1, v_4.1, ())]).bind fun v_5 =>
        sl15Draw_l0 k v_4.2 l3 s4 (t5.1, v_5, ()) (ad .i64 i6 1)) <|
      sl15Draw_l0 k v_2.2 l3 s4 t5 (ad .i64 i6 1)) <|
    some (c0, s4, t5)
def sl15Draw (k : Nat) (c0 : Dl01Cur) (l1 : DLimits) : Option (DTc × Dl01Cur) :=
  (sl01Below c0 200).bind fun v_1 =>
  (sl15Draw_l0 k v_1.2 l1 (0, [], ()) (ad .i64 1 v_1.1, [], ()) 0).bind fun v_6 =>
  some (v_6.2.2, v_6.1)
def sOfTc (k : Nat) (t0 : DTc) : Option (DMsg) :=
  (sl15Copy k t0).bind fun v_1 =>
  some (5, (0, 0, [], 0, [], ()), (0, 0, [], [], [], ()), (0, 0, 0, [], [], (0, 0, [], [], [], ()), ()), ((0, 0, 0, [], [], (0, 0, [], [], [], ()), ()), [], ()), v_1, ([], (0, 0, [], [], [], ()), ()), (0, 0, 0, [], [], ()), ())
def sl14Draw (k : Nat) (c0 : Dl01Cur) (l1 : DLimits) : Option (DBlock × Dl01Cur) :=
  (sl13Draw k c0 l1).bind fun v_1 =>
  (sl14Txs k v_1.2 l1).bind fun v_2 =>
  (sBlockOf k l1 v_1.1 v_2.1).bind fun v_3 =>
  some (v_3.1, v_2.2)
def sOfBlock (k : Nat) (x0 : DBlock) : Option (DMsg) :=
  (sl14Copy k x0).bind fun v_1 =>
  some (4, (0, 0, [], 0, [], ()), (0, 0, [], [], [], ()), (0, 0, 0, [], [], (0, 0, [], [], [], ()), ()), v_1, (0, [], ()), ([], (0, 0, [], [], [], ()), ()), (0, 0, 0, [], [], ()), ())
def sOfHead (k : Nat) (h0 : DHead) : Option (DMsg) :=
  (sl13Copy k h0).bind fun v_1 =>
  some (3, (0, 0, [], 0, [], ()), (0, 0, [], [], [], ()), v_1, ((0, 0, 0, [], [], (0, 0, [], [], [], ()), ()), [], ()), (0, [], ()), ([], (0, 0, [], [], [], ()), ()), (0, 0, 0, [], [], ()), ())
def sOfQc (k : Nat) (q0 : DQc) : Option (DMsg) :=
  (sl12Copy k q0).bind fun v_1 =>
  some (2, (0, 0, [], 0, [], ()), v_1, (0, 0, 0, [], [], (0, 0, [], [], [], ()), ()), ((0, 0, 0, [], [], (0, 0, [], [], [], ()), ()), [], ()), (0, [], ()), ([], (0, 0, [], [], [], ()), ()), (0, 0, 0, [], [], ()), ())
def iGetFix_l0 : Nat → Int → Int → Int → (List Int) → Int → Int → Option (Int × Int × Int)
  | 0, _, _, _, _, _, _ => none
  | k + 1, end10, code11, n12, s26, s27, s28 =>
    cond (decide (s28 < s27)) (
      (rd s26 s28).bind fun _v_3 =>
      (rd s26 s28).bind fun v_4 =>
      cond (decide ((mu .i64 8 s28) < 0)) none <|
      iGetFix_l0 k end10 code11 (io .i64 n12 (sl .i64 (cv .i64 v_4) (mu .i64 8 s28))) s26 s27 (ad .i64 s28 1)) <|
    some (end10, code11, n12)
def iGetFix (k : Nat) (b0 : List Int) (at1 : Int) (w2 : Int) : Option (Int × Int × Int) :=
  (iwithin w2 1 7).bind fun v_1 =>
  cond (!v_1) (some (0, 0, 5)) <|
  (iGetRaw b0 at1 w2).bind fun v_2 =>
  (iGetFix_l0 k v_2.2.1 v_2.2.2 0 v_2.1 (len v_2.1) 0).bind fun v_5 =>
  some (v_5.2.2, v_5.1, v_5.2.1)
def iCrc (k : Nat) (b0 : List Int) : Option (Int) :=
  (iCrcMore k 0 b0).bind fun v_1 =>
  some v_1
def iFrameAt (k : Nat) (l0 : DLimits) (s1 : List Int) (at2 : Int) : Option (Int × Int) :=
  (iLimitsOk l0).bind fun v_1 =>
  cond (!v_1) (some (0, 0)) <|
  (iwithin at2 0 (su .i64 (len s1) 1)).bind fun v_2 =>
  cond (!v_2) (some (0, 0)) <|
  (rd s1 at2).bind fun v_3 =>
  cond (v_3 != 181) (some (0, 0)) <|
  cond (decide ((su .i64 (len s1) at2) > 1)) (
    (rd s1 (ad .i64 at2 1)).bind fun v_4 =>
    cond (v_4 != 70) (some (0, 0)) <|
    cond (decide ((su .i64 (len s1) at2) < 4)) (some (1, 0)) <|
    (iGetFix k s1 (ad .i64 at2 2) 2).bind fun v_5 =>
    (iwithin v_5.1 1 l0.2.2.2.1).bind fun v_6 =>
    cond (!v_6) (some (0, 0)) <|
    cond (decide ((su .i64 (len s1) at2) < (ad .i64 8 v_5.1))) (some (1, ad .i64 8 v_5.1)) <|
    (iGetFix k s1 (ad .i64 at2 4) 4).bind fun v_7 =>
    (sub s1 (ad .i64 at2 8) (ad .i64 (ad .i64 at2 8) v_5.1)).bind fun v_8 =>
    (iCrc k v_8).bind fun v_9 =>
    cond (v_7.1 != v_9) (some (2, ad .i64 8 v_5.1)) <|
    some (3, ad .i64 8 v_5.1)) <|
  cond (decide ((su .i64 (len s1) at2) < 4)) (some (1, 0)) <|
  (iGetFix k s1 (ad .i64 at2 2) 2).bind fun v_10 =>
  (iwithin v_10.1 1 l0.2.2.2.1).bind fun v_11 =>
  cond (!v_11) (some (0, 0)) <|
  cond (decide ((su .i64 (len s1) at2) < (ad .i64 8 v_10.1))) (some (1, ad .i64 8 v_10.1)) <|
  (iGetFix k s1 (ad .i64 at2 4) 4).bind fun v_12 =>
  (sub s1 (ad .i64 at2 8) (ad .i64 (ad .i64 at2 8) v_10.1)).bind fun v_13 =>
  (iCrc k v_13).bind fun v_14 =>
  cond (v_12.1 != v_14) (some (2, ad .i64 8 v_10.1)) <|
  some (3, ad .i64 8 v_10.1)
def iFrameData (k : Nat) (l0 : DLimits) (s1 : List Int) (at2 : Int) : Option (List Int × Bool) :=
  (iFrameAt k l0 s1 at2).bind fun v_1 =>
  cond (v_1.1 != 3) (some ([], false)) <|
  (sub s1 (ad .i64 at2 8) (ad .i64 at2 v_1.2)).bind fun v_2 =>
  (icopyBytes v_2).bind fun v_3 =>
  some (v_3, true)
def sl11Draw (c0 : Dl01Cur) (l1 : DLimits) : Option (DVote × Dl01Cur) :=
  (sl01AnyNum c0).bind fun v_1 =>
  (sl01AnyNum v_1.2).bind fun v_2 =>
  (sl11Hash v_2.2).bind fun v_3 =>
  (sl01Below v_3.2 l1.1).bind fun v_4 =>
  (sl11Hash v_4.2).bind fun v_5 =>
  some ((v_1.1, v_2.1, v_3.1, v_4.1, v_5.1, ()), v_5.2)
def sOfVote (v0 : DVote) : Option (DMsg) :=
  (sl01Copy v0.2.2.1).bind fun v_1 =>
  (sl01Copy v0.2.2.2.2.1).bind fun v_2 =>
  some (1, (v0.1, v0.2.1, v_1, v0.2.2.2.1, v_2, v0.2.2.2.2.2), (0, 0, [], [], [], ()), (0, 0, 0, [], [], (0, 0, [], [], [], ()), ()), ((0, 0, 0, [], [], (0, 0, [], [], [], ()), ()), [], ()), (0, [], ()), ([], (0, 0, [], [], [], ()), ()), (0, 0, 0, [], [], ()), ())
def sl17Kind (k0 : Int) : Option (Bool) :=
  (sl01In k0 1 7).bind fun v_1 =>
  some v_1
def sl17Only (k : Nat) (m0 : DMsg) : Option (DMsg) :=
  cond (m0.1 == 1) (
    (sOfVote m0.2.1).bind fun v_1 =>
    some v_1) <|
  cond (m0.1 == 2) (
    (sOfQc k m0.2.2.1).bind fun v_2 =>
    some v_2) <|
  cond (m0.1 == 3) (
    (sOfHead k m0.2.2.2.1).bind fun v_3 =>
    some v_3) <|
  cond (m0.1 == 4) (
    (sOfBlock k m0.2.2.2.2.1).bind fun v_4 =>
    some v_4) <|
  cond (m0.1 == 5) (
    (sOfTc k m0.2.2.2.2.2.1).bind fun v_5 =>
    some v_5) <|
  cond (m0.1 == 6) (
    (sOfProof k m0.2.2.2.2.2.2.1).bind fun v_6 =>
    some v_6) <|
  cond (m0.1 == 7) (
    (sOfIncl k m0.2.2.2.2.2.2.2.1).bind fun v_7 =>
    some v_7) <|
  some (0, (0, 0, [], 0, [], ()), (0, 0, [], [], [], ()), (0, 0, 0, [], [], (0, 0, [], [], [], ()), ()), ((0, 0, 0, [], [], (0, 0, [], [], [], ()), ()), [], ()), (0, [], ()), ([], (0, 0, [], [], [], ()), ()), (0, 0, 0, [], [], ()), ())
def sMsgSame (k : Nat) (a0 : DMsg) (b1 : DMsg) : Option (Bool) :=
  cond (a0.1 == b1.1) (
    (sVoteSame a0.2.1 b1.2.1).bind fun v_1 =>
    cond v_1 (
      (sQcSame k a0.2.2.1 b1.2.2.1).bind fun v_2 =>
      cond v_2 (
        (sHeadSame k a0.2.2.2.1 b1.2.2.2.1).bind fun v_3 =>
        cond v_3 (
          (sBlockSame k a0.2.2.2.2.1 b1.2.2.2.2.1).bind fun v_4 =>
          cond v_4 (
            (sTcSame k a0.2.2.2.2.2.1 b1.2.2.2.2.2.1).bind fun v_5 =>
            cond v_5 (
              (sProofSame k a0.2.2.2.2.2.2.1 b1.2.2.2.2.2.2.1).bind fun v_6 =>
              cond v_6 (
                (sInclSame k a0.2.2.2.2.2.2.2.1 b1.2.2.2.2.2.2.2.1).bind fun v_7 =>
                some v_7) <|
              some false) <|
            some false) <|
          some false) <|
        some false) <|
      some false) <|
    some false) <|
  some false
def sl17Put (k : Nat) (l0 : DLimits) (b1 : List Int) (m2 : DMsg) : Option (List Int × Bool) :=
  cond (m2.1 == 1) (
    (sPutVote k l0 b1 m2.2.1).bind fun v_1 =>
    some v_1) <|
  cond (m2.1 == 2) (
    (sPutQc k l0 b1 m2.2.2.1).bind fun v_2 =>
    some v_2) <|
  cond (m2.1 == 3) (
    (sPutHead k l0 b1 m2.2.2.2.1).bind fun v_3 =>
    some v_3) <|
  cond (m2.1 == 4) (
    (sPutBlock k l0 b1 m2.2.2.2.2.1).bind fun v_4 =>
    some v_4) <|
  cond (m2.1 == 5) (
    (sPutTc k l0 b1 m2.2.2.2.2.2.1).bind fun v_5 =>
    some v_5) <|
  cond (m2.1 == 6) (
    (sPutProof k l0 b1 m2.2.2.2.2.2.2.1).bind fun v_6 =>
    some v_6) <|
  (sPutIncl k l0 b1 m2.2.2.2.2.2.2.2.1).bind fun v_7 =>
  some v_7
def sMsgOk (k : Nat) (l0 : DLimits) (m1 : DMsg) : Option (Bool) :=
  (sl17Kind m1.1).bind fun v_1 =>
  cond (!v_1) (some false) <|
  (sl17Only k m1).bind fun v_2 =>
  (sMsgSame k m1 v_2).bind fun v_3 =>
  cond (!v_3) (some false) <|
  (sl17Put k l0 [] m1).bind fun v_4 =>
  some v_4.2
def sEncode (k : Nat) (l0 : DLimits) (m1 : DMsg) : Option (List Int × Bool) :=
  (sMsgOk k l0 m1).bind fun v_1 =>
  cond (!v_1) (some ([], false)) <|
  (sl17Put k l0 [cv .u8 m1.1] m1).bind fun v_2 =>
  some v_2
def sl17Draw (k : Nat) (c0 : Dl01Cur) (l1 : DLimits) : Option (DMsg × Dl01Cur) :=
  (sl01Below c0 9).bind fun v_1 =>
  cond (v_1.1 == 0) (
    (sl12Draw k v_1.2 l1).bind fun v_2 =>
    (sOfQc k v_2.1).bind fun v_3 =>
    some (v_3, v_2.2)) <|
  cond (v_1.1 == 1) (
    (sl13Draw k v_1.2 l1).bind fun v_4 =>
    (sOfHead k v_4.1).bind fun v_5 =>
    some (v_5, v_4.2)) <|
  cond (v_1.1 == 2) (
    (sl14Draw k v_1.2 l1).bind fun v_6 =>
    (sOfBlock k v_6.1).bind fun v_7 =>
    some (v_7, v_6.2)) <|
  cond (v_1.1 == 3) (
    (sl15Draw k v_1.2 l1).bind fun v_8 =>
    (sOfTc k v_8.1).bind fun v_9 =>
    some (v_9, v_8.2)) <|
  cond (v_1.1 == 4) (
    (sl16Draw k v_1.2 l1).bind fun v_10 =>
    (sOfProof k v_10.1).bind fun v_11 =>
    some (v_11, v_10.2)) <|
  cond (v_1.1 == 5) (
    cond (decide (l1.2.2.1 > 0)) (
      (sl16Some k v_1.2 l1).bind fun v_12 =>
      (sOfIncl k v_12.1).bind fun v_13 =>
      some (v_13, v_12.2)) <|
    (sl11Draw v_1.2 l1).bind fun v_14 =>
    (sOfVote v_14.1).bind fun v_15 =>
    some (v_15, v_14.2)) <|
  (sl11Draw v_1.2 l1).bind fun v_16 =>
  (sOfVote v_16.1).bind fun v_17 =>
  some (v_17, v_16.2)
def sPutFix_l0 : Nat → Int → Int → (List Int) → Int → Option (List Int)
  | 0, _, _, _, _ => none
  | k + 1, n1, w2, out8, i9 =>
    cond (decide (i9 < w2)) (
      (app out8 [cv .u8 (re n1 256)]).bind fun v_4 =>
      sPutFix_l0 k (qu .i64 n1 256) w2 v_4 (ad .i64 i9 1)) <|
    some out8
def sPutFix (k : Nat) (b0 : List Int) (n1 : Int) (w2 : Int) : Option (List Int × Bool) :=
  (sl01In w2 1 7).bind fun v_1 =>
  cond (!v_1) (some ([], false)) <|
  cond (decide (n1 < 0)) (some ([], false)) <|
  (sl01Top w2).bind fun v_2 =>
  cond (decide (n1 ≥ v_2)) (some ([], false)) <|
  (sl01Copy b0).bind fun v_3 =>
  (sPutFix_l0 k n1 w2 v_3 0).bind fun v_5 =>
  some (v_5, true)
def sFrame (k : Nat) (l0 : DLimits) (b1 : List Int) : Option (List Int × Bool) :=
  (sLimitsOk l0).bind fun v_1 =>
  cond (!v_1) (some ([], false)) <|
  (sl01In (len b1) 1 l0.2.2.2.1).bind fun v_2 =>
  cond (!v_2) (some ([], false)) <|
  (sPutFix k [181, 70] (len b1) 2).bind fun v_3 =>
  (sCrc k b1).bind fun v_4 =>
  (sPutFix k v_3.1 v_4 4).bind fun v_5 =>
  (app v_5.1 b1).bind fun v_6 =>
  some (v_6, true)
def sl18Some (k : Nat) (c0 : Dl01Cur) (l1 : DLimits) : Option (List Int × Dl01Cur) :=
  (sl11Draw c0 l1).bind fun v_1 =>
  (sOfVote v_1.1).bind fun v_2 =>
  (sEncode k l1 v_2).bind fun v_3 =>
  (sl01Once v_1.2 4).bind fun v_4 =>
  cond v_4.1 (
    (sl17Draw k v_4.2 l1).bind fun v_5 =>
    (sEncode k l1 v_5.1).bind fun v_6 =>
    (sl01Once v_5.2 6).bind fun v_7 =>
    cond v_7.1 (
      (sl01Bytes k v_7.2 5).bind fun v_8 =>
      (app v_8.1 [1]).bind fun v_9 =>
      (sFrame k l1 v_9).bind fun v_10 =>
      some (v_10.1, v_8.2)) <|
    (sFrame k l1 v_6.1).bind fun v_11 =>
    some (v_11.1, v_7.2)) <|
  (sl01Once v_4.2 6).bind fun v_12 =>
  cond v_12.1 (
    (sl01Bytes k v_12.2 5).bind fun v_13 =>
    (app v_13.1 [1]).bind fun v_14 =>
    (sFrame k l1 v_14).bind fun v_15 =>
    some (v_15.1, v_13.2)) <|
  (sFrame k l1 v_3.1).bind fun v_16 =>
  some (v_16.1, v_12.2)
def iPathLen : Nat → Int → Int → Option (Int)
  | 0, _, _ => none
  | k + 1, i0, n1 =>
  cond (decide (n1 < 2)) (some 0) <|
  cond (decide (n1 > 1048576)) (some 0) <|
  (iwithin i0 0 (su .i64 n1 1)).bind fun v_1 =>
  cond (!v_1) (some 0) <|
  (iSplitAt k n1).bind fun v_2 =>
  cond (decide (i0 < v_2)) (
    (iPathLen k i0 v_2).bind fun v_3 =>
    some (ad .i64 1 v_3)) <|
  (iPathLen k (su .i64 i0 v_2) (su .i64 n1 v_2)).bind fun v_4 =>
  some (ad .i64 1 v_4)
def ireader_text (k : Nat) (r0 : Dl01Cur) (most1 : Int) : Option (List Int × Dl01Cur) :=
  cond (r0.2.2.1 != 0) (some ([], r0)) <|
  (iGetText k r0.1 r0.2.1 most1).bind fun v_1 =>
  some (v_1.1, r0.1, v_1.2.1, v_1.2.2, r0.2.2.2)
def iLeafHash (k : Nat) (x0 : List Int) : Option (List Int) :=
  (app [0] x0).bind fun v_1 =>
  (iSha k v_1).bind fun v_2 =>
  some v_2
def iTreeRoot : Nat → (List (List Int)) → Option (List Int)
  | 0, _ => none
  | k + 1, l0 =>
  cond ((len l0) == 0) (
    (iSha k []).bind fun v_1 =>
    some v_1) <|
  cond ((len l0) == 1) (
    (rd l0 0).bind fun v_2 =>
    (iLeafHash k v_2).bind fun v_3 =>
    some v_3) <|
  (iSplitAt k (len l0)).bind fun v_4 =>
  (sub l0 0 v_4).bind fun v_5 =>
  (iTreeRoot k v_5).bind fun v_6 =>
  (sub l0 v_4 (len l0)).bind fun v_7 =>
  (iTreeRoot k v_7).bind fun v_8 =>
  (iNodeHash k v_6 v_8).bind fun v_9 =>
  some v_9
def ireader_must (r0 : Dl01Cur) (ok1 : Bool) (code2 : Int) : Option (Dl01Cur) :=
  cond (r0.2.2.1 == 0) (
    cond (!ok1) (some (r0.1, r0.2.1, code2, r0.2.2.2)) <|
    some r0) <|
  some r0
def iGetBits (k : Nat) (b0 : List Int) (at1 : Int) (n2 : Int) : Option (List Int × Int × Int) :=
  (iwithin n2 1 10).bind fun v_1 =>
  cond (!v_1) (some ([], 0, 5)) <|
  (iBitsSize n2).bind fun v_2 =>
  (iGetRaw b0 at1 v_2).bind fun v_3 =>
  cond (v_3.2.2 != 0) (some ([], 0, v_3.2.2)) <|
  (iBitsOk k v_3.1 n2).bind fun v_4 =>
  cond (!v_4) (some ([], 0, 4)) <|
  some (v_3.1, v_3.2.1, 0)
def ireader_num (k : Nat) (r0 : Dl01Cur) : Option (Int × Dl01Cur) :=
  cond (r0.2.2.1 != 0) (some (0, r0)) <|
  (iGetVar k r0.1 r0.2.1).bind fun v_1 =>
  some (v_1.1, r0.1, v_1.2.1, v_1.2.2, r0.2.2.2)
def ireader_below (k : Nat) (r0 : Dl01Cur) (n1 : Int) (code2 : Int) : Option (Int × Dl01Cur) :=
  (ireader_num k r0).bind fun v_1 =>
  (ireader_must v_1.2 (decide (v_1.1 < n1)) code2).bind fun v_2 =>
  some (v_1.1, v_2)
def ireader_hash (r0 : Dl01Cur) : Option (List Int × Dl01Cur) :=
  (ireader_raw r0 32).bind fun v_1 =>
  some v_1
def iPathRoot (k : Nat) (h0 : List Int) (i1 : Int) (n2 : Int) (path3 : List (List Int)) : Option (List Int × Bool) :=
  (iareHashes k [h0]).bind fun v_1 =>
  cond (!v_1) (some ([], false)) <|
  cond (decide (n2 < 1)) (some ([], false)) <|
  cond (decide (n2 > 1048576)) (some ([], false)) <|
  (iwithin i1 0 (su .i64 n2 1)).bind fun v_2 =>
  cond (!v_2) (some ([], false)) <|
  (iPathLen k i1 n2).bind fun v_3 =>
  cond ((len path3) != v_3) (some ([], false)) <|
  (iareHashes k path3).bind fun v_4 =>
  cond (!v_4) (some ([], false)) <|
  (ipathRoot k h0 i1 n2 path3).bind fun v_5 =>
  some (v_5, true)
def iProof_closes (p0 : DProof) : Option (Bool) :=
  (rd p0.1 (su .i64 (len p0.1) 1)).bind fun v_1 =>
  cond (p0.2.1.1 == v_1.1) (some (p0.2.1.2.1 == v_1.2.1)) <|
  some false
def iProofOk (k : Nat) (l0 : DLimits) (p1 : DProof) : Option (Bool) :=
  (iwithin (len p1.1) 3 l0.2.2.2.2.1).bind fun v_1 =>
  cond v_1 (
    (iareHeads k l0 p1.1).bind fun v_2 =>
    cond v_2 (
      (iQcOk k l0 p1.2.1).bind fun v_3 =>
      cond v_3 (
        (iProof_closes p1).bind fun v_4 =>
        some v_4) <|
      some false) <|
    some false) <|
  some false
def iCommits (k : Nat) (l0 : DLimits) (p1 : DProof) : Option (DHead × Bool) :=
  (iProofOk k l0 p1).bind fun v_1 =>
  cond (!v_1) (some ((0, 0, 0, [], [], (0, 0, [], [], [], ()), ()), false)) <|
  (rd p1.1 (su .i64 (len p1.1) 3)).bind fun v_2 =>
  (iHead_copied k v_2).bind fun v_3 =>
  some (v_3, true)
def ibelongs (k : Nat) (l0 : DLimits) (t1 : DTable) : Option (Bool) :=
  (iLimitsOk l0).bind fun v_1 =>
  cond v_1 (
    (iTableOk k t1).bind fun v_2 =>
    cond v_2 (some ((len t1.1) == l0.1)) <|
    some false) <|
  some false
def iQcVotes_l0 : Nat → DQc → (List DVote) → (List Int) → Int → Int → Option (List DVote)
  | 0, _, _, _, _, _ => none
  | k + 1, q1, out3, s16, s17, s18 =>
    cond (decide (s18 < s17)) (
      (rd s16 s18).bind fun _v_3 =>
      (rd s16 s18).bind fun v_4 =>
      (icopyBytes q1.2.2.1).bind fun v_5 =>
      (rd q1.2.2.2.2.1 s18).bind fun v_6 =>
      (icopyBytes v_6).bind fun v_7 =>
      (app out3 [(q1.1, q1.2.1, v_5, v_4, v_7, ())]).bind fun v_8 =>
      iQcVotes_l0 k q1 v_8 s16 s17 (ad .i64 s18 1)) <|
    some out3
def iQcVotes (k : Nat) (q0 : DQc) : Option (List DVote) :=
  (iBitsCount k q0.2.2.2.1).bind fun v_1 =>
  cond ((len q0.2.2.2.2.1) != v_1) (some []) <|
  (iBitsList k q0.2.2.2.1).bind fun v_2 =>
  (iQcVotes_l0 k q0 [] v_2 (len v_2) 0).bind fun v_9 =>
  some v_9
def iSignVote (k : Nat) (t0 : DTable) (view1 : Int) (height2 : Int) (block3 : List Int) (who4 : Int) : Option (DVote × Bool) :=
  (iVoteBytes k view1 height2 block3).bind fun v_1 =>
  optE v_1 (
    (iTableOk k t0).bind fun v_3 =>
    cond (!v_3) (some ((0, 0, [], 0, [], ()), false)) <|
    some ((0, 0, [], 0, [], ()), false)) fun v_2 =>
  (iTableOk k t0).bind fun v_4 =>
  cond (!v_4) (some ((0, 0, [], 0, [], ()), false)) <|
  (iwithin who4 0 (su .i64 (len t0.1) 1)).bind fun v_5 =>
  cond (!v_5) (some ((0, 0, [], 0, [], ()), false)) <|
  (icopyBytes block3).bind fun v_6 =>
  (rd t0.1 who4).bind fun v_7 =>
  (iMac k v_7.2.1 v_2).bind fun v_8 =>
  some ((view1, height2, v_6, who4, v_8, ()), true)
def iVoteSame (a0 : DVote) (b1 : DVote) : Option (Bool) :=
  cond (a0.1 == b1.1) (
    cond (a0.2.1 == b1.2.1) (
      cond (a0.2.2.2.1 == b1.2.2.2.1) (
        (iSameBytes a0.2.2.1 b1.2.2.1).bind fun v_1 =>
        cond v_1 (
          (iSameBytes a0.2.2.2.2.1 b1.2.2.2.2.1).bind fun v_2 =>
          some v_2) <|
        some false) <|
      some false) <|
    some false) <|
  some false
def iVoteGood (k : Nat) (t0 : DTable) (v1 : DVote) : Option (Bool) :=
  (iSignVote k t0 v1.1 v1.2.1 v1.2.2.1 v1.2.2.2.1).bind fun v_1 =>
  cond v_1.2 (
    (iVoteSame v_1.1 v1).bind fun v_2 =>
    some v_2) <|
  some false
def iIsQuorum (k : Nat) (t0 : DTable) (bits1 : List Int) : Option (Bool) :=
  (iTableOk k t0).bind fun v_1 =>
  cond v_1 (
    (iWeightOf k t0 bits1).bind fun v_2 =>
    (iTotalOf k t0).bind fun v_3 =>
    some (decide ((mu .i64 3 v_2) > (mu .i64 2 v_3)))) <|
  some false
def iQcCode_l0 : Nat → DTable → DQc → (List DVote) → Int → Int → Option ((DTable × DQc) ⊕ (Int))
  | 0, _, _, _, _, _ => none
  | k + 1, t4, q5, s20, s21, s22 =>
    cond (decide (s22 < s21)) (
      (rd s20 s22).bind fun _v_4 =>
      (rd s20 s22).bind fun v_5 =>
      (iVoteGood k t4 v_5).bind fun v_6 =>
      cond (!v_6) (some (Sum.inr 2)) <|
      iQcCode_l0 k t4 q5 s20 s21 (ad .i64 s22 1)) <|
    some (Sum.inl (t4, q5))
def iQcCode (k : Nat) (l0 : DLimits) (t1 : DTable) (q2 : DQc) : Option (Int) :=
  (ibelongs k l0 t1).bind fun v_1 =>
  cond (!v_1) (some 1) <|
  (iQcOk k l0 q2).bind fun v_2 =>
  cond (!v_2) (some 1) <|
  (iQcVotes k q2).bind fun v_3 =>
  (iQcCode_l0 k t1 q2 v_3 (len v_3) 0).bind fun v_7 =>
  sumE v_7 (fun v_8 =>
    (iIsQuorum k v_8.1 v_8.2.2.2.2.1).bind fun v_10 =>
    cond (!v_10) (some 3) <|
    some 0) fun v_9 =>
  some v_9
def iProofCode_l0 : Nat → DLimits → DTable → DProof → (List DHead) → Int → Int → Option ((DLimits × DTable × DProof) ⊕ (Int))
  | 0, _, _, _, _, _, _ => none
  | k + 1, l3, t4, p5, s80, s81, s82 =>
    cond (decide (s82 < s81)) (
      (rd s80 s82).bind fun v_12 =>
      (iQcCode k l3 t4 v_12.2.2.2.2.2.1).bind fun v_13 =>
      cond (v_13 != 0) (some (Sum.inr v_13)) <|
      iProofCode_l0 k l3 t4 p5 s80 s81 (ad .i64 s82 1)) <|
    some (Sum.inl (l3, t4, p5))
def iProofCode (k : Nat) (l0 : DLimits) (t1 : DTable) (p2 : DProof) : Option (Int) :=
  (ibelongs k l0 t1).bind fun v_1 =>
  cond (!v_1) (some 1) <|
  (iProofOk k l0 p2).bind fun v_2 =>
  cond (!v_2) (some 1) <|
  (iChainCode k l0 p2.1).bind fun v_3 =>
  cond (v_3 != 0) (some 4) <|
  (rd p2.1 (su .i64 (len p2.1) 1)).bind fun v_4 =>
  (iHeadHash k l0 v_4).bind fun v_5 =>
  (iSameBytes p2.2.1.2.2.1 v_5).bind fun v_6 =>
  cond (!v_6) (some 4) <|
  (rd p2.1 (su .i64 (len p2.1) 2)).bind fun v_7 =>
  (rd p2.1 (su .i64 (len p2.1) 3)).bind fun v_8 =>
  cond (v_7.1 != (ad .i64 v_8.1 1)) (some 5) <|
  (rd p2.1 (su .i64 (len p2.1) 1)).bind fun v_9 =>
  (rd p2.1 (su .i64 (len p2.1) 2)).bind fun v_10 =>
  cond (v_9.1 != (ad .i64 v_10.1 1)) (some 5) <|
  (sub p2.1 1 (len p2.1)).bind fun v_11 =>
  (iProofCode_l0 k l0 t1 p2 v_11 (len v_11) 0).bind fun v_14 =>
  sumE v_14 (fun v_15 =>
    (iQcCode k v_15.1 v_15.2.1 v_15.2.2.2.1).bind fun v_17 =>
    some v_17) fun v_16 =>
  some v_16
def iTcOk_l0 : Nat → DLimits → DTc → (List DEntry) → Int → Int → Option ((DLimits × DTc) ⊕ (Bool))
  | 0, _, _, _, _, _ => none
  | k + 1, l2, t3, s8, s9, s10 =>
    cond (decide (s10 < s9)) (
      (rd s8 s10).bind fun v_1 =>
      (iwithin v_1.1 0 (su .i64 l2.1 1)).bind fun v_2 =>
      cond (!v_2) (some (Sum.inr false)) <|
      cond (decide (s10 > 0)) (
        (rd t3.2.1 (su .i64 s10 1)).bind fun v_3 =>
        cond (decide (v_1.1 ≤ v_3.1)) (some (Sum.inr false)) <|
        (iwithin v_1.2.1 0 (su .i64 t3.1 1)).bind fun v_4 =>
        cond (!v_4) (some (Sum.inr false)) <|
        (iareHashes k [v_1.2.2.1]).bind fun v_5 =>
        cond (!v_5) (some (Sum.inr false)) <|
        iTcOk_l0 k l2 t3 s8 s9 (ad .i64 s10 1)) <|
      (iwithin v_1.2.1 0 (su .i64 t3.1 1)).bind fun v_6 =>
      cond (!v_6) (some (Sum.inr false)) <|
      (iareHashes k [v_1.2.2.1]).bind fun v_7 =>
      cond (!v_7) (some (Sum.inr false)) <|
      iTcOk_l0 k l2 t3 s8 s9 (ad .i64 s10 1)) <|
    some (Sum.inl (l2, t3))
def iTcOk (k : Nat) (l0 : DLimits) (t1 : DTc) : Option (Bool) :=
  (iTcOk_l0 k l0 t1 t1.2.1 (len t1.2.1) 0).bind fun v_8 =>
  sumE v_8 (fun v_9 =>
    (iLimitsOk v_9.1).bind fun v_11 =>
    cond v_11 (
      (iisNum v_9.2.1).bind fun v_12 =>
      cond v_12 (some (decide ((len v_9.2.2.1) ≤ v_9.1.1))) <|
      some false) <|
    some false) fun v_10 =>
  some v_10
def iTcBits_l0 : Nat → DLimits → (List Int) → (List DEntry) → Int → Int → Option (DLimits × List Int)
  | 0, _, _, _, _, _ => none
  | k + 1, l2, who6, s15, s16, s17 =>
    cond (decide (s17 < s16)) (
      (rd s15 s17).bind fun v_2 =>
      (app who6 [v_2.1]).bind fun v_3 =>
      iTcBits_l0 k l2 v_3 s15 s16 (ad .i64 s17 1)) <|
    some (l2, who6)
def iTcBits (k : Nat) (l0 : DLimits) (t1 : DTc) : Option (List Int × Bool) :=
  (iTcOk k l0 t1).bind fun v_1 =>
  cond (!v_1) (some ([], false)) <|
  (iTcBits_l0 k l0 [] t1.2.1 (len t1.2.1) 0).bind fun v_4 =>
  (iBitsOf k v_4.2 v_4.1.1).bind fun v_5 =>
  some v_5
def ientrySame (a0 : DEntry) (b1 : DEntry) : Option (Bool) :=
  cond (a0.1 == b1.1) (
    cond (a0.2.1 == b1.2.1) (
      (iSameBytes a0.2.2.1 b1.2.2.1).bind fun v_1 =>
      some v_1) <|
    some false) <|
  some false
def iEntryGood (k : Nat) (t0 : DTable) (view1 : Int) (e2 : DEntry) : Option (Bool) :=
  (iSignLeave k t0 view1 e2.2.1 e2.1).bind fun v_1 =>
  cond v_1.2 (
    (ientrySame v_1.1 e2).bind fun v_2 =>
    some v_2) <|
  some false
def sLinks (k : Nat) (l0 : DLimits) (a1 : DHead) (b2 : DHead) : Option (Bool) :=
  (sHeadOk k l0 a1).bind fun v_1 =>
  cond v_1 (
    (sHeadOk k l0 b2).bind fun v_2 =>
    cond v_2 (
      (sHeadHash k l0 a1).bind fun v_3 =>
      (sSameBytes b2.2.2.2.1 v_3).bind fun v_4 =>
      cond v_4 (
        cond (b2.2.2.2.2.2.1.1 == a1.1) (some (b2.2.2.2.2.2.1.2.1 == a1.2.1)) <|
        some false) <|
      some false) <|
    some false) <|
  some false
def sl23Goes (k : Nat) (l0 : DLimits) (t1 : DTable) : Option (Bool) :=
  (sLimitsOk l0).bind fun v_1 =>
  cond v_1 (
    (sTableOk k t1).bind fun v_2 =>
    cond v_2 (some (l0.1 == (len t1.1))) <|
    some false) <|
  some false
def sBuildQc_l0 : Nat → Int → Int → (List Int) → DLimits → DTable → DQc → DQc → (List Int) → Int → Int → Option (DLimits × DQc × DQc)
  | 0, _, _, _, _, _, _, _, _, _, _ => none
  | k + 1, view2, height3, block4, l6, t7, s12, q14, s39, s40, s41 =>
    cond (decide (s41 < s40)) (
      (rd s39 s41).bind fun _v_6 =>
      (rd s39 s41).bind fun v_7 =>
      (sSignVote k t7 view2 height3 block4 v_7).bind fun v_8 =>
      (app q14.2.2.2.2.1 [v_8.1.2.2.2.2.1]).bind fun v_9 =>
      sBuildQc_l0 k view2 height3 block4 l6 t7 s12 (q14.1, q14.2.1, q14.2.2.1, q14.2.2.2.1, v_9, ()) s39 s40 (ad .i64 s41 1)) <|
    some (l6, s12, q14)
def sBuildQc (k : Nat) (l0 : DLimits) (t1 : DTable) (view2 : Int) (height3 : Int) (block4 : List Int) (bits5 : List Int) : Option (DQc × Bool) :=
  (sl23Goes k l0 t1).bind fun v_1 =>
  cond (!v_1) (some ((0, 0, [], [], [], ()), false)) <|
  (sBitsOk k bits5 l0.1).bind fun v_2 =>
  cond (!v_2) (some ((0, 0, [], [], [], ()), false)) <|
  (sl01Copy block4).bind fun v_3 =>
  (sl01Copy bits5).bind fun v_4 =>
  (sBitsList k bits5).bind fun v_5 =>
  (sBuildQc_l0 k view2 height3 block4 l0 t1 (0, 0, [], [], [], ()) (view2, height3, v_3, v_4, [], ()) v_5 (len v_5) 0).bind fun v_10 =>
  (sQcOk k v_10.1 v_10.2.2).bind fun v_11 =>
  cond (!v_11) (some ((0, 0, [], [], [], ()), false)) <|
  some (v_10.2.2, true)
def sl21Draw_l0 : Nat → Dl01Cur → Int → DTable → DTable → Int → Option (Dl01Cur × DTable × DTable)
  | 0, _, _, _, _, _ => none
  | k + 1, c0, n1, s4, t5, i6 =>
    cond (decide (i6 < n1)) (
      (sl01Below c0 9).bind fun v_1 =>
      (sl01Pick v_1.2 [1, 1, 1, 2, 5, 1099511627776, ad .i64 1 v_1.1]).bind fun v_2 =>
      (sl01Below v_2.2 9).bind fun v_3 =>
      (app t5.1 [(v_2.1, [cv .u8 i6, cv .u8 v_3.1, 1], ())]).bind fun v_4 =>
      sl21Draw_l0 k v_3.2 n1 s4 (v_4, ()) (ad .i64 i6 1)) <|
    some (c0, s4, t5)
def sl21Draw (k : Nat) (c0 : Dl01Cur) (n1 : Int) : Option (DTable × Dl01Cur) :=
  (sl21Draw_l0 k c0 n1 ([], ()) ([], ()) 0).bind fun v_5 =>
  some (v_5.2.2, v_5.1)
def icopyHeads_l0 : Nat → (List DHead) → (List DHead) → Int → Int → Option (List DHead)
  | 0, _, _, _, _ => none
  | k + 1, out3, s7, s8, s9 =>
    cond (decide (s9 < s8)) (
      (rd s7 s9).bind fun v_1 =>
      (iHead_copied k v_1).bind fun v_2 =>
      (app out3 [v_2]).bind fun v_3 =>
      icopyHeads_l0 k v_3 s7 s8 (ad .i64 s9 1)) <|
    some out3
def icopyHeads (k : Nat) (l0 : List DHead) : Option (List DHead) :=
  (icopyHeads_l0 k [] l0 (len l0) 0).bind fun v_4 =>
  some v_4
def iProof_copied (k : Nat) (p0 : DProof) : Option (DProof) :=
  (icopyHeads k p0.1).bind fun v_1 =>
  (iQc_copied k p0.2.1).bind fun v_2 =>
  some (v_1, v_2, ())
def iMsg_copied (k : Nat) (m0 : DMsg) : Option (DMsg) :=
  (iOfVote m0.2.1).bind fun v_1 =>
  (iQc_copied k m0.2.2.1).bind fun v_2 =>
  (iHead_copied k m0.2.2.2.1).bind fun v_3 =>
  (iBlock_copied k m0.2.2.2.2.1).bind fun v_4 =>
  (iTc_copied k m0.2.2.2.2.2.1).bind fun v_5 =>
  (iProof_copied k m0.2.2.2.2.2.2.1).bind fun v_6 =>
  (iIncl_copied k m0.2.2.2.2.2.2.2.1).bind fun v_7 =>
  some (m0.1, v_1.2.1, v_2, v_3, v_4, v_5, v_6, v_7, ())
def iFrame (k : Nat) (l0 : DLimits) (b1 : List Int) : Option (List Int × Bool) :=
  (iLimitsOk l0).bind fun v_1 =>
  cond (!v_1) (some ([], false)) <|
  (iwithin (len b1) 1 l0.2.2.2.1).bind fun v_2 =>
  cond (!v_2) (some ([], false)) <|
  (iPutFix k [181, 70] (len b1) 2).bind fun v_3 =>
  (iCrc k b1).bind fun v_4 =>
  (iPutFix k v_3.1 v_4 4).bind fun v_5 =>
  (app v_5.1 b1).bind fun v_6 =>
  some (v_6, true)
def weqIncl (k : Nat) (a0 : DIncl) (b1 : DIncl) : Option (Bool) :=
  cond (a0.1 != b1.1) (some false) <|
  cond (a0.2.1 != b1.2.1) (some false) <|
  cond (a0.2.2.1 != b1.2.2.1) (some false) <|
  (weqByteS k a0.2.2.2.1 b1.2.2.2.1).bind fun v_1 =>
  cond (!v_1) (some false) <|
  (weqByteSS k a0.2.2.2.2.1 b1.2.2.2.2.1).bind fun v_2 =>
  cond (!v_2) (some false) <|
  some true
def weqProof (k : Nat) (a0 : DProof) (b1 : DProof) : Option (Bool) :=
  (weqHeadS k a0.1 b1.1).bind fun v_1 =>
  cond (!v_1) (some false) <|
  (weqQc k a0.2.1 b1.2.1).bind fun v_2 =>
  cond (!v_2) (some false) <|
  some true
def weqTc (k : Nat) (a0 : DTc) (b1 : DTc) : Option (Bool) :=
  cond (a0.1 != b1.1) (some false) <|
  (weqEntryS k a0.2.1 b1.2.1).bind fun v_1 =>
  cond (!v_1) (some false) <|
  some true
def weqBlock (k : Nat) (a0 : DBlock) (b1 : DBlock) : Option (Bool) :=
  (weqHead k a0.1 b1.1).bind fun v_1 =>
  cond (!v_1) (some false) <|
  (weqByteSS k a0.2.1 b1.2.1).bind fun v_2 =>
  cond (!v_2) (some false) <|
  some true
def weqVote (k : Nat) (a0 : DVote) (b1 : DVote) : Option (Bool) :=
  cond (a0.1 != b1.1) (some false) <|
  cond (a0.2.1 != b1.2.1) (some false) <|
  (weqByteS k a0.2.2.1 b1.2.2.1).bind fun v_1 =>
  cond (!v_1) (some false) <|
  cond (a0.2.2.2.1 != b1.2.2.2.1) (some false) <|
  (weqByteS k a0.2.2.2.2.1 b1.2.2.2.2.1).bind fun v_2 =>
  cond (!v_2) (some false) <|
  some true
def wtoIncl (k : Nat) (a0 : DIncl) : Option (DIncl) :=
  (wtoByteS k a0.2.2.2.1).bind fun v_1 =>
  (wtoByteSS k a0.2.2.2.2.1).bind fun v_2 =>
  some (a0.1, a0.2.1, a0.2.2.1, v_1, v_2, ())
def wtoProof (k : Nat) (a0 : DProof) : Option (DProof) :=
  (wtoHeadS k a0.1).bind fun v_1 =>
  (wtoQc k a0.2.1).bind fun v_2 =>
  some (v_1, v_2, ())
def wtoTc (k : Nat) (a0 : DTc) : Option (DTc) :=
  (wtoEntryS k a0.2.1).bind fun v_1 =>
  some (a0.1, v_1, ())
def wtoBlock (k : Nat) (a0 : DBlock) : Option (DBlock) :=
  (wtoHead k a0.1).bind fun v_1 =>
  (wtoByteSS k a0.2.1).bind fun v_2 =>
  some (v_1, v_2, ())
def wtoVote (k : Nat) (a0 : DVote) : Option (DVote) :=
  (wtoByteS k a0.2.2.1).bind fun v_1 =>
  (wtoByteS k a0.2.2.2.2.1).bind fun v_2 =>
  some (a0.1, a0.2.1, v_1, a0.2.2.2.1, v_2, ())
def wszIncl (k : Nat) (a0 : DIncl) (left1 : Int) : Option (Int) :=
  (wszByteS a0.2.2.2.1 left1).bind fun v_1 =>
  cond (decide (v_1 < 0)) (some (-1)) <|
  (wszByteSS k a0.2.2.2.2.1 v_1).bind fun v_2 =>
  cond (decide (v_2 < 0)) (some (-1)) <|
  some v_2
def wszProof (k : Nat) (a0 : DProof) (left1 : Int) : Option (Int) :=
  (wszHeadS k a0.1 left1).bind fun v_1 =>
  cond (decide (v_1 < 0)) (some (-1)) <|
  (wszQc k a0.2.1 v_1).bind fun v_2 =>
  cond (decide (v_2 < 0)) (some (-1)) <|
  some v_2
def wszTc (k : Nat) (a0 : DTc) (left1 : Int) : Option (Int) :=
  (wszEntryS k a0.2.1 left1).bind fun v_1 =>
  cond (decide (v_1 < 0)) (some (-1)) <|
  some v_1
def wszBlock (k : Nat) (a0 : DBlock) (left1 : Int) : Option (Int) :=
  (wszHead k a0.1 left1).bind fun v_1 =>
  cond (decide (v_1 < 0)) (some (-1)) <|
  (wszByteSS k a0.2.1 v_1).bind fun v_2 =>
  cond (decide (v_2 < 0)) (some (-1)) <|
  some v_2
def wszVote (a0 : DVote) (left1 : Int) : Option (Int) :=
  (wszByteS a0.2.2.1 left1).bind fun v_1 =>
  cond (decide (v_1 < 0)) (some (-1)) <|
  (wszByteS a0.2.2.2.2.1 v_1).bind fun v_2 =>
  cond (decide (v_2 < 0)) (some (-1)) <|
  some v_2
def iOfProof (k : Nat) (p0 : DProof) : Option (DMsg) :=
  (iProof_copied k p0).bind fun v_1 =>
  some (6, (0, 0, [], 0, [], ()), (0, 0, [], [], [], ()), (0, 0, 0, [], [], (0, 0, [], [], [], ()), ()), ((0, 0, 0, [], [], (0, 0, [], [], [], ()), ()), [], ()), (0, [], ()), v_1, (0, 0, 0, [], [], ()), ())
def iMsg_alone (k : Nat) (m0 : DMsg) : Option (DMsg) :=
  cond (m0.1 == 1) (
    (iOfVote m0.2.1).bind fun v_1 =>
    some v_1) <|
  cond (m0.1 == 2) (
    (iOfQc k m0.2.2.1).bind fun v_2 =>
    some v_2) <|
  cond (m0.1 == 3) (
    (iOfHead k m0.2.2.2.1).bind fun v_3 =>
    some v_3) <|
  cond (m0.1 == 4) (
    (iOfBlock k m0.2.2.2.2.1).bind fun v_4 =>
    some v_4) <|
  cond (m0.1 == 5) (
    (iOfTc k m0.2.2.2.2.2.1).bind fun v_5 =>
    some v_5) <|
  cond (m0.1 == 6) (
    (iOfProof k m0.2.2.2.2.2.2.1).bind fun v_6 =>
    some v_6) <|
  cond (m0.1 == 7) (
    (iOfIncl k m0.2.2.2.2.2.2.2.1).bind fun v_7 =>
    some v_7) <|
  some (0, (0, 0, [], 0, [], ()), (0, 0, [], [], [], ()), (0, 0, 0, [], [], (0, 0, [], [], [], ()), ()), ((0, 0, 0, [], [], (0, 0, [], [], [], ()), ()), [], ()), (0, [], ()), ([], (0, 0, [], [], [], ()), ()), (0, 0, 0, [], [], ()), ())
def sl01Bend (k : Nat) (c0 : Dl01Cur) (b1 : List Int) : Option (List Int × Dl01Cur) :=
  (sl01Copy b1).bind fun v_1 =>
  cond ((len v_1) == 0) (
    (sl01Bytes k c0 3).bind fun v_2 =>
    some v_2) <|
  (sl01Below c0 6).bind fun v_3 =>
  cond (v_3.1 == 0) (
    (sl01Below v_3.2 (len v_1)).bind fun v_4 =>
    (sub v_1 0 v_4.1).bind fun _v_5 =>
    some (cut v_1 0 v_4.1, v_4.2)) <|
  cond (v_3.1 == 1) (
    (sl01Below v_3.2 (len v_1)).bind fun v_6 =>
    (sl01Byte v_6.2).bind fun v_7 =>
    (rd v_1 v_6.1).bind fun _v_8 =>
    (st v_1 v_6.1 (cv .u8 v_7.1)).bind fun v_9 =>
    some (v_9, v_7.2)) <|
  cond (v_3.1 == 2) (
    (sl01Below v_3.2 (len v_1)).bind fun v_10 =>
    (rd v_1 v_10.1).bind fun _v_11 =>
    (rd v_1 v_10.1).bind fun v_12 =>
    (sl01Below v_10.2 8).bind fun v_13 =>
    cond (decide (v_13.1 < 0)) none <|
    (rd v_1 v_10.1).bind fun _v_14 =>
    (st v_1 v_10.1 (xo .u8 v_12 (sl .u8 1 v_13.1))).bind fun v_15 =>
    some (v_15, v_13.2)) <|
  cond (v_3.1 == 3) (
    (sl01Byte v_3.2).bind fun v_16 =>
    (app v_1 [cv .u8 v_16.1]).bind fun v_17 =>
    some (v_17, v_16.2)) <|
  some (v_1, v_3.2)
def inameAt (k0 : Int) (names1 : List (List Int)) : Option (List Int) :=
  (iwithin k0 0 (su .i64 (len names1) 1)).bind fun v_1 =>
  cond (!v_1) (some []) <|
  (rd names1 k0).bind fun v_2 =>
  some v_2
def iVoteOk (k : Nat) (l0 : DLimits) (v1 : DVote) : Option (Bool) :=
  (iLimitsOk l0).bind fun v_1 =>
  cond v_1 (
    (iisNum v1.1).bind fun v_2 =>
    cond v_2 (
      (iisNum v1.2.1).bind fun v_3 =>
      cond v_3 (
        (iareHashes k [v1.2.2.1, v1.2.2.2.2.1]).bind fun v_4 =>
        cond v_4 (
          (iwithin v1.2.2.2.1 0 (su .i64 l0.1 1)).bind fun v_5 =>
          some v_5) <|
        some false) <|
      some false) <|
    some false) <|
  some false
def iPutVote (k : Nat) (l0 : DLimits) (b1 : List Int) (v2 : DVote) : Option (List Int × Bool) :=
  (iVoteOk k l0 v2).bind fun v_1 =>
  cond (!v_1) (some ([], false)) <|
  (icopyBytes b1).bind fun v_2 =>
  (iwriter_num k (v_2, ()) v2.1).bind fun v_3 =>
  (iwriter_num k v_3 v2.2.1).bind fun v_4 =>
  (iwriter_raw v_4 v2.2.2.1).bind fun v_5 =>
  (iwriter_num k v_5 v2.2.2.2.1).bind fun v_6 =>
  (iwriter_raw v_6 v2.2.2.2.2.1).bind fun v_7 =>
  some (v_7.1, true)
def iPutQc (k : Nat) (l0 : DLimits) (b1 : List Int) (q2 : DQc) : Option (List Int × Bool) :=
  (iQcOk k l0 q2).bind fun v_1 =>
  cond (!v_1) (some ([], false)) <|
  (icopyBytes b1).bind fun v_2 =>
  (iwriter_qc k (v_2, ()) q2).bind fun v_3 =>
  some (v_3.1, true)
def iBlockOk_l0 : Nat → DLimits → DBlock → (List (List Int)) → Int → Int → Option ((DLimits × DBlock) ⊕ (Bool))
  | 0, _, _, _, _, _ => none
  | k + 1, l2, x3, s8, s9, s10 =>
    cond (decide (s10 < s9)) (
      (rd s8 s10).bind fun v_1 =>
      cond (decide ((len v_1) > l2.2.1)) (some (Sum.inr false)) <|
      iBlockOk_l0 k l2 x3 s8 s9 (ad .i64 s10 1)) <|
    some (Sum.inl (l2, x3))
def iBlockOk (k : Nat) (l0 : DLimits) (x1 : DBlock) : Option (Bool) :=
  (iBlockOk_l0 k l0 x1 x1.2.1 (len x1.2.1) 0).bind fun v_2 =>
  sumE v_2 (fun v_3 =>
    (iHeadOk k v_3.1 v_3.2.1).bind fun v_5 =>
    cond v_5 (
      cond (decide ((len v_3.2.2.1) ≤ v_3.1.2.2.1)) (
        (iTreeRoot k v_3.2.2.1).bind fun v_6 =>
        (iSameBytes v_3.2.1.2.2.2.2.1 v_6).bind fun v_7 =>
        some v_7) <|
      some false) <|
    some false) fun v_4 =>
  some v_4
def iPutText (k : Nat) (b0 : List Int) (x1 : List Int) : Option (List Int) :=
  (iPutVar k b0 (len x1)).bind fun v_1 =>
  optE v_1.1 (
    (app [] x1).bind fun v_3 =>
    some v_3) fun v_2 =>
  (app v_2 x1).bind fun v_4 =>
  some v_4
def iPutBlock_l0 : Nat → Dwriter → (List (List Int)) → Int → Int → Option (Dwriter)
  | 0, _, _, _, _ => none
  | k + 1, w8, s29, s30, s31 =>
    cond (decide (s31 < s30)) (
      (rd s29 s31).bind fun v_5 =>
      (iPutText k w8.1 v_5).bind fun v_6 =>
      iPutBlock_l0 k (v_6, ()) s29 s30 (ad .i64 s31 1)) <|
    some w8
def iPutBlock (k : Nat) (l0 : DLimits) (b1 : List Int) (x2 : DBlock) : Option (List Int × Bool) :=
  (iBlockOk k l0 x2).bind fun v_1 =>
  cond (!v_1) (some ([], false)) <|
  (icopyBytes b1).bind fun v_2 =>
  (iwriter_head k (v_2, ()) x2.1).bind fun v_3 =>
  (iwriter_num k v_3 (len x2.2.1)).bind fun v_4 =>
  (iPutBlock_l0 k v_4 x2.2.1 (len x2.2.1) 0).bind fun v_7 =>
  some (v_7.1, true)
def iPutTc_l0 : Nat → Dwriter → (List DEntry) → Int → Int → Option (Dwriter)
  | 0, _, _, _, _ => none
  | k + 1, w8, s29, s30, s31 =>
    cond (decide (s31 < s30)) (
      (rd s29 s31).bind fun v_5 =>
      (iwriter_num k w8 v_5.1).bind fun v_6 =>
      (iwriter_num k v_6 v_5.2.1).bind fun v_7 =>
      (iwriter_raw v_7 v_5.2.2.1).bind fun v_8 =>
      iPutTc_l0 k v_8 s29 s30 (ad .i64 s31 1)) <|
    some w8
def iPutTc (k : Nat) (l0 : DLimits) (b1 : List Int) (t2 : DTc) : Option (List Int × Bool) :=
  (iTcOk k l0 t2).bind fun v_1 =>
  cond (!v_1) (some ([], false)) <|
  (icopyBytes b1).bind fun v_2 =>
  (iwriter_num k (v_2, ()) t2.1).bind fun v_3 =>
  (iwriter_num k v_3 (len t2.2.1)).bind fun v_4 =>
  (iPutTc_l0 k v_4 t2.2.1 (len t2.2.1) 0).bind fun v_9 =>
  some (v_9.1, true)
def iPutProof_l0 : Nat → DProof → Dwriter → (List DHead) → Int → Int → Option (DProof × Dwriter)
  | 0, _, _, _, _, _ => none
  | k + 1, p5, w8, s25, s26, s27 =>
    cond (decide (s27 < s26)) (
      (rd s25 s27).bind fun v_4 =>
      (iwriter_head k w8 v_4).bind fun v_5 =>
      iPutProof_l0 k p5 v_5 s25 s26 (ad .i64 s27 1)) <|
    some (p5, w8)
def iPutProof (k : Nat) (l0 : DLimits) (b1 : List Int) (p2 : DProof) : Option (List Int × Bool) :=
  (iProofOk k l0 p2).bind fun v_1 =>
  cond (!v_1) (some ([], false)) <|
  (icopyBytes b1).bind fun v_2 =>
  (iwriter_num k (v_2, ()) (len p2.1)).bind fun v_3 =>
  (iPutProof_l0 k p2 v_3 p2.1 (len p2.1) 0).bind fun v_6 =>
  (iwriter_qc k v_6.2 v_6.1.2.1).bind fun v_7 =>
  some (v_7.1, true)
def iInclOk (k : Nat) (l0 : DLimits) (x1 : DIncl) : Option (Bool) :=
  (iLimitsOk l0).bind fun v_1 =>
  cond v_1 (
    (iisNum x1.1).bind fun v_2 =>
    cond v_2 (
      (iwithin x1.2.1 1 l0.2.2.1).bind fun v_3 =>
      cond v_3 (
        (iwithin x1.2.2.1 0 (su .i64 x1.2.1 1)).bind fun v_4 =>
        cond v_4 (
          cond (decide ((len x1.2.2.2.1) ≤ l0.2.1)) (
            (iPathLen k x1.2.2.1 x1.2.1).bind fun v_5 =>
            cond ((len x1.2.2.2.2.1) == v_5) (
              (iareHashes k x1.2.2.2.2.1).bind fun v_6 =>
              some v_6) <|
            some false) <|
          some false) <|
        some false) <|
      some false) <|
    some false) <|
  some false
def iPutIncl_l0 : Nat → Dwriter → (List (List Int)) → Int → Int → Option (Dwriter)
  | 0, _, _, _, _ => none
  | k + 1, w8, s42, s43, s44 =>
    cond (decide (s44 < s43)) (
      (rd s42 s44).bind fun v_7 =>
      (iwriter_raw w8 v_7).bind fun v_8 =>
      iPutIncl_l0 k v_8 s42 s43 (ad .i64 s44 1)) <|
    some w8
def iPutIncl (k : Nat) (l0 : DLimits) (b1 : List Int) (x2 : DIncl) : Option (List Int × Bool) :=
  (iInclOk k l0 x2).bind fun v_1 =>
  cond (!v_1) (some ([], false)) <|
  (icopyBytes b1).bind fun v_2 =>
  (iwriter_num k (v_2, ()) x2.1).bind fun v_3 =>
  (iwriter_num k v_3 x2.2.1).bind fun v_4 =>
  (iwriter_num k v_4 x2.2.2.1).bind fun v_5 =>
  (iPutText k v_5.1 x2.2.2.2.1).bind fun v_6 =>
  (iPutIncl_l0 k (v_6, ()) x2.2.2.2.2.1 (len x2.2.2.2.2.1) 0).bind fun v_9 =>
  some (v_9.1, true)
def iMsg_put (k : Nat) (m0 : DMsg) (l1 : DLimits) (b2 : List Int) : Option (List Int × Bool) :=
  cond (m0.1 == 1) (
    (iPutVote k l1 b2 m0.2.1).bind fun v_1 =>
    some v_1) <|
  cond (m0.1 == 2) (
    (iPutQc k l1 b2 m0.2.2.1).bind fun v_2 =>
    some v_2) <|
  cond (m0.1 == 3) (
    (iPutHead k l1 b2 m0.2.2.2.1).bind fun v_3 =>
    some v_3) <|
  cond (m0.1 == 4) (
    (iPutBlock k l1 b2 m0.2.2.2.2.1).bind fun v_4 =>
    some v_4) <|
  cond (m0.1 == 5) (
    (iPutTc k l1 b2 m0.2.2.2.2.2.1).bind fun v_5 =>
    some v_5) <|
  cond (m0.1 == 6) (
    (iPutProof k l1 b2 m0.2.2.2.2.2.2.1).bind fun v_6 =>
    some v_6) <|
  cond (m0.1 == 7) (
    (iPutIncl k l1 b2 m0.2.2.2.2.2.2.2.1).bind fun v_7 =>
    some v_7) <|
  some ([], false)
def iKindName (k0 : Int) : Option (List Int) :=
  (inameAt k0 [[], [118, 111, 116, 101], [113, 99], [104, 101, 97, 100], [98, 108, 111, 99, 107], [116, 99], [112, 114, 111, 111, 102], [105, 110, 99, 108]]).bind fun v_1 =>
  some v_1
def ireadVote (k : Nat) (l0 : DLimits) (r1 : Dl01Cur) : Option (DVote × Dl01Cur) :=
  (ireader_num k r1).bind fun v_1 =>
  (ireader_num k v_1.2).bind fun v_2 =>
  (ireader_hash v_2.2).bind fun v_3 =>
  (ireader_below k v_3.2 l0.1 5).bind fun v_4 =>
  (ireader_hash v_4.2).bind fun v_5 =>
  some ((v_1.1, v_2.1, v_3.1, v_4.1, v_5.1, ()), v_5.2)
def iget_implVote (k : Nat) (l0 : DLimits) (b1 : List Int) (at2 : Int) : Option (DVote × Int × Int) :=
  (iLimitsOk l0).bind fun v_1 =>
  cond (!v_1) (some ((0, 0, [], 0, [], ()), 0, 5)) <|
  (ireadVote k l0 (b1, at2, 0, ())).bind fun v_2 =>
  cond (v_2.2.2.2.1 != 0) (some ((0, 0, [], 0, [], ()), 0, v_2.2.2.2.1)) <|
  some (v_2.1, v_2.2.2.1, 0)
def iGetVote (k : Nat) (l0 : DLimits) (b1 : List Int) (at2 : Int) : Option (DVote × Int × Int) :=
  (iget_implVote k l0 b1 at2).bind fun v_1 =>
  some v_1
def ireadQc_l0 : Nat → Dl01Cur → DQc → DQc → Int → Int → Option (Dl01Cur × DQc × DQc)
  | 0, _, _, _, _, _ => none
  | k + 1, r1, s4, q5, s43, s44 =>
    cond (decide (s44 < s43)) (
      (ireader_hash r1).bind fun v_6 =>
      (app q5.2.2.2.2.1 [v_6.1]).bind fun v_7 =>
      ireadQc_l0 k v_6.2 s4 (q5.1, q5.2.1, q5.2.2.1, q5.2.2.2.1, v_7, ()) s43 (ad .i64 s44 1)) <|
    some (r1, s4, q5)
def ireadQc (k : Nat) (l0 : DLimits) (r1 : Dl01Cur) : Option (DQc × Dl01Cur) :=
  (ireader_num k r1).bind fun v_1 =>
  (ireader_num k v_1.2).bind fun v_2 =>
  (ireader_hash v_2.2).bind fun v_3 =>
  cond (v_3.2.2.2.1 != 0) (some ((v_1.1, v_2.1, v_3.1, [], [], ()), v_3.2)) <|
  (iGetBits k v_3.2.1 v_3.2.2.1 l0.1).bind fun v_4 =>
  (iBitsCount k v_4.1).bind fun v_5 =>
  (ireadQc_l0 k (v_3.2.1, v_4.2.1, v_4.2.2, v_3.2.2.2.2) (0, 0, [], [], [], ()) (v_1.1, v_2.1, v_3.1, v_4.1, [], ()) v_5 0).bind fun v_8 =>
  some (v_8.2.2, v_8.1)
def iget_implQc (k : Nat) (l0 : DLimits) (b1 : List Int) (at2 : Int) : Option (DQc × Int × Int) :=
  (iLimitsOk l0).bind fun v_1 =>
  cond (!v_1) (some ((0, 0, [], [], [], ()), 0, 5)) <|
  (ireadQc k l0 (b1, at2, 0, ())).bind fun v_2 =>
  cond (v_2.2.2.2.1 != 0) (some ((0, 0, [], [], [], ()), 0, v_2.2.2.2.1)) <|
  some (v_2.1, v_2.2.2.1, 0)
def iGetQc (k : Nat) (l0 : DLimits) (b1 : List Int) (at2 : Int) : Option (DQc × Int × Int) :=
  (iget_implQc k l0 b1 at2).bind fun v_1 =>
  some v_1
def ireadHead (k : Nat) (l0 : DLimits) (r1 : Dl01Cur) : Option (DHead × Dl01Cur) :=
  (ireader_num k r1).bind fun v_1 =>
  (ireader_num k v_1.2).bind fun v_2 =>
  (ireader_must v_2.2 (v_2.1 != 0) 5).bind fun v_3 =>
  (ireader_below k v_3 l0.1 5).bind fun v_4 =>
  (ireader_hash v_4.2).bind fun v_5 =>
  (ireader_hash v_5.2).bind fun v_6 =>
  (ireadQc k l0 v_6.2).bind fun v_7 =>
  (iHead_matches (v_1.1, v_2.1, v_4.1, v_5.1, v_6.1, v_7.1, ())).bind fun v_8 =>
  (ireader_must v_7.2 v_8 6).bind fun v_9 =>
  some ((v_1.1, v_2.1, v_4.1, v_5.1, v_6.1, v_7.1, ()), v_9)
def iget_implHead (k : Nat) (l0 : DLimits) (b1 : List Int) (at2 : Int) : Option (DHead × Int × Int) :=
  (iLimitsOk l0).bind fun v_1 =>
  cond (!v_1) (some ((0, 0, 0, [], [], (0, 0, [], [], [], ()), ()), 0, 5)) <|
  (ireadHead k l0 (b1, at2, 0, ())).bind fun v_2 =>
  cond (v_2.2.2.2.1 != 0) (some ((0, 0, 0, [], [], (0, 0, [], [], [], ()), ()), 0, v_2.2.2.2.1)) <|
  some (v_2.1, v_2.2.2.1, 0)
def iGetHead (k : Nat) (l0 : DLimits) (b1 : List Int) (at2 : Int) : Option (DHead × Int × Int) :=
  (iget_implHead k l0 b1 at2).bind fun v_1 =>
  some v_1
def ireadBlock_l0 : Nat → Dl01Cur → DLimits → DBlock → DBlock → Int → Int → Option (Dl01Cur × DBlock × DBlock)
  | 0, _, _, _, _, _, _ => none
  | k + 1, r1, l2, s4, x5, n6, i7 =>
    cond (decide (i7 < n6)) (
      cond (r1.2.2.1 == 0) (
        (ireader_text k r1 l2.2.1).bind fun v_3 =>
        (app x5.2.1 [v_3.1]).bind fun v_4 =>
        ireadBlock_l0 k v_3.2 l2 s4 (x5.1, v_4, ()) n6 (ad .i64 i7 1)) <|
      some (r1, s4, x5)) <|
    some (r1, s4, x5)
def ireadBlock (k : Nat) (l0 : DLimits) (r1 : Dl01Cur) : Option (DBlock × Dl01Cur) :=
  (ireadHead k l0 r1).bind fun v_1 =>
  (ireader_below k v_1.2 (ad .i64 l0.2.2.1 1) 3).bind fun v_2 =>
  (ireadBlock_l0 k v_2.2 l0 ((0, 0, 0, [], [], (0, 0, [], [], [], ()), ()), [], ()) (v_1.1, [], ()) v_2.1 0).bind fun v_5 =>
  cond (v_5.1.2.2.1 != 0) (
    (ireader_must v_5.1 true 7).bind fun v_6 =>
    some (v_5.2.2, v_6)) <|
  (iTreeRoot k v_5.2.2.2.1).bind fun v_7 =>
  (iSameBytes v_5.2.2.1.2.2.2.2.1 v_7).bind fun v_8 =>
  (ireader_must v_5.1 v_8 7).bind fun v_9 =>
  some (v_5.2.2, v_9)
def iget_implBlock (k : Nat) (l0 : DLimits) (b1 : List Int) (at2 : Int) : Option (DBlock × Int × Int) :=
  (iLimitsOk l0).bind fun v_1 =>
  cond (!v_1) (some (((0, 0, 0, [], [], (0, 0, [], [], [], ()), ()), [], ()), 0, 5)) <|
  (ireadBlock k l0 (b1, at2, 0, ())).bind fun v_2 =>
  cond (v_2.2.2.2.1 != 0) (some (((0, 0, 0, [], [], (0, 0, [], [], [], ()), ()), [], ()), 0, v_2.2.2.2.1)) <|
  some (v_2.1, v_2.2.2.1, 0)
def iGetBlock (k : Nat) (l0 : DLimits) (b1 : List Int) (at2 : Int) : Option (DBlock × Int × Int) :=
  (iget_implBlock k l0 b1 at2).bind fun v_1 =>
  some v_1
def ireadTc_l0 : Nat → Dl01Cur → DLimits → DTc → DTc → Int → Int → Int → Option (Dl01Cur × DTc × DTc)
  | 0, _, _, _, _, _, _, _ => none
  | k + 1, r1, l2, s4, t5, n6, before7, i8 =>
    cond (decide (i8 < n6)) (
      cond (r1.2.2.1 == 0) (
        (ireader_below k r1 l2.1 5).bind fun v_3 =>
        (ireader_must v_3.2 (decide (v_3.1 > before7)) 6).bind fun v_4 =>
        (ireader_below k v_4 t5.1 6).bind fun v_5 =>
        (ireader_hash v_5.2).bind fun v_6 =>
        (app t5.2.1 [(v_3.1, v_5.1, v_6.1, ())]).bind fun v_7 =>
        ireadTc_l0 k v_6.2 l2 s4 (t5.1, v_7, ()) n6 v_3.1 (ad .i64 i8 1)) <|
      some (r1, s4, t5)) <|
    some (r1, s4, t5)
def ireadTc (k : Nat) (l0 : DLimits) (r1 : Dl01Cur) : Option (DTc × Dl01Cur) :=
  (ireader_num k r1).bind fun v_1 =>
  (ireader_below k v_1.2 (ad .i64 l0.1 1) 3).bind fun v_2 =>
  (ireadTc_l0 k v_2.2 l0 (0, [], ()) (v_1.1, [], ()) v_2.1 (-1) 0).bind fun v_8 =>
  some (v_8.2.2, v_8.1)
def iget_implTc (k : Nat) (l0 : DLimits) (b1 : List Int) (at2 : Int) : Option (DTc × Int × Int) :=
  (iLimitsOk l0).bind fun v_1 =>
  cond (!v_1) (some ((0, [], ()), 0, 5)) <|
  (ireadTc k l0 (b1, at2, 0, ())).bind fun v_2 =>
  cond (v_2.2.2.2.1 != 0) (some ((0, [], ()), 0, v_2.2.2.2.1)) <|
  some (v_2.1, v_2.2.2.1, 0)
def iGetTc (k : Nat) (l0 : DLimits) (b1 : List Int) (at2 : Int) : Option (DTc × Int × Int) :=
  (iget_implTc k l0 b1 at2).bind fun v_1 =>
  some v_1
def ireadProof_l0 : Nat → Dl01Cur → DLimits → DProof → DProof → Int → Int → Option (Dl01Cur × DLimits × DProof × DProof)
  | 0, _, _, _, _, _, _ => none
  | k + 1, r1, l2, s4, p5, n6, i7 =>
    cond (decide (i7 < n6)) (
      cond (r1.2.2.1 == 0) (
        (ireadHead k l2 r1).bind fun v_4 =>
        (app p5.1 [v_4.1]).bind fun v_5 =>
        ireadProof_l0 k v_4.2 l2 s4 (v_5, p5.2) n6 (ad .i64 i7 1)) <|
      some (r1, l2, s4, p5)) <|
    some (r1, l2, s4, p5)
def ireadProof (k : Nat) (l0 : DLimits) (r1 : Dl01Cur) : Option (DProof × Dl01Cur) :=
  (ireader_num k r1).bind fun v_1 =>
  (ireader_must v_1.2 (decide (v_1.1 ≥ 3)) 5).bind fun v_2 =>
  (ireader_must v_2 (decide (v_1.1 ≤ l0.2.2.2.2.1)) 3).bind fun v_3 =>
  (ireadProof_l0 k v_3 l0 ([], (0, 0, [], [], [], ()), ()) ([], (0, 0, [], [], [], ()), ()) v_1.1 0).bind fun v_6 =>
  (ireadQc k v_6.2.1 v_6.1).bind fun v_7 =>
  cond (v_7.2.2.2.1 != 0) (
    (ireader_must v_7.2 true 6).bind fun v_8 =>
    some ((v_6.2.2.2.1, v_7.1, ()), v_8)) <|
  (iProof_closes (v_6.2.2.2.1, v_7.1, ())).bind fun v_9 =>
  (ireader_must v_7.2 v_9 6).bind fun v_10 =>
  some ((v_6.2.2.2.1, v_7.1, ()), v_10)
def iget_implProof (k : Nat) (l0 : DLimits) (b1 : List Int) (at2 : Int) : Option (DProof × Int × Int) :=
  (iLimitsOk l0).bind fun v_1 =>
  cond (!v_1) (some (([], (0, 0, [], [], [], ()), ()), 0, 5)) <|
  (ireadProof k l0 (b1, at2, 0, ())).bind fun v_2 =>
  cond (v_2.2.2.2.1 != 0) (some (([], (0, 0, [], [], [], ()), ()), 0, v_2.2.2.2.1)) <|
  some (v_2.1, v_2.2.2.1, 0)
def iGetProof (k : Nat) (l0 : DLimits) (b1 : List Int) (at2 : Int) : Option (DProof × Int × Int) :=
  (iget_implProof k l0 b1 at2).bind fun v_1 =>
  some v_1
def ireadIncl_l0 : Nat → Dl01Cur → DIncl → DIncl → Int → Int → Option (Dl01Cur × DIncl × DIncl)
  | 0, _, _, _, _, _ => none
  | k + 1, r1, s4, x5, s42, s43 =>
    cond (decide (s43 < s42)) (
      (ireader_hash r1).bind fun v_8 =>
      (app x5.2.2.2.2.1 [v_8.1]).bind fun v_9 =>
      ireadIncl_l0 k v_8.2 s4 (x5.1, x5.2.1, x5.2.2.1, x5.2.2.2.1, v_9, ()) s42 (ad .i64 s43 1)) <|
    some (r1, s4, x5)
def ireadIncl (k : Nat) (l0 : DLimits) (r1 : Dl01Cur) : Option (DIncl × Dl01Cur) :=
  (ireader_num k r1).bind fun v_1 =>
  (ireader_num k v_1.2).bind fun v_2 =>
  (ireader_must v_2.2 (decide (v_2.1 > 0)) 5).bind fun v_3 =>
  (ireader_must v_3 (decide (v_2.1 ≤ l0.2.2.1)) 3).bind fun v_4 =>
  (ireader_below k v_4 v_2.1 5).bind fun v_5 =>
  (ireader_text k v_5.2 l0.2.1).bind fun v_6 =>
  cond (v_6.2.2.2.1 == 0) (
    (iPathLen k v_5.1 v_2.1).bind fun v_7 =>
    (ireadIncl_l0 k v_6.2 (0, 0, 0, [], [], ()) (v_1.1, v_2.1, v_5.1, v_6.1, [], ()) v_7 0).bind fun v_10 =>
    some (v_10.2.2, v_10.1)) <|
  some ((v_1.1, v_2.1, v_5.1, v_6.1, [], ()), v_6.2)
def iget_implIncl (k : Nat) (l0 : DLimits) (b1 : List Int) (at2 : Int) : Option (DIncl × Int × Int) :=
  (iLimitsOk l0).bind fun v_1 =>
  cond (!v_1) (some ((0, 0, 0, [], [], ()), 0, 5)) <|
  (ireadIncl k l0 (b1, at2, 0, ())).bind fun v_2 =>
  cond (v_2.2.2.2.1 != 0) (some ((0, 0, 0, [], [], ()), 0, v_2.2.2.2.1)) <|
  some (v_2.1, v_2.2.2.1, 0)
def iGetIncl (k : Nat) (l0 : DLimits) (b1 : List Int) (at2 : Int) : Option (DIncl × Int × Int) :=
  (iget_implIncl k l0 b1 at2).bind fun v_1 =>
  some v_1
def iDecode (k : Nat) (l0 : DLimits) (b1 : List Int) : Option (DMsg × Int) :=
  (iLimitsOk l0).bind fun v_1 =>
  cond (!v_1) (some ((0, (0, 0, [], 0, [], ()), (0, 0, [], [], [], ()), (0, 0, 0, [], [], (0, 0, [], [], [], ()), ()), ((0, 0, 0, [], [], (0, 0, [], [], [], ()), ()), [], ()), (0, [], ()), ([], (0, 0, [], [], [], ()), ()), (0, 0, 0, [], [], ()), ()), 5)) <|
  cond ((len b1) == 0) (some ((0, (0, 0, [], 0, [], ()), (0, 0, [], [], [], ()), (0, 0, 0, [], [], (0, 0, [], [], [], ()), ()), ((0, 0, 0, [], [], (0, 0, [], [], [], ()), ()), [], ()), (0, [], ()), ([], (0, 0, [], [], [], ()), ()), (0, 0, 0, [], [], ()), ()), 1)) <|
  (rd b1 0).bind fun v_2 =>
  (iKindName (cv .i64 v_2)).bind fun v_3 =>
  cond ((v_3 : List Int) == []) (some ((0, (0, 0, [], 0, [], ()), (0, 0, [], [], [], ()), (0, 0, 0, [], [], (0, 0, [], [], [], ()), ()), ((0, 0, 0, [], [], (0, 0, [], [], [], ()), ()), [], ()), (0, [], ()), ([], (0, 0, [], [], [], ()), ()), (0, 0, 0, [], [], ()), ()), 8)) <|
  (rd b1 0).bind fun v_4 =>
  cond ((cv .i64 v_4) == 1) (
    (iGetVote k l0 b1 1).bind fun v_5 =>
    cond (v_5.2.2 == 0) (
      cond (v_5.2.1 != (len b1)) (
        cond (9 != 0) (some ((0, (0, 0, [], 0, [], ()), (0, 0, [], [], [], ()), (0, 0, 0, [], [], (0, 0, [], [], [], ()), ()), ((0, 0, 0, [], [], (0, 0, [], [], [], ()), ()), [], ()), (0, [], ()), ([], (0, 0, [], [], [], ()), ()), (0, 0, 0, [], [], ()), ()), 9)) <|
        some ((cv .i64 v_4, v_5.1, (0, 0, [], [], [], ()), (0, 0, 0, [], [], (0, 0, [], [], [], ()), ()), ((0, 0, 0, [], [], (0, 0, [], [], [], ()), ()), [], ()), (0, [], ()), ([], (0, 0, [], [], [], ()), ()), (0, 0, 0, [], [], ()), ()), 0)) <|
      cond (v_5.2.2 != 0) (some ((0, (0, 0, [], 0, [], ()), (0, 0, [], [], [], ()), (0, 0, 0, [], [], (0, 0, [], [], [], ()), ()), ((0, 0, 0, [], [], (0, 0, [], [], [], ()), ()), [], ()), (0, [], ()), ([], (0, 0, [], [], [], ()), ()), (0, 0, 0, [], [], ()), ()), v_5.2.2)) <|
      some ((cv .i64 v_4, v_5.1, (0, 0, [], [], [], ()), (0, 0, 0, [], [], (0, 0, [], [], [], ()), ()), ((0, 0, 0, [], [], (0, 0, [], [], [], ()), ()), [], ()), (0, [], ()), ([], (0, 0, [], [], [], ()), ()), (0, 0, 0, [], [], ()), ()), 0)) <|
    cond (v_5.2.2 != 0) (some ((0, (0, 0, [], 0, [], ()), (0, 0, [], [], [], ()), (0, 0, 0, [], [], (0, 0, [], [], [], ()), ()), ((0, 0, 0, [], [], (0, 0, [], [], [], ()), ()), [], ()), (0, [], ()), ([], (0, 0, [], [], [], ()), ()), (0, 0, 0, [], [], ()), ()), v_5.2.2)) <|
    some ((cv .i64 v_4, v_5.1, (0, 0, [], [], [], ()), (0, 0, 0, [], [], (0, 0, [], [], [], ()), ()), ((0, 0, 0, [], [], (0, 0, [], [], [], ()), ()), [], ()), (0, [], ()), ([], (0, 0, [], [], [], ()), ()), (0, 0, 0, [], [], ()), ()), 0)) <|
  cond ((cv .i64 v_4) == 2) (
    (iGetQc k l0 b1 1).bind fun v_6 =>
    cond (v_6.2.2 == 0) (
      cond (v_6.2.1 != (len b1)) (
        cond (9 != 0) (some ((0, (0, 0, [], 0, [], ()), (0, 0, [], [], [], ()), (0, 0, 0, [], [], (0, 0, [], [], [], ()), ()), ((0, 0, 0, [], [], (0, 0, [], [], [], ()), ()), [], ()), (0, [], ()), ([], (0, 0, [], [], [], ()), ()), (0, 0, 0, [], [], ()), ()), 9)) <|
        some ((cv .i64 v_4, (0, 0, [], 0, [], ()), v_6.1, (0, 0, 0, [], [], (0, 0, [], [], [], ()), ()), ((0, 0, 0, [], [], (0, 0, [], [], [], ()), ()), [], ()), (0, [], ()), ([], (0, 0, [], [], [], ()), ()), (0, 0, 0, [], [], ()), ()), 0)) <|
      cond (v_6.2.2 != 0) (some ((0, (0, 0, [], 0, [], ()), (0, 0, [], [], [], ()), (0, 0, 0, [], [], (0, 0, [], [], [], ()), ()), ((0, 0, 0, [], [], (0, 0, [], [], [], ()), ()), [], ()), (0, [], ()), ([], (0, 0, [], [], [], ()), ()), (0, 0, 0, [], [], ()), ()), v_6.2.2)) <|
      some ((cv .i64 v_4, (0, 0, [], 0, [], ()), v_6.1, (0, 0, 0, [], [], (0, 0, [], [], [], ()), ()), ((0, 0, 0, [], [], (0, 0, [], [], [], ()), ()), [], ()), (0, [], ()), ([], (0, 0, [], [], [], ()), ()), (0, 0, 0, [], [], ()), ()), 0)) <|
    cond (v_6.2.2 != 0) (some ((0, (0, 0, [], 0, [], ()), (0, 0, [], [], [], ()), (0, 0, 0, [], [], (0, 0, [], [], [], ()), ()), ((0, 0, 0, [], [], (0, 0, [], [], [], ()), ()), [], ()), (0, [], ()), ([], (0, 0, [], [], [], ()), ()), (0, 0, 0, [], [], ()), ()), v_6.2.2)) <|
    some ((cv .i64 v_4, (0, 0, [], 0, [], ()), v_6.1, (0, 0, 0, [], [], (0, 0, [], [], [], ()), ()), ((0, 0, 0, [], [], (0, 0, [], [], [], ()), ()), [], ()), (0, [], ()), ([], (0, 0, [], [], [], ()), ()), (0, 0, 0, [], [], ()), ()), 0)) <|
  cond ((cv .i64 v_4) == 3) (
    (iGetHead k l0 b1 1).bind fun v_7 =>
    cond (v_7.2.2 == 0) (
      cond (v_7.2.1 != (len b1)) (
        cond (9 != 0) (some ((0, (0, 0, [], 0, [], ()), (0, 0, [], [], [], ()), (0, 0, 0, [], [], (0, 0, [], [], [], ()), ()), ((0, 0, 0, [], [], (0, 0, [], [], [], ()), ()), [], ()), (0, [], ()), ([], (0, 0, [], [], [], ()), ()), (0, 0, 0, [], [], ()), ()), 9)) <|
        some ((cv .i64 v_4, (0, 0, [], 0, [], ()), (0, 0, [], [], [], ()), v_7.1, ((0, 0, 0, [], [], (0, 0, [], [], [], ()), ()), [], ()), (0, [], ()), ([], (0, 0, [], [], [], ()), ()), (0, 0, 0, [], [], ()), ()), 0)) <|
      cond (v_7.2.2 != 0) (some ((0, (0, 0, [], 0, [], ()), (0, 0, [], [], [], ()), (0, 0, 0, [], [], (0, 0, [], [], [], ()), ()), ((0, 0, 0, [], [], (0, 0, [], [], [], ()), ()), [], ()), (0, [], ()), ([], (0, 0, [], [], [], ()), ()), (0, 0, 0, [], [], ()), ()), v_7.2.2)) <|
      some ((cv .i64 v_4, (0, 0, [], 0, [], ()), (0, 0, [], [], [], ()), v_7.1, ((0, 0, 0, [], [], (0, 0, [], [], [], ()), ()), [], ()), (0, [], ()), ([], (0, 0, [], [], [], ()), ()), (0, 0, 0, [], [], ()), ()), 0)) <|
    cond (v_7.2.2 != 0) (some ((0, (0, 0, [], 0, [], ()), (0, 0, [], [], [], ()), (0, 0, 0, [], [], (0, 0, [], [], [], ()), ()), ((0, 0, 0, [], [], (0, 0, [], [], [], ()), ()), [], ()), (0, [], ()), ([], (0, 0, [], [], [], ()), ()), (0, 0, 0, [], [], ()), ()), v_7.2.2)) <|
    some ((cv .i64 v_4, (0, 0, [], 0, [], ()), (0, 0, [], [], [], ()), v_7.1, ((0, 0, 0, [], [], (0, 0, [], [], [], ()), ()), [], ()), (0, [], ()), ([], (0, 0, [], [], [], ()), ()), (0, 0, 0, [], [], ()), ()), 0)) <|
  cond ((cv .i64 v_4) == 4) (
    (iGetBlock k l0 b1 1).bind fun v_8 =>
    cond (v_8.2.2 == 0) (
      cond (v_8.2.1 != (len b1)) (
        cond (9 != 0) (some ((0, (0, 0, [], 0, [], ()), (0, 0, [], [], [], ()), (0, 0, 0, [], [], (0, 0, [], [], [], ()), ()), ((0, 0, 0, [], [], (0, 0, [], [], [], ()), ()), [], ()), (0, [], ()), ([], (0, 0, [], [], [], ()), ()), (0, 0, 0, [], [], ()), ()), 9)) <|
        some ((cv .i64 v_4, (0, 0, [], 0, [], ()), (0, 0, [], [], [], ()), (0, 0, 0, [], [], (0, 0, [], [], [], ()), ()), v_8.1, (0, [], ()), ([], (0, 0, [], [], [], ()), ()), (0, 0, 0, [], [], ()), ()), 0)) <|
      cond (v_8.2.2 != 0) (some ((0, (0, 0, [], 0, [], ()), (0, 0, [], [], [], ()), (0, 0, 0, [], [], (0, 0, [], [], [], ()), ()), ((0, 0, 0, [], [], (0, 0, [], [], [], ()), ()), [], ()), (0, [], ()), ([], (0, 0, [], [], [], ()), ()), (0, 0, 0, [], [], ()), ()), v_8.2.2)) <|
      some ((cv .i64 v_4, (0, 0, [], 0, [], ()), (0, 0, [], [], [], ()), (0, 0, 0, [], [], (0, 0, [], [], [], ()), ()), v_8.1, (0, [], ()), ([], (0, 0, [], [], [], ()), ()), (0, 0, 0, [], [], ()), ()), 0)) <|
    cond (v_8.2.2 != 0) (some ((0, (0, 0, [], 0, [], ()), (0, 0, [], [], [], ()), (0, 0, 0, [], [], (0, 0, [], [], [], ()), ()), ((0, 0, 0, [], [], (0, 0, [], [], [], ()), ()), [], ()), (0, [], ()), ([], (0, 0, [], [], [], ()), ()), (0, 0, 0, [], [], ()), ()), v_8.2.2)) <|
    some ((cv .i64 v_4, (0, 0, [], 0, [], ()), (0, 0, [], [], [], ()), (0, 0, 0, [], [], (0, 0, [], [], [], ()), ()), v_8.1, (0, [], ()), ([], (0, 0, [], [], [], ()), ()), (0, 0, 0, [], [], ()), ()), 0)) <|
  cond ((cv .i64 v_4) == 5) (
    (iGetTc k l0 b1 1).bind fun v_9 =>
    cond (v_9.2.2 == 0) (
      cond (v_9.2.1 != (len b1)) (
        cond (9 != 0) (some ((0, (0, 0, [], 0, [], ()), (0, 0, [], [], [], ()), (0, 0, 0, [], [], (0, 0, [], [], [], ()), ()), ((0, 0, 0, [], [], (0, 0, [], [], [], ()), ()), [], ()), (0, [], ()), ([], (0, 0, [], [], [], ()), ()), (0, 0, 0, [], [], ()), ()), 9)) <|
        some ((cv .i64 v_4, (0, 0, [], 0, [], ()), (0, 0, [], [], [], ()), (0, 0, 0, [], [], (0, 0, [], [], [], ()), ()), ((0, 0, 0, [], [], (0, 0, [], [], [], ()), ()), [], ()), v_9.1, ([], (0, 0, [], [], [], ()), ()), (0, 0, 0, [], [], ()), ()), 0)) <|
      cond (v_9.2.2 != 0) (some ((0, (0, 0, [], 0, [], ()), (0, 0, [], [], [], ()), (0, 0, 0, [], [], (0, 0, [], [], [], ()), ()), ((0, 0, 0, [], [], (0, 0, [], [], [], ()), ()), [], ()), (0, [], ()), ([], (0, 0, [], [], [], ()), ()), (0, 0, 0, [], [], ()), ()), v_9.2.2)) <|
      some ((cv .i64 v_4, (0, 0, [], 0, [], ()), (0, 0, [], [], [], ()), (0, 0, 0, [], [], (0, 0, [], [], [], ()), ()), ((0, 0, 0, [], [], (0, 0, [], [], [], ()), ()), [], ()), v_9.1, ([], (0, 0, [], [], [], ()), ()), (0, 0, 0, [], [], ()), ()), 0)) <|
    cond (v_9.2.2 != 0) (some ((0, (0, 0, [], 0, [], ()), (0, 0, [], [], [], ()), (0, 0, 0, [], [], (0, 0, [], [], [], ()), ()), ((0, 0, 0, [], [], (0, 0, [], [], [], ()), ()), [], ()), (0, [], ()), ([], (0, 0, [], [], [], ()), ()), (0, 0, 0, [], [], ()), ()), v_9.2.2)) <|
    some ((cv .i64 v_4, (0, 0, [], 0, [], ()), (0, 0, [], [], [], ()), (0, 0, 0, [], [], (0, 0, [], [], [], ()), ()), ((0, 0, 0, [], [], (0, 0, [], [], [], ()), ()), [], ()), v_9.1, ([], (0, 0, [], [], [], ()), ()), (0, 0, 0, [], [], ()), ()), 0)) <|
  cond ((cv .i64 v_4) == 6) (
    (iGetProof k l0 b1 1).bind fun v_10 =>
    cond (v_10.2.2 == 0) (
      cond (v_10.2.1 != (len b1)) (
        cond (9 != 0) (some ((0, (0, 0, [], 0, [], ()), (0, 0, [], [], [], ()), (0, 0, 0, [], [], (0, 0, [], [], [], ()), ()), ((0, 0, 0, [], [], (0, 0, [], [], [], ()), ()), [], ()), (0, [], ()), ([], (0, 0, [], [], [], ()), ()), (0, 0, 0, [], [], ()), ()), 9)) <|
        some ((cv .i64 v_4, (0, 0, [], 0, [], ()), (0, 0, [], [], [], ()), (0, 0, 0, [], [], (0, 0, [], [], [], ()), ()), ((0, 0, 0, [], [], (0, 0, [], [], [], ()), ()), [], ()), (0, [], ()), v_10.1, (0, 0, 0, [], [], ()), ()), 0)) <|
      cond (v_10.2.2 != 0) (some ((0, (0, 0, [], 0, [], ()), (0, 0, [], [], [], ()), (0, 0, 0, [], [], (0, 0, [], [], [], ()), ()), ((0, 0, 0, [], [], (0, 0, [], [], [], ()), ()), [], ()), (0, [], ()), ([], (0, 0, [], [], [], ()), ()), (0, 0, 0, [], [], ()), ()), v_10.2.2)) <|
      some ((cv .i64 v_4, (0, 0, [], 0, [], ()), (0, 0, [], [], [], ()), (0, 0, 0, [], [], (0, 0, [], [], [], ()), ()), ((0, 0, 0, [], [], (0, 0, [], [], [], ()), ()), [], ()), (0, [], ()), v_10.1, (0, 0, 0, [], [], ()), ()), 0)) <|
    cond (v_10.2.2 != 0) (some ((0, (0, 0, [], 0, [], ()), (0, 0, [], [], [], ()), (0, 0, 0, [], [], (0, 0, [], [], [], ()), ()), ((0, 0, 0, [], [], (0, 0, [], [], [], ()), ()), [], ()), (0, [], ()), ([], (0, 0, [], [], [], ()), ()), (0, 0, 0, [], [], ()), ()), v_10.2.2)) <|
    some ((cv .i64 v_4, (0, 0, [], 0, [], ()), (0, 0, [], [], [], ()), (0, 0, 0, [], [], (0, 0, [], [], [], ()), ()), ((0, 0, 0, [], [], (0, 0, [], [], [], ()), ()), [], ()), (0, [], ()), v_10.1, (0, 0, 0, [], [], ()), ()), 0)) <|
  (iGetIncl k l0 b1 1).bind fun v_11 =>
  cond (v_11.2.2 == 0) (
    cond (v_11.2.1 != (len b1)) (
      cond (9 != 0) (some ((0, (0, 0, [], 0, [], ()), (0, 0, [], [], [], ()), (0, 0, 0, [], [], (0, 0, [], [], [], ()), ()), ((0, 0, 0, [], [], (0, 0, [], [], [], ()), ()), [], ()), (0, [], ()), ([], (0, 0, [], [], [], ()), ()), (0, 0, 0, [], [], ()), ()), 9)) <|
      some ((cv .i64 v_4, (0, 0, [], 0, [], ()), (0, 0, [], [], [], ()), (0, 0, 0, [], [], (0, 0, [], [], [], ()), ()), ((0, 0, 0, [], [], (0, 0, [], [], [], ()), ()), [], ()), (0, [], ()), ([], (0, 0, [], [], [], ()), ()), v_11.1, ()), 0)) <|
    cond (v_11.2.2 != 0) (some ((0, (0, 0, [], 0, [], ()), (0, 0, [], [], [], ()), (0, 0, 0, [], [], (0, 0, [], [], [], ()), ()), ((0, 0, 0, [], [], (0, 0, [], [], [], ()), ()), [], ()), (0, [], ()), ([], (0, 0, [], [], [], ()), ()), (0, 0, 0, [], [], ()), ()), v_11.2.2)) <|
    some ((cv .i64 v_4, (0, 0, [], 0, [], ()), (0, 0, [], [], [], ()), (0, 0, 0, [], [], (0, 0, [], [], [], ()), ()), ((0, 0, 0, [], [], (0, 0, [], [], [], ()), ()), [], ()), (0, [], ()), ([], (0, 0, [], [], [], ()), ()), v_11.1, ()), 0)) <|
  cond (v_11.2.2 != 0) (some ((0, (0, 0, [], 0, [], ()), (0, 0, [], [], [], ()), (0, 0, 0, [], [], (0, 0, [], [], [], ()), ()), ((0, 0, 0, [], [], (0, 0, [], [], [], ()), ()), [], ()), (0, [], ()), ([], (0, 0, [], [], [], ()), ()), (0, 0, 0, [], [], ()), ()), v_11.2.2)) <|
  some ((cv .i64 v_4, (0, 0, [], 0, [], ()), (0, 0, [], [], [], ()), (0, 0, 0, [], [], (0, 0, [], [], [], ()), ()), ((0, 0, 0, [], [], (0, 0, [], [], [], ()), ()), [], ()), (0, [], ()), ([], (0, 0, [], [], [], ()), ()), v_11.1, ()), 0)
def iscan_l0 : Nat → (List Int) → Bool → Int → DLimits → (List DEvent) → Int → Option ((Bool × Int × List DEvent × Int) ⊕ (List DEvent × Int × Int))
  | 0, _, _, _, _, _, _ => none
  | k + 1, s1, closed2, skip3, l4, out11, at12 =>
    cond (decide (at12 < (len s1))) (
      (iFrameAt k l4 s1 at12).bind fun v_1 =>
      cond (v_1.1 == 1) (
        cond (!closed2) (some (Sum.inr (out11, skip3, at12))) <|
        cond (v_1.1 != 3) (iscan_l0 k s1 closed2 (ad .i64 skip3 1) l4 out11 (ad .i64 at12 1)) <|
        cond (skip3 != 0) (
          (app out11 [(1, skip3, (0, (0, 0, [], 0, [], ()), (0, 0, [], [], [], ()), (0, 0, 0, [], [], (0, 0, [], [], [], ()), ()), ((0, 0, 0, [], [], (0, 0, [], [], [], ()), ()), [], ()), (0, [], ()), ([], (0, 0, [], [], [], ()), ()), (0, 0, 0, [], [], ()), ()), ())]).bind fun v_2 =>
          (iFrameData k l4 s1 at12).bind fun v_3 =>
          (iDecode k l4 v_3.1).bind fun v_4 =>
          cond (v_4.2 == 0) (
            (app v_2 [(3, 0, v_4.1, ())]).bind fun v_5 =>
            iscan_l0 k s1 closed2 0 l4 v_5 (ad .i64 at12 v_1.2)) <|
          (app v_2 [(2, v_4.2, (0, (0, 0, [], 0, [], ()), (0, 0, [], [], [], ()), (0, 0, 0, [], [], (0, 0, [], [], [], ()), ()), ((0, 0, 0, [], [], (0, 0, [], [], [], ()), ()), [], ()), (0, [], ()), ([], (0, 0, [], [], [], ()), ()), (0, 0, 0, [], [], ()), ()), ())]).bind fun v_6 =>
          iscan_l0 k s1 closed2 0 l4 v_6 (ad .i64 at12 v_1.2)) <|
        (iFrameData k l4 s1 at12).bind fun v_7 =>
        (iDecode k l4 v_7.1).bind fun v_8 =>
        cond (v_8.2 == 0) (
          (app out11 [(3, 0, v_8.1, ())]).bind fun v_9 =>
          iscan_l0 k s1 closed2 0 l4 v_9 (ad .i64 at12 v_1.2)) <|
        (app out11 [(2, v_8.2, (0, (0, 0, [], 0, [], ()), (0, 0, [], [], [], ()), (0, 0, 0, [], [], (0, 0, [], [], [], ()), ()), ((0, 0, 0, [], [], (0, 0, [], [], [], ()), ()), [], ()), (0, [], ()), ([], (0, 0, [], [], [], ()), ()), (0, 0, 0, [], [], ()), ()), ())]).bind fun v_10 =>
        iscan_l0 k s1 closed2 0 l4 v_10 (ad .i64 at12 v_1.2)) <|
      cond (v_1.1 != 3) (iscan_l0 k s1 closed2 (ad .i64 skip3 1) l4 out11 (ad .i64 at12 1)) <|
      cond (skip3 != 0) (
        (app out11 [(1, skip3, (0, (0, 0, [], 0, [], ()), (0, 0, [], [], [], ()), (0, 0, 0, [], [], (0, 0, [], [], [], ()), ()), ((0, 0, 0, [], [], (0, 0, [], [], [], ()), ()), [], ()), (0, [], ()), ([], (0, 0, [], [], [], ()), ()), (0, 0, 0, [], [], ()), ()), ())]).bind fun v_11 =>
        (iFrameData k l4 s1 at12).bind fun v_12 =>
        (iDecode k l4 v_12.1).bind fun v_13 =>
        cond (v_13.2 == 0) (
          (app v_11 [(3, 0, v_13.1, ())]).bind fun v_14 =>
          iscan_l0 k s1 closed2 0 l4 v_14 (ad .i64 at12 v_1.2)) <|
        (app v_11 [(2, v_13.2, (0, (0, 0, [], 0, [], ()), (0, 0, [], [], [], ()), (0, 0, 0, [], [], (0, 0, [], [], [], ()), ()), ((0, 0, 0, [], [], (0, 0, [], [], [], ()), ()), [], ()), (0, [], ()), ([], (0, 0, [], [], [], ()), ()), (0, 0, 0, [], [], ()), ()), ())]).bind fun v_15 =>
        iscan_l0 k s1 closed2 0 l4 v_15 (ad .i64 at12 v_1.2)) <|
      (iFrameData k l4 s1 at12).bind fun v_16 =>
      (iDecode k l4 v_16.1).bind fun v_17 =>
      cond (v_17.2 == 0) (
        (app out11 [(3, 0, v_17.1, ())]).bind fun v_18 =>
        iscan_l0 k s1 closed2 0 l4 v_18 (ad .i64 at12 v_1.2)) <|
      (app out11 [(2, v_17.2, (0, (0, 0, [], 0, [], ()), (0, 0, [], [], [], ()), (0, 0, 0, [], [], (0, 0, [], [], [], ()), ()), ((0, 0, 0, [], [], (0, 0, [], [], [], ()), ()), [], ()), (0, [], ()), ([], (0, 0, [], [], [], ()), ()), (0, 0, 0, [], [], ()), ()), ())]).bind fun v_19 =>
      iscan_l0 k s1 closed2 0 l4 v_19 (ad .i64 at12 v_1.2)) <|
    some (Sum.inl (closed2, skip3, out11, at12))
def iscan (k : Nat) (l0 : DLimits) (s1 : List Int) (closed2 : Bool) (skip3 : Int) : Option (List DEvent × Int × Int) :=
  (iscan_l0 k s1 closed2 skip3 l0 [] 0).bind fun v_20 =>
  sumE v_20 (fun v_21 =>
    cond v_21.1 (
      cond (v_21.2.1 != 0) (
        (app v_21.2.2.1 [(1, v_21.2.1, (0, (0, 0, [], 0, [], ()), (0, 0, [], [], [], ()), (0, 0, 0, [], [], (0, 0, [], [], [], ()), ()), ((0, 0, 0, [], [], (0, 0, [], [], [], ()), ()), [], ()), (0, [], ()), ([], (0, 0, [], [], [], ()), ()), (0, 0, 0, [], [], ()), ()), ())]).bind fun v_23 =>
        some (v_23, v_21.2.1, v_21.2.2.2)) <|
      some (v_21.2.2.1, v_21.2.1, v_21.2.2.2)) <|
    some (v_21.2.2.1, v_21.2.1, v_21.2.2.2)) fun v_22 =>
  some v_22
def iTreeSame_l0 : Nat → (List (List Int)) → (List (List Int)) → Int → Int → Option ((Unit) ⊕ (Bool))
  | 0, _, _, _, _ => none
  | k + 1, a0, b1, s12, s13 =>
    cond (decide (s13 < s12)) (
      (rd a0 s13).bind fun v_1 =>
      (rd b1 s13).bind fun v_2 =>
      (iSameBytes v_1 v_2).bind fun v_3 =>
      cond (!v_3) (some (Sum.inr false)) <|
      iTreeSame_l0 k a0 b1 s12 (ad .i64 s13 1)) <|
    some (Sum.inl ())
def iTreeSame (k : Nat) (a0 : List (List Int)) (b1 : List (List Int)) : Option (Bool) :=
  cond ((len a0) != (len b1)) (some false) <|
  (iTreeSame_l0 k a0 b1 (len a0) 0).bind fun v_4 =>
  sumE v_4 (fun v_5 =>
    some true) fun v_6 =>
  some v_6
def iQcSame (k : Nat) (a0 : DQc) (b1 : DQc) : Option (Bool) :=
  cond (a0.1 == b1.1) (
    cond (a0.2.1 == b1.2.1) (
      (iSameBytes a0.2.2.1 b1.2.2.1).bind fun v_1 =>
      cond v_1 (
        (iSameBytes a0.2.2.2.1 b1.2.2.2.1).bind fun v_2 =>
        cond v_2 (
          (iTreeSame k a0.2.2.2.2.1 b1.2.2.2.2.1).bind fun v_3 =>
          some v_3) <|
        some false) <|
      some false) <|
    some false) <|
  some false
def iHeadSame (k : Nat) (a0 : DHead) (b1 : DHead) : Option (Bool) :=
  cond (a0.1 == b1.1) (
    cond (a0.2.1 == b1.2.1) (
      cond (a0.2.2.1 == b1.2.2.1) (
        (iSameBytes a0.2.2.2.1 b1.2.2.2.1).bind fun v_1 =>
        cond v_1 (
          (iSameBytes a0.2.2.2.2.1 b1.2.2.2.2.1).bind fun v_2 =>
          cond v_2 (
            (iQcSame k a0.2.2.2.2.2.1 b1.2.2.2.2.2.1).bind fun v_3 =>
            some v_3) <|
          some false) <|
        some false) <|
      some false) <|
    some false) <|
  some false
def iBlockSame (k : Nat) (a0 : DBlock) (b1 : DBlock) : Option (Bool) :=
  (iHeadSame k a0.1 b1.1).bind fun v_1 =>
  cond v_1 (
    (iTreeSame k a0.2.1 b1.2.1).bind fun v_2 =>
    some v_2) <|
  some false
def iTcSame_l0 : Nat → DTc → DTc → Int → Int → Option ((Unit) ⊕ (Bool))
  | 0, _, _, _, _ => none
  | k + 1, a2, b3, s22, s23 =>
    cond (decide (s23 < s22)) (
      (rd a2.2.1 s23).bind fun v_1 =>
      (rd b3.2.1 s23).bind fun v_2 =>
      (ientrySame v_1 v_2).bind fun v_3 =>
      cond (!v_3) (some (Sum.inr false)) <|
      iTcSame_l0 k a2 b3 s22 (ad .i64 s23 1)) <|
    some (Sum.inl ())
def iTcSame (k : Nat) (a0 : DTc) (b1 : DTc) : Option (Bool) :=
  cond (a0.1 != b1.1) (some false) <|
  cond ((len a0.2.1) != (len b1.2.1)) (some false) <|
  (iTcSame_l0 k a0 b1 (len a0.2.1) 0).bind fun v_4 =>
  sumE v_4 (fun v_5 =>
    some true) fun v_6 =>
  some v_6
def iheadsSame_l0 : Nat → (List DHead) → (List DHead) → Int → Int → Option ((Unit) ⊕ (Bool))
  | 0, _, _, _, _ => none
  | k + 1, a0, b1, s12, s13 =>
    cond (decide (s13 < s12)) (
      (rd a0 s13).bind fun v_1 =>
      (rd b1 s13).bind fun v_2 =>
      (iHeadSame k v_1 v_2).bind fun v_3 =>
      cond (!v_3) (some (Sum.inr false)) <|
      iheadsSame_l0 k a0 b1 s12 (ad .i64 s13 1)) <|
    some (Sum.inl ())
def iheadsSame (k : Nat) (a0 : List DHead) (b1 : List DHead) : Option (Bool) :=
  cond ((len a0) != (len b1)) (some false) <|
  (iheadsSame_l0 k a0 b1 (len a0) 0).bind fun v_4 =>
  sumE v_4 (fun v_5 =>
    some true) fun v_6 =>
  some v_6
def iProofSame (k : Nat) (a0 : DProof) (b1 : DProof) : Option (Bool) :=
  (iheadsSame k a0.1 b1.1).bind fun v_1 =>
  cond v_1 (
    (iQcSame k a0.2.1 b1.2.1).bind fun v_2 =>
    some v_2) <|
  some false
def iInclSame (k : Nat) (a0 : DIncl) (b1 : DIncl) : Option (Bool) :=
  cond (a0.1 == b1.1) (
    cond (a0.2.1 == b1.2.1) (
      cond (a0.2.2.1 == b1.2.2.1) (
        (iSameBytes a0.2.2.2.1 b1.2.2.2.1).bind fun v_1 =>
        cond v_1 (
          (iTreeSame k a0.2.2.2.2.1 b1.2.2.2.2.1).bind fun v_2 =>
          some v_2) <|
        some false) <|
      some false) <|
    some false) <|
  some false
def iMsgSame (k : Nat) (a0 : DMsg) (b1 : DMsg) : Option (Bool) :=
  cond (a0.1 == b1.1) (
    (iVoteSame a0.2.1 b1.2.1).bind fun v_1 =>
    cond v_1 (
      (iQcSame k a0.2.2.1 b1.2.2.1).bind fun v_2 =>
      cond v_2 (
        (iHeadSame k a0.2.2.2.1 b1.2.2.2.1).bind fun v_3 =>
        cond v_3 (
          (iBlockSame k a0.2.2.2.2.1 b1.2.2.2.2.1).bind fun v_4 =>
          cond v_4 (
            (iTcSame k a0.2.2.2.2.2.1 b1.2.2.2.2.2.1).bind fun v_5 =>
            cond v_5 (
              (iProofSame k a0.2.2.2.2.2.2.1 b1.2.2.2.2.2.2.1).bind fun v_6 =>
              cond v_6 (
                (iInclSame k a0.2.2.2.2.2.2.2.1 b1.2.2.2.2.2.2.2.1).bind fun v_7 =>
                some v_7) <|
              some false) <|
            some false) <|
          some false) <|
        some false) <|
      some false) <|
    some false) <|
  some false
def iEventSame (k : Nat) (a0 : DEvent) (b1 : DEvent) : Option (Bool) :=
  cond (a0.1 == b1.1) (
    cond (a0.2.1 == b1.2.1) (
      (iMsgSame k a0.2.2.1 b1.2.2.1).bind fun v_1 =>
      some v_1) <|
    some false) <|
  some false
def sl20Pieces_l0 : Nat → Dl01Cur → (List Int) → (List (List Int)) → Option (Dl01Cur × List Int × List (List Int))
  | 0, _, _, _ => none
  | k + 1, c0, s1, out5 =>
    cond (decide ((len s1) > 0)) (
      cond (decide ((len out5) < 9)) (
        (sl01Below c0 (ad .i64 (len s1) 1)).bind fun v_1 =>
        (sl01Once v_1.2 2).bind fun v_2 =>
        cond v_2.1 (
          cond (decide (v_1.1 > 6)) (
            (sl01Below v_2.2 7).bind fun v_3 =>
            (sub s1 0 v_3.1).bind fun v_4 =>
            (sl01Copy v_4).bind fun v_5 =>
            (app out5 [v_5]).bind fun v_6 =>
            (sub s1 v_3.1 (len s1)).bind fun v_7 =>
            sl20Pieces_l0 k v_3.2 v_7 v_6) <|
          (sub s1 0 v_1.1).bind fun v_8 =>
          (sl01Copy v_8).bind fun v_9 =>
          (app out5 [v_9]).bind fun v_10 =>
          (sub s1 v_1.1 (len s1)).bind fun v_11 =>
          sl20Pieces_l0 k v_2.2 v_11 v_10) <|
        (sub s1 0 v_1.1).bind fun v_12 =>
        (sl01Copy v_12).bind fun v_13 =>
        (app out5 [v_13]).bind fun v_14 =>
        (sub s1 v_1.1 (len s1)).bind fun v_15 =>
        sl20Pieces_l0 k v_2.2 v_15 v_14) <|
      some (c0, s1, out5)) <|
    some (c0, s1, out5)
def sl20Pieces (k : Nat) (c0 : Dl01Cur) (s1 : List Int) : Option (List (List Int) × Dl01Cur) :=
  (sl20Pieces_l0 k c0 s1 []).bind fun v_16 =>
  (sl01Copy v_16.2.1).bind fun v_17 =>
  (app v_16.2.2 [v_17]).bind fun v_18 =>
  some (v_18, v_16.1)
def iPushOk (k : Nat) (l0 : DLimits) (p1 : DPush) : Option (Bool) :=
  (iFrameAt k l0 p1.2.1 0).bind fun v_1 =>
  (iLimitsOk l0).bind fun v_2 =>
  cond v_2 (
    (iisNum p1.1).bind fun v_3 =>
    cond v_3 (
      cond ((len p1.2.1) == 0) (some true) <|
      some (v_1.1 == 1)) <|
    some false) <|
  some false
def iPush_copied (p0 : DPush) : Option (DPush) :=
  (icopyBytes p0.2.1).bind fun v_1 =>
  some (p0.1, v_1, ())
def iFeed (k : Nat) (l0 : DLimits) (p1 : DPush) (b2 : List Int) : Option (DPush × List DEvent) :=
  (iPushOk k l0 p1).bind fun v_1 =>
  cond (!v_1) (
    (iPush_copied p1).bind fun v_2 =>
    some (v_2, [])) <|
  (icopyBytes p1.2.1).bind fun v_3 =>
  (app v_3 b2).bind fun v_4 =>
  (iscan k l0 v_4 false p1.1).bind fun v_5 =>
  (sub v_4 v_5.2.2 (len v_4)).bind fun _v_6 =>
  (icopyBytes (cut v_4 v_5.2.2 (len v_4))).bind fun v_7 =>
  some ((v_5.2.1, v_7, ()), v_5.1)
def sl18Stream_l0 : Nat → Dl01Cur → DLimits → (List Int) → Int → Option (Dl01Cur × List Int)
  | 0, _, _, _, _ => none
  | k + 1, c0, l3, s5, n6 =>
    cond (decide (n6 > 0)) (
      (sl01Below c0 6).bind fun v_2 =>
      cond (v_2.1 == 0) (
        (sl01Bytes k v_2.2 4).bind fun v_3 =>
        (app s5 v_3.1).bind fun v_4 =>
        sl18Stream_l0 k v_3.2 l3 v_4 (su .i64 n6 1)) <|
      cond (v_2.1 == 1) (
        (app s5 [181]).bind fun v_5 =>
        sl18Stream_l0 k v_2.2 l3 v_5 (su .i64 n6 1)) <|
      cond (v_2.1 == 2) (
        (sl01Below v_2.2 90).bind fun v_6 =>
        (app s5 [181, 70, cv .u8 v_6.1, 0]).bind fun v_7 =>
        sl18Stream_l0 k v_6.2 l3 v_7 (su .i64 n6 1)) <|
      cond (v_2.1 == 3) (
        (sl18Some k v_2.2 l3).bind fun v_8 =>
        (sl01Bend k v_8.2 v_8.1).bind fun v_9 =>
        (app s5 v_9.1).bind fun v_10 =>
        sl18Stream_l0 k v_9.2 l3 v_10 (su .i64 n6 1)) <|
      (sl18Some k v_2.2 l3).bind fun v_11 =>
      (app s5 v_11.1).bind fun v_12 =>
      sl18Stream_l0 k v_11.2 l3 v_12 (su .i64 n6 1)) <|
    some (c0, s5)
def sl18Stream (k : Nat) (c0 : Dl01Cur) (l1 : DLimits) : Option (List Int × Dl01Cur) :=
  (sl01Below c0 4).bind fun v_1 =>
  (sl18Stream_l0 k v_1.2 l1 [] v_1.1).bind fun v_13 =>
  some (v_13.2, v_13.1)
def sl31Right (k : Nat) (c0 : Dl01Cur) (l1 : DLimits) : Option (DMsg × Dl01Cur) :=
  (sl17Draw k c0 l1).bind fun v_1 =>
  (sMsgOk k l1 v_1.1).bind fun v_2 =>
  cond (!v_2) (
    (sl11Draw v_1.2 l1).bind fun v_3 =>
    (sOfVote v_3.1).bind fun v_4 =>
    some (v_4, v_3.2)) <|
  some v_1
def sl10Draw (c0 : Dl01Cur) : Option (DLimits × Dl01Cur) :=
  (sl01Pick c0 [1, 3, 4, 4, 7, 9, 10]).bind fun v_1 =>
  (sl01Pick v_1.2 [0, 4, 8, 40]).bind fun v_2 =>
  (sl01Pick v_2.2 [0, 3, 8]).bind fun v_3 =>
  (sl01Pick v_3.2 [4000, 4000, 300, 60]).bind fun v_4 =>
  (sl01Below v_4.2 3).bind fun v_5 =>
  some ((v_1.1, v_2.1, v_3.1, v_4.1, ad .i64 3 v_5.1, ()), v_5.2)
def iTableSame_l0 : Nat → DTable → DTable → Int → Int → Option ((Unit) ⊕ (Bool))
  | 0, _, _, _, _ => none
  | k + 1, a2, b3, s15, s16 =>
    cond (decide (s16 < s15)) (
      (rd a2.1 s16).bind fun v_1 =>
      (rd b3.1 s16).bind fun v_2 =>
      cond (v_1.1 != v_2.1) (some (Sum.inr false)) <|
      (rd a2.1 s16).bind fun v_3 =>
      (rd b3.1 s16).bind fun v_4 =>
      (iSameBytes v_3.2.1 v_4.2.1).bind fun v_5 =>
      cond (!v_5) (some (Sum.inr false)) <|
      iTableSame_l0 k a2 b3 s15 (ad .i64 s16 1)) <|
    some (Sum.inl ())
def iTableSame (k : Nat) (a0 : DTable) (b1 : DTable) : Option (Bool) :=
  cond ((len a0.1) != (len b1.1)) (some false) <|
  (iTableSame_l0 k a0 b1 (len a0.1) 0).bind fun v_6 =>
  sumE v_6 (fun v_7 =>
    some true) fun v_8 =>
  some v_8
def iPathOk (k : Nat) (x0 : List Int) (i1 : Int) (n2 : Int) (path3 : List (List Int)) (root4 : List Int) : Option (Bool) :=
  (iLeafHash k x0).bind fun v_1 =>
  (iPathRoot k v_1 i1 n2 path3).bind fun v_2 =>
  cond v_2.2 (
    (iSameBytes v_2.1 root4).bind fun v_3 =>
    some v_3) <|
  some false
def iLightOk_l0 : Nat → DLight → (List DHead) → Int → Int → Option ((DLight) ⊕ (Bool))
  | 0, _, _, _, _ => none
  | k + 1, x1, s6, s7, s8 =>
    cond (decide (s8 < s7)) (
      (rd s6 s8).bind fun v_1 =>
      (iHeadOk k x1.1 v_1).bind fun v_2 =>
      cond (!v_2) (some (Sum.inr false)) <|
      cond (decide (s8 > 0)) (
        (rd x1.2.2.2.1 (su .i64 s8 1)).bind fun v_3 =>
        cond (decide (v_1.2.1 ≤ v_3.2.1)) (some (Sum.inr false)) <|
        iLightOk_l0 k x1 s6 s7 (ad .i64 s8 1)) <|
      iLightOk_l0 k x1 s6 s7 (ad .i64 s8 1)) <|
    some (Sum.inl x1)
def iLightOk (k : Nat) (x0 : DLight) : Option (Bool) :=
  (iLightOk_l0 k x0 x0.2.2.2.1 (len x0.2.2.2.1) 0).bind fun v_4 =>
  sumE v_4 (fun v_5 =>
    (ibelongs k v_5.1 v_5.2.1).bind fun v_7 =>
    cond v_7 (
      (iPushOk k v_5.1 v_5.2.2.1).bind fun v_8 =>
      cond v_8 (some (decide ((len v_5.2.2.2.1) ≤ 8))) <|
      some false) <|
    some false) fun v_6 =>
  some v_6
def iKnown_l0 : Nat → Int → DLight → DHead → (List DHead) → Int → Int → Option ((DHead) ⊕ (DHead × Bool))
  | 0, _, _, _, _, _, _ => none
  | k + 1, height1, x2, s4, s9, s10, s11 =>
    cond (decide (s11 < s10)) (
      (rd s9 s11).bind fun v_1 =>
      cond (v_1.2.1 == height1) (
        (iLightOk k x2).bind fun v_2 =>
        cond v_2 (
          (iHead_copied k v_1).bind fun v_3 =>
          some (Sum.inr (v_3, true))) <|
        iKnown_l0 k height1 x2 s4 s9 s10 (ad .i64 s11 1)) <|
      iKnown_l0 k height1 x2 s4 s9 s10 (ad .i64 s11 1)) <|
    some (Sum.inl s4)
def iKnown (k : Nat) (x0 : DLight) (height1 : Int) : Option (DHead × Bool) :=
  (iKnown_l0 k height1 x0 (0, 0, 0, [], [], (0, 0, [], [], [], ()), ()) x0.2.2.2.1 (len x0.2.2.2.1) 0).bind fun v_4 =>
  sumE v_4 (fun v_5 =>
    some ((0, 0, 0, [], [], (0, 0, [], [], [], ()), ()), false)) fun v_6 =>
  some v_6
def iTable_copied_l0 : Nat → DTable → DTable → (List DPush) → Int → Int → Option (DTable × DTable)
  | 0, _, _, _, _, _ => none
  | k + 1, s2, out3, s8, s9, s10 =>
    cond (decide (s10 < s9)) (
      (rd s8 s10).bind fun v_1 =>
      (icopyBytes v_1.2.1).bind fun v_2 =>
      (app out3.1 [(v_1.1, v_2, ())]).bind fun v_3 =>
      iTable_copied_l0 k s2 (v_3, ()) s8 s9 (ad .i64 s10 1)) <|
    some (s2, out3)
def iTable_copied (k : Nat) (t0 : DTable) : Option (DTable) :=
  (iTable_copied_l0 k ([], ()) ([], ()) t0.1 (len t0.1) 0).bind fun v_4 =>
  some v_4.2
def iLight_copied (k : Nat) (x0 : DLight) : Option (DLight) :=
  (iTable_copied k x0.2.1).bind fun v_1 =>
  (iPush_copied x0.2.2.1).bind fun v_2 =>
  (icopyHeads k x0.2.2.2.1).bind fun v_3 =>
  some (x0.1, v_1, v_2, v_3, ())
def iLight_commit_l0 : Nat → DLight → DLight → DLight → Int → DHead → Int → Option (DLight × DLight × DLight × DHead × Int)
  | 0, _, _, _, _, _, _ => none
  | k + 1, x2, s4, out6, n7, h8, k12 =>
    cond (decide (k12 < n7)) (
      (rd x2.2.2.2.1 k12).bind fun v_8 =>
      cond (decide (v_8.2.1 < h8.2.1)) (iLight_commit_l0 k x2 s4 out6 n7 h8 (ad .i64 k12 1)) <|
      some (x2, s4, out6, h8, k12)) <|
    some (x2, s4, out6, h8, k12)
def iLight_commit (k : Nat) (x0 : DLight) (p1 : DProof) : Option (DLight × Int) :=
  (iLight_copied k x0).bind fun v_1 =>
  (iProofCode k x0.1 x0.2.1 p1).bind fun v_2 =>
  cond (v_2 != 0) (some (v_1, 3)) <|
  (iCommits k x0.1 p1).bind fun v_3 =>
  (iKnown k x0 v_3.1.2.1).bind fun v_4 =>
  cond v_4.2 (
    (iHeadSame k v_4.1 v_3.1).bind fun v_5 =>
    cond v_5 (some (v_1, 2)) <|
    some (v_1, 4)) <|
  cond (decide ((len x0.2.2.2.1) > 0)) (
    (rd x0.2.2.2.1 0).bind fun v_6 =>
    cond (decide (v_6.2.1 > v_3.1.2.1)) (some (v_1, 5)) <|
    cond ((len x0.2.2.2.1) == 8) (
      (rd x0.2.2.2.1 (su .i64 (len x0.2.2.2.1) 1)).bind fun v_7 =>
      cond (decide (v_7.2.1 > v_3.1.2.1)) (some (v_1, 5)) <|
      (iLight_commit_l0 k x0 ((0, 0, 0, 0, 0, ()), ([], ()), (0, [], ()), [], ()) v_1 (len x0.2.2.2.1) v_3.1 0).bind fun v_9 =>
      (sub v_9.1.2.2.2.1 0 v_9.2.2.2.2).bind fun v_10 =>
      (icopyHeads k v_10).bind fun v_11 =>
      (app v_11 [v_9.2.2.2.1]).bind fun v_12 =>
      (sub v_9.1.2.2.2.1 v_9.2.2.2.2 (len v_9.1.2.2.2.1)).bind fun v_13 =>
      (icopyHeads k v_13).bind fun v_14 =>
      (app v_12 v_14).bind fun v_15 =>
      cond (decide ((len v_15) > 8)) (
        (sub v_15 1 (len v_15)).bind fun _v_16 =>
        some ((v_9.2.2.1.1, v_9.2.2.1.2.1, v_9.2.2.1.2.2.1, cut v_15 1 (len v_15), v_9.2.2.1.2.2.2.2), 1)) <|
      some ((v_9.2.2.1.1, v_9.2.2.1.2.1, v_9.2.2.1.2.2.1, v_15, v_9.2.2.1.2.2.2.2), 1)) <|
    (iLight_commit_l0 k x0 ((0, 0, 0, 0, 0, ()), ([], ()), (0, [], ()), [], ()) v_1 (len x0.2.2.2.1) v_3.1 0).bind fun v_17 =>
    (sub v_17.1.2.2.2.1 0 v_17.2.2.2.2).bind fun v_18 =>
    (icopyHeads k v_18).bind fun v_19 =>
    (app v_19 [v_17.2.2.2.1]).bind fun v_20 =>
    (sub v_17.1.2.2.2.1 v_17.2.2.2.2 (len v_17.1.2.2.2.1)).bind fun v_21 =>
    (icopyHeads k v_21).bind fun v_22 =>
    (app v_20 v_22).bind fun v_23 =>
    cond (decide ((len v_23) > 8)) (
      (sub v_23 1 (len v_23)).bind fun _v_24 =>
      some ((v_17.2.2.1.1, v_17.2.2.1.2.1, v_17.2.2.1.2.2.1, cut v_23 1 (len v_23), v_17.2.2.1.2.2.2.2), 1)) <|
    some ((v_17.2.2.1.1, v_17.2.2.1.2.1, v_17.2.2.1.2.2.1, v_23, v_17.2.2.1.2.2.2.2), 1)) <|
  cond ((len x0.2.2.2.1) == 8) (
    (rd x0.2.2.2.1 (su .i64 (len x0.2.2.2.1) 1)).bind fun v_25 =>
    cond (decide (v_25.2.1 > v_3.1.2.1)) (some (v_1, 5)) <|
    (iLight_commit_l0 k x0 ((0, 0, 0, 0, 0, ()), ([], ()), (0, [], ()), [], ()) v_1 (len x0.2.2.2.1) v_3.1 0).bind fun v_26 =>
    (sub v_26.1.2.2.2.1 0 v_26.2.2.2.2).bind fun v_27 =>
    (icopyHeads k v_27).bind fun v_28 =>
    (app v_28 [v_26.2.2.2.1]).bind fun v_29 =>
    (sub v_26.1.2.2.2.1 v_26.2.2.2.2 (len v_26.1.2.2.2.1)).bind fun v_30 =>
    (icopyHeads k v_30).bind fun v_31 =>
    (app v_29 v_31).bind fun v_32 =>
    cond (decide ((len v_32) > 8)) (
      (sub v_32 1 (len v_32)).bind fun _v_33 =>
      some ((v_26.2.2.1.1, v_26.2.2.1.2.1, v_26.2.2.1.2.2.1, cut v_32 1 (len v_32), v_26.2.2.1.2.2.2.2), 1)) <|
    some ((v_26.2.2.1.1, v_26.2.2.1.2.1, v_26.2.2.1.2.2.1, v_32, v_26.2.2.1.2.2.2.2), 1)) <|
  (iLight_commit_l0 k x0 ((0, 0, 0, 0, 0, ()), ([], ()), (0, [], ()), [], ()) v_1 (len x0.2.2.2.1) v_3.1 0).bind fun v_34 =>
  (sub v_34.1.2.2.2.1 0 v_34.2.2.2.2).bind fun v_35 =>
  (icopyHeads k v_35).bind fun v_36 =>
  (app v_36 [v_34.2.2.2.1]).bind fun v_37 =>
  (sub v_34.1.2.2.2.1 v_34.2.2.2.2 (len v_34.1.2.2.2.1)).bind fun v_38 =>
  (icopyHeads k v_38).bind fun v_39 =>
  (app v_37 v_39).bind fun v_40 =>
  cond (decide ((len v_40) > 8)) (
    (sub v_40 1 (len v_40)).bind fun _v_41 =>
    some ((v_34.2.2.1.1, v_34.2.2.1.2.1, v_34.2.2.1.2.2.1, cut v_40 1 (len v_40), v_34.2.2.1.2.2.2.2), 1)) <|
  some ((v_34.2.2.1.1, v_34.2.2.1.2.1, v_34.2.2.1.2.2.1, v_40, v_34.2.2.1.2.2.2.2), 1)
def iTcCode_l0 : Nat → DLimits → DTable → DTc → (List DEntry) → Int → Int → Option ((DLimits × DTable × DTc) ⊕ (Int))
  | 0, _, _, _, _, _, _ => none
  | k + 1, l3, t4, x5, s22, s23, s24 =>
    cond (decide (s24 < s23)) (
      (rd s22 s24).bind fun v_3 =>
      (iEntryGood k t4 x5.1 v_3).bind fun v_4 =>
      cond (!v_4) (some (Sum.inr 2)) <|
      iTcCode_l0 k l3 t4 x5 s22 s23 (ad .i64 s24 1)) <|
    some (Sum.inl (l3, t4, x5))
def iTcCode (k : Nat) (l0 : DLimits) (t1 : DTable) (x2 : DTc) : Option (Int) :=
  (ibelongs k l0 t1).bind fun v_1 =>
  cond (!v_1) (some 1) <|
  (iTcOk k l0 x2).bind fun v_2 =>
  cond (!v_2) (some 1) <|
  (iTcCode_l0 k l0 t1 x2 x2.2.1 (len x2.2.1) 0).bind fun v_5 =>
  sumE v_5 (fun v_6 =>
    (iTcBits k v_6.1 v_6.2.2).bind fun v_8 =>
    (iIsQuorum k v_6.2.1 v_8.1).bind fun v_9 =>
    cond (!v_9) (some 3) <|
    some 0) fun v_7 =>
  some v_7
def igoodOr (code0 : Int) : Option (Int) :=
  cond (code0 == 0) (some 9) <|
  some 3
def iBuildQc_l0 : Nat → Int → Int → (List Int) → DLimits → DTable → DQc → DQc → (List Int) → Int → Int → Option (DLimits × DQc × DQc)
  | 0, _, _, _, _, _, _, _, _, _, _ => none
  | k + 1, view2, height3, block4, l6, t7, s12, out14, s39, s40, s41 =>
    cond (decide (s41 < s40)) (
      (rd s39 s41).bind fun _v_6 =>
      (rd s39 s41).bind fun v_7 =>
      (iSignVote k t7 view2 height3 block4 v_7).bind fun v_8 =>
      (app out14.2.2.2.2.1 [v_8.1.2.2.2.2.1]).bind fun v_9 =>
      iBuildQc_l0 k view2 height3 block4 l6 t7 s12 (out14.1, out14.2.1, out14.2.2.1, out14.2.2.2.1, v_9, ()) s39 s40 (ad .i64 s41 1)) <|
    some (l6, s12, out14)
def iBuildQc (k : Nat) (l0 : DLimits) (t1 : DTable) (view2 : Int) (height3 : Int) (block4 : List Int) (bits5 : List Int) : Option (DQc × Bool) :=
  (ibelongs k l0 t1).bind fun v_1 =>
  cond (!v_1) (some ((0, 0, [], [], [], ()), false)) <|
  (iBitsOk k bits5 l0.1).bind fun v_2 =>
  cond (!v_2) (some ((0, 0, [], [], [], ()), false)) <|
  (icopyBytes block4).bind fun v_3 =>
  (icopyBytes bits5).bind fun v_4 =>
  (iBitsList k bits5).bind fun v_5 =>
  (iBuildQc_l0 k view2 height3 block4 l0 t1 (0, 0, [], [], [], ()) (view2, height3, v_3, v_4, [], ()) v_5 (len v_5) 0).bind fun v_10 =>
  (iQcOk k v_10.1 v_10.2.2).bind fun v_11 =>
  cond (!v_11) (some ((0, 0, [], [], [], ()), false)) <|
  some (v_10.2.2, true)
def sl30Full (k : Nat) (n0 : Int) : Option (List Int) :=
  cond (decide (n0 < 0)) none <|
  (sBitsSize n0).bind fun v_1 =>
  (sPutFix k [] (su .i64 (sl .i64 1 n0) 1) v_1).bind fun v_2 =>
  some v_2.1
def sNextHead (k : Nat) (l0 : DLimits) (t1 : DTable) (a2 : DHead) (view3 : Int) (proposer4 : Int) (root5 : List Int) (bits6 : List Int) : Option (DHead × Bool) :=
  (sHeadHash k l0 a2).bind fun v_1 =>
  (sl01Copy root5).bind fun v_2 =>
  (sBuildQc k l0 t1 a2.1 a2.2.1 v_1 bits6).bind fun v_3 =>
  cond (!v_3.2) (some ((0, 0, 0, [], [], (0, 0, [], [], [], ()), ()), false)) <|
  (sLinks k l0 a2 (view3, ad .i64 a2.2.1 1, proposer4, v_1, v_2, v_3.1, ())).bind fun v_4 =>
  cond (!v_4) (some ((0, 0, 0, [], [], (0, 0, [], [], [], ()), ()), false)) <|
  some ((view3, ad .i64 a2.2.1 1, proposer4, v_1, v_2, v_3.1, ()), true)
def sFirstHead (k : Nat) (l0 : DLimits) (t1 : DTable) (view2 : Int) (root3 : List Int) : Option (DHead × Bool) :=
  (mk 32 0).bind fun v_1 =>
  (sl01Copy root3).bind fun v_2 =>
  (mk 32 0).bind fun v_3 =>
  (sBitsNew l0.1).bind fun v_4 =>
  (sl23Goes k l0 t1).bind fun v_5 =>
  cond (!v_5) (some ((0, 0, 0, [], [], (0, 0, [], [], [], ()), ()), false)) <|
  (sHeadOk k l0 (view2, 1, 0, v_1, v_2, (0, 0, v_3, v_4, [], ()), ())).bind fun v_6 =>
  cond (!v_6) (some ((0, 0, 0, [], [], (0, 0, [], [], [], ()), ()), false)) <|
  some ((view2, 1, 0, v_1, v_2, (0, 0, v_3, v_4, [], ()), ()), true)
def sl23Pair (k : Nat) (c0 : Dl01Cur) : Option (DLimits × DTable × Dl01Cur) :=
  (sl10Draw c0).bind fun v_1 =>
  (sl01Below v_1.2 5).bind fun v_2 =>
  (sl21Draw k v_2.2 (ad .i64 1 v_2.1)).bind fun v_3 =>
  some ((ad .i64 1 v_2.1, v_1.1.2.1, v_1.1.2.2.1, 4000, v_1.1.2.2.2.2), v_3)
def sl01New_l0 : Nat → (List Int) → Int → Int → Option (List Int × Int)
  | 0, _, _, _ => none
  | k + 1, code0, h3, i4 =>
    cond (decide (i4 < (len code0))) (
      cond (decide (i4 < 4000)) (
        (rd code0 i4).bind fun v_1 =>
        sl01New_l0 k code0 (an .i64 (ad .i64 (ad .i64 (mu .i64 h3 37) (cv .i64 v_1)) 7) 1073741823) (ad .i64 i4 1)) <|
      some (code0, h3)) <|
    some (code0, h3)
def sl01New (k : Nat) (code0 : List Int) : Option (Dl01Cur) :=
  (sl01New_l0 k code0 (ad .i64 1611 (len code0)) 0).bind fun v_2 =>
  some (v_2.1, 0, v_2.2, ())
def weqMsg (k : Nat) (a0 : DMsg) (b1 : DMsg) : Option (Bool) :=
  cond (a0.1 != b1.1) (some false) <|
  (weqVote k a0.2.1 b1.2.1).bind fun v_1 =>
  cond (!v_1) (some false) <|
  (weqQc k a0.2.2.1 b1.2.2.1).bind fun v_2 =>
  cond (!v_2) (some false) <|
  (weqHead k a0.2.2.2.1 b1.2.2.2.1).bind fun v_3 =>
  cond (!v_3) (some false) <|
  (weqBlock k a0.2.2.2.2.1 b1.2.2.2.2.1).bind fun v_4 =>
  cond (!v_4) (some false) <|
  (weqTc k a0.2.2.2.2.2.1 b1.2.2.2.2.2.1).bind fun v_5 =>
  cond (!v_5) (some false) <|
  (weqProof k a0.2.2.2.2.2.2.1 b1.2.2.2.2.2.2.1).bind fun v_6 =>
  cond (!v_6) (some false) <|
  (weqIncl k a0.2.2.2.2.2.2.2.1 b1.2.2.2.2.2.2.2.1).bind fun v_7 =>
  cond (!v_7) (some false) <|
  some true
def weqMsgS_l0 : Nat → (List DMsg) → (List DMsg) → Int → Option ((Unit) ⊕ (Bool))
  | 0, _, _, _ => none
  | k + 1, a0, b1, i5 =>
    cond (decide (i5 < (len a0))) (
      (rd a0 i5).bind fun v_1 =>
      (rd b1 i5).bind fun v_2 =>
      (weqMsg k v_1 v_2).bind fun v_3 =>
      cond (!v_3) (some (Sum.inr false)) <|
      weqMsgS_l0 k a0 b1 (ad .i64 i5 1)) <|
    some (Sum.inl ())
def weqMsgS (k : Nat) (a0 : List DMsg) (b1 : List DMsg) : Option (Bool) :=
  cond ((len a0) != (len b1)) (some false) <|
  (weqMsgS_l0 k a0 b1 0).bind fun v_4 =>
  sumE v_4 (fun v_5 =>
    some true) fun v_6 =>
  some v_6
def wtoMsg (k : Nat) (a0 : DMsg) : Option (DMsg) :=
  (wtoVote k a0.2.1).bind fun v_1 =>
  (wtoQc k a0.2.2.1).bind fun v_2 =>
  (wtoHead k a0.2.2.2.1).bind fun v_3 =>
  (wtoBlock k a0.2.2.2.2.1).bind fun v_4 =>
  (wtoTc k a0.2.2.2.2.2.1).bind fun v_5 =>
  (wtoProof k a0.2.2.2.2.2.2.1).bind fun v_6 =>
  (wtoIncl k a0.2.2.2.2.2.2.2.1).bind fun v_7 =>
  some (a0.1, v_1, v_2, v_3, v_4, v_5, v_6, v_7, ())
def wtoMsgS_l0 : Nat → (List DMsg) → (List DMsg) → Int → Option (List DMsg)
  | 0, _, _, _ => none
  | k + 1, a0, out3, i4 =>
    cond (decide (i4 < (len a0))) (
      (rd a0 i4).bind fun v_2 =>
      (wtoMsg k v_2).bind fun v_3 =>
      (rd out3 i4).bind fun _v_4 =>
      (st out3 i4 v_3).bind fun v_5 =>
      wtoMsgS_l0 k a0 v_5 (ad .i64 i4 1)) <|
    some out3
def wtoMsgS (k : Nat) (a0 : List DMsg) : Option (List DMsg) :=
  (mk (len a0) (0, (0, 0, [], 0, [], ()), (0, 0, [], [], [], ()), (0, 0, 0, [], [], (0, 0, [], [], [], ()), ()), ((0, 0, 0, [], [], (0, 0, [], [], [], ()), ()), [], ()), (0, [], ()), ([], (0, 0, [], [], [], ()), ()), (0, 0, 0, [], [], ()), ())).bind fun v_1 =>
  (wtoMsgS_l0 k a0 v_1 0).bind fun v_6 =>
  some v_6
def sFrames_l0 : Nat → DLimits → (List Int) → (List DMsg) → Int → Int → Option ((List Int) ⊕ (List Int × Bool))
  | 0, _, _, _, _, _ => none
  | k + 1, l2, out6, s14, s15, s16 =>
    cond (decide (s16 < s15)) (
      (rd s14 s16).bind fun v_1 =>
      (sEncode k l2 v_1).bind fun v_2 =>
      (sFrame k l2 v_2.1).bind fun v_3 =>
      cond (!v_3.2) (some (Sum.inr ([], false))) <|
      (app out6 v_3.1).bind fun v_4 =>
      sFrames_l0 k l2 v_4 s14 s15 (ad .i64 s16 1)) <|
    some (Sum.inl out6)
def sFrames (k : Nat) (l0 : DLimits) (m1 : List DMsg) : Option (List Int × Bool) :=
  (sFrames_l0 k l0 [] m1 (len m1) 0).bind fun v_5 =>
  sumE v_5 (fun v_6 =>
    some (v_6, true)) fun v_7 =>
  some v_7
def wszMsg (k : Nat) (a0 : DMsg) (left1 : Int) : Option (Int) :=
  (wszVote a0.2.1 left1).bind fun v_1 =>
  cond (decide (v_1 < 0)) (some (-1)) <|
  (wszQc k a0.2.2.1 v_1).bind fun v_2 =>
  cond (decide (v_2 < 0)) (some (-1)) <|
  (wszHead k a0.2.2.2.1 v_2).bind fun v_3 =>
  cond (decide (v_3 < 0)) (some (-1)) <|
  (wszBlock k a0.2.2.2.2.1 v_3).bind fun v_4 =>
  cond (decide (v_4 < 0)) (some (-1)) <|
  (wszTc k a0.2.2.2.2.2.1 v_4).bind fun v_5 =>
  cond (decide (v_5 < 0)) (some (-1)) <|
  (wszProof k a0.2.2.2.2.2.2.1 v_5).bind fun v_6 =>
  cond (decide (v_6 < 0)) (some (-1)) <|
  (wszIncl k a0.2.2.2.2.2.2.2.1 v_6).bind fun v_7 =>
  cond (decide (v_7 < 0)) (some (-1)) <|
  some v_7
def wszMsgS_l0 : Nat → (List DMsg) → Int → Int → Option ((Int) ⊕ (Int))
  | 0, _, _, _ => none
  | k + 1, a0, left1, i5 =>
    cond (decide (i5 < (len a0))) (
      (rd a0 i5).bind fun v_1 =>
      (wszMsg k v_1 left1).bind fun v_2 =>
      cond (decide (v_2 < 0)) (some (Sum.inr (-1))) <|
      wszMsgS_l0 k a0 v_2 (ad .i64 i5 1)) <|
    some (Sum.inl left1)
def wszMsgS (k : Nat) (a0 : List DMsg) (left1 : Int) : Option (Int) :=
  cond (decide ((su .i64 left1 (len a0)) < 0)) (some (-1)) <|
  (wszMsgS_l0 k a0 (su .i64 left1 (len a0)) 0).bind fun v_3 =>
  sumE v_3 (fun v_4 =>
    some v_4) fun v_5 =>
  some v_5
def iSkipped_l0 : Nat → Int → (List DEvent) → Int → Int → Option (Int)
  | 0, _, _, _, _ => none
  | k + 1, n3, s6, s7, s8 =>
    cond (decide (s8 < s7)) (
      (rd s6 s8).bind fun v_1 =>
      cond (v_1.1 == 1) (
        (iisNum v_1.2.1).bind fun v_2 =>
        cond v_2 (iSkipped_l0 k (ad .i64 n3 v_1.2.1) s6 s7 (ad .i64 s8 1)) <|
        iSkipped_l0 k n3 s6 s7 (ad .i64 s8 1)) <|
      iSkipped_l0 k n3 s6 s7 (ad .i64 s8 1)) <|
    some n3
def iSkipped (k : Nat) (l0 : List DEvent) : Option (Int) :=
  (iSkipped_l0 k 0 l0 (len l0) 0).bind fun v_3 =>
  some v_3
def iMsgs_l0 : Nat → (List DMsg) → (List DEvent) → Int → Int → Option (List DMsg)
  | 0, _, _, _, _ => none
  | k + 1, out3, s7, s8, s9 =>
    cond (decide (s9 < s8)) (
      (rd s7 s9).bind fun v_1 =>
      cond (v_1.1 == 3) (
        (iMsg_copied k v_1.2.2.1).bind fun v_2 =>
        (app out3 [v_2]).bind fun v_3 =>
        iMsgs_l0 k v_3 s7 s8 (ad .i64 s9 1)) <|
      iMsgs_l0 k out3 s7 s8 (ad .i64 s9 1)) <|
    some out3
def iMsgs (k : Nat) (l0 : List DEvent) : Option (List DMsg) :=
  (iMsgs_l0 k [] l0 (len l0) 0).bind fun v_4 =>
  some v_4
def wheldByteS_l0 : Nat → (List Int) → Int → Int → Option ((Int) ⊕ (Int))
  | 0, _, _, _ => none
  | k + 1, a0, k1, i5 =>
    cond (decide (i5 < (len a0))) (
      (rd a0 i5).bind fun v_1 =>
      cond (v_1 != (cv .u8 k1)) (some (Sum.inr (-1))) <|
      wheldByteS_l0 k a0 (ad .i64 k1 1) (ad .i64 i5 1)) <|
    some (Sum.inl k1)
def wheldByteS (k : Nat) (a0 : List Int) (k1 : Int) : Option (Int) :=
  (wheldByteS_l0 k a0 k1 0).bind fun v_2 =>
  sumE v_2 (fun v_3 =>
    some v_3) fun v_4 =>
  some v_4
def iMsgOk (k : Nat) (l0 : DLimits) (m1 : DMsg) : Option (Bool) :=
  (iMsg_put k m1 l0 []).bind fun v_1 =>
  cond v_1.2 (
    (iMsg_alone k m1).bind fun v_2 =>
    (iMsgSame k m1 v_2).bind fun v_3 =>
    some v_3) <|
  some false
def iEncode (k : Nat) (l0 : DLimits) (m1 : DMsg) : Option (List Int × Bool) :=
  (iMsgOk k l0 m1).bind fun v_1 =>
  cond (!v_1) (some ([], false)) <|
  (iMsg_put k m1 l0 [cv .u8 m1.1]).bind fun v_2 =>
  some v_2
def iFrames_l0 : Nat → DLimits → (List Int) → (List DMsg) → Int → Int → Option ((List Int) ⊕ (List Int × Bool))
  | 0, _, _, _, _, _ => none
  | k + 1, l2, out6, s14, s15, s16 =>
    cond (decide (s16 < s15)) (
      (rd s14 s16).bind fun v_1 =>
      (iEncode k l2 v_1).bind fun v_2 =>
      (iFrame k l2 v_2.1).bind fun v_3 =>
      cond (!v_2.2) (some (Sum.inr ([], false))) <|
      cond (!v_3.2) (some (Sum.inr ([], false))) <|
      (app out6 v_3.1).bind fun v_4 =>
      iFrames_l0 k l2 v_4 s14 s15 (ad .i64 s16 1)) <|
    some (Sum.inl out6)
def iFrames (k : Nat) (l0 : DLimits) (m1 : List DMsg) : Option (List Int × Bool) :=
  (iFrames_l0 k l0 [] m1 (len m1) 0).bind fun v_5 =>
  sumE v_5 (fun v_6 =>
    some (v_6, true)) fun v_7 =>
  some v_7
def sMakeMsgs_l0 : Nat → DLimits → Dl01Cur → (List DMsg) → Int → Option (List DMsg)
  | 0, _, _, _, _ => none
  | k + 1, l3, c5, m6, n7 =>
    cond (decide (n7 > 0)) (
      (sl31Right k c5 l3).bind fun v_3 =>
      (app m6 [v_3.1]).bind fun v_4 =>
      sMakeMsgs_l0 k l3 v_3.2 v_4 (su .i64 n7 1)) <|
    some m6
def sMakeMsgs (k : Nat) (code0 : List Int) (l1 : DLimits) : Option (List DMsg) :=
  (sl01New k code0).bind fun v_1 =>
  (sl01Below v_1 4).bind fun v_2 =>
  (sMakeMsgs_l0 k l1 v_2.2 [] v_2.1).bind fun v_5 =>
  some v_5
def sMakeBytes (k : Nat) (code0 : List Int) (most1 : Int) : Option (List Int) :=
  (sl01New k code0).bind fun v_1 =>
  (sl01Bytes k (v_1.1, v_1.2.1, ad .i64 v_1.2.2.1 most1, v_1.2.2.2) most1).bind fun v_2 =>
  some v_2.1
def sMsgSize (k : Nat) (l0 : DLimits) (m1 : DMsg) : Option (Int) :=
  (sEncode k l0 m1).bind fun v_1 =>
  some (len v_1.1)
def wtoLimits (a0 : DLimits) : Option (DLimits) :=
  some a0
def iErName (code0 : Int) : Option (List Int) :=
  (inameAt code0 [[111, 107], [115, 104, 111, 114, 116], [118, 97, 114], [108, 111, 110, 103], [112, 97, 100], [118, 97, 108, 117, 101], [111, 114, 100, 101, 114], [114, 111, 111, 116], [107, 105, 110, 100], [108, 101, 102, 116]]).bind fun v_1 =>
  some v_1
def sMakeData (k : Nat) (code0 : List Int) (l1 : DLimits) : Option (List Int) :=
  (sl01New k code0).bind fun v_1 =>
  (sl17Draw k v_1 l1).bind fun v_2 =>
  (sEncode k l1 v_2.1).bind fun v_3 =>
  cond (decide ((len v_3.1) > 8)) (
    (sl01Once v_2.2 2).bind fun v_4 =>
    cond v_4.1 (
      (sl01Below v_4.2 8).bind fun v_5 =>
      (sl01Below v_5.2 14).bind fun v_6 =>
      (rd v_3.1 v_5.1).bind fun _v_7 =>
      (st v_3.1 v_5.1 (cv .u8 v_6.1)).bind fun v_8 =>
      (sl01Bend k v_6.2 v_8).bind fun v_9 =>
      some v_9.1) <|
    (sl01Bend k v_4.2 v_3.1).bind fun v_10 =>
    some v_10.1) <|
  (sl01Bend k v_2.2 v_3.1).bind fun v_11 =>
  some v_11.1
def iClose (k : Nat) (l0 : DLimits) (p1 : DPush) : Option (List DEvent) :=
  (iPushOk k l0 p1).bind fun v_1 =>
  cond (!v_1) (some []) <|
  (iscan k l0 p1.2.1 true p1.1).bind fun v_2 =>
  some v_2.1
def iParse (k : Nat) (l0 : DLimits) (s1 : List Int) (closed2 : Bool) : Option (List DEvent) :=
  (iLimitsOk l0).bind fun v_1 =>
  cond (!v_1) (some []) <|
  (iscan k l0 s1 closed2 0).bind fun v_2 =>
  some v_2.1
def iEventsSame_l0 : Nat → (List DEvent) → (List DEvent) → Int → Int → Option ((Unit) ⊕ (Bool))
  | 0, _, _, _, _ => none
  | k + 1, a0, b1, s12, s13 =>
    cond (decide (s13 < s12)) (
      (rd a0 s13).bind fun v_1 =>
      (rd b1 s13).bind fun v_2 =>
      (iEventSame k v_1 v_2).bind fun v_3 =>
      cond (!v_3) (some (Sum.inr false)) <|
      iEventsSame_l0 k a0 b1 s12 (ad .i64 s13 1)) <|
    some (Sum.inl ())
def iEventsSame (k : Nat) (a0 : List DEvent) (b1 : List DEvent) : Option (Bool) :=
  cond ((len a0) != (len b1)) (some false) <|
  (iEventsSame_l0 k a0 b1 (len a0) 0).bind fun v_4 =>
  sumE v_4 (fun v_5 =>
    some true) fun v_6 =>
  some v_6
def sMakePieces (k : Nat) (code0 : List Int) (s1 : List Int) : Option (List (List Int)) :=
  (sl01New k code0).bind fun v_1 =>
  (sl20Pieces k (v_1.1, v_1.2.1, ad .i64 v_1.2.2.1 17, v_1.2.2.2) s1).bind fun v_2 =>
  some v_2.1
def iFeedAll_l0 : Nat → DLimits → DPush → DPush → (List DEvent) → (List (List Int)) → Int → Int → Option (DPush × DPush × List DEvent)
  | 0, _, _, _, _, _, _, _ => none
  | k + 1, l3, s6, out8, events9, s17, s18, s19 =>
    cond (decide (s19 < s18)) (
      (rd s17 s19).bind fun v_2 =>
      (iFeed k l3 out8 v_2).bind fun v_3 =>
      (app events9 v_3.2).bind fun v_4 =>
      iFeedAll_l0 k l3 s6 v_3.1 v_4 s17 s18 (ad .i64 s19 1)) <|
    some (s6, out8, events9)
def iFeedAll (k : Nat) (l0 : DLimits) (p1 : DPush) (pieces2 : List (List Int)) : Option (DPush × List DEvent) :=
  (iPush_copied p1).bind fun v_1 =>
  (iFeedAll_l0 k l0 (0, [], ()) v_1 [] pieces2 (len pieces2) 0).bind fun v_5 =>
  some v_5.2
def sMakeStream (k : Nat) (code0 : List Int) (l1 : DLimits) : Option (List Int) :=
  (sl01New k code0).bind fun v_1 =>
  (sl18Stream k (v_1.1, v_1.2.1, ad .i64 v_1.2.2.1 31, v_1.2.2.2) l1).bind fun v_2 =>
  (sl18Stream k v_2.2 l1).bind fun v_3 =>
  (app v_2.1 v_3.1).bind fun v_4 =>
  some v_4
def iMsgSize (k : Nat) (l0 : DLimits) (m1 : DMsg) : Option (Int) :=
  (iEncode k l0 m1).bind fun v_1 =>
  some (len v_1.1)
def sMakeNum (k : Nat) (code0 : List Int) (n1 : Int) : Option (Int) :=
  (sl01New k code0).bind fun v_1 =>
  (sl01Below (v_1.1, v_1.2.1, ad .i64 v_1.2.2.1 777, v_1.2.2.2) n1).bind fun v_2 =>
  some v_2.1
def sMakeMsg (k : Nat) (code0 : List Int) (l1 : DLimits) : Option (DMsg) :=
  (sl01New k code0).bind fun v_1 =>
  (sl31Right k v_1 l1).bind fun v_2 =>
  some v_2.1
def sMakeLimits (k : Nat) (code0 : List Int) : Option (DLimits) :=
  (sl01New k code0).bind fun v_1 =>
  (sl10Draw (v_1.1, v_1.2.1, ad .i64 v_1.2.2.1 5, v_1.2.2.2)).bind fun v_2 =>
  some (v_2.1.1, v_2.1.2.1, v_2.1.2.2.1, 4000, v_2.1.2.2.2.2)
def iLightSame (k : Nat) (a0 : DLight) (b1 : DLight) : Option (Bool) :=
  cond (eqd tLimits a0.1 b1.1) (
    (iTableSame k a0.2.1 b1.2.1).bind fun v_1 =>
    cond v_1 (
      cond (a0.2.2.1.1 == b1.2.2.1.1) (
        (iSameBytes a0.2.2.1.2.1 b1.2.2.1.2.1).bind fun v_2 =>
        cond v_2 (
          (iheadsSame k a0.2.2.2.1 b1.2.2.2.1).bind fun v_3 =>
          some v_3) <|
        some false) <|
      some false) <|
    some false) <|
  some false
def iNextHead (k : Nat) (l0 : DLimits) (t1 : DTable) (a2 : DHead) (view3 : Int) (proposer4 : Int) (root5 : List Int) (bits6 : List Int) : Option (DHead × Bool) :=
  (iHeadHash k l0 a2).bind fun v_1 =>
  (iBuildQc k l0 t1 a2.1 a2.2.1 v_1 bits6).bind fun v_2 =>
  (icopyBytes root5).bind fun v_3 =>
  cond (!v_2.2) (some ((0, 0, 0, [], [], (0, 0, [], [], [], ()), ()), false)) <|
  (iLinks k l0 a2 (view3, ad .i64 a2.2.1 1, proposer4, v_1, v_3, v_2.1, ())).bind fun v_4 =>
  cond (!v_4) (some ((0, 0, 0, [], [], (0, 0, [], [], [], ()), ()), false)) <|
  (iHead_copied k (view3, ad .i64 a2.2.1 1, proposer4, v_1, v_3, v_2.1, ())).bind fun v_5 =>
  some (v_5, true)
def sMakeHash (k : Nat) (code0 : List Int) (turn1 : Int) : Option (List Int) :=
  (sl01New k code0).bind fun v_1 =>
  (sl11Hash (v_1.1, v_1.2.1, ad .i64 v_1.2.2.1 turn1, v_1.2.2.2)).bind fun v_2 =>
  (rd v_2.1 7).bind fun _v_3 =>
  (st v_2.1 7 (cv .u8 turn1)).bind fun v_4 =>
  some v_4
def iFirstHead (k : Nat) (l0 : DLimits) (t1 : DTable) (view2 : Int) (root3 : List Int) : Option (DHead × Bool) :=
  (mk 32 0).bind fun v_1 =>
  (icopyBytes root3).bind fun v_2 =>
  (icopyBytes v_1).bind fun v_3 =>
  (iBitsNew l0.1).bind fun v_4 =>
  (ibelongs k l0 t1).bind fun v_5 =>
  cond (!v_5) (some ((0, 0, 0, [], [], (0, 0, [], [], [], ()), ()), false)) <|
  (iHeadOk k l0 (view2, 1, 0, v_1, v_2, (0, 0, v_3, v_4, [], ()), ())).bind fun v_6 =>
  cond (!v_6) (some ((0, 0, 0, [], [], (0, 0, [], [], [], ()), ()), false)) <|
  some ((view2, 1, 0, v_1, v_2, (0, 0, v_3, v_4, [], ()), ()), true)
def iJudge (k : Nat) (x0 : DLight) (m1 : DMsg) : Option (DLight × Int) :=
  (iLight_copied k x0).bind fun v_1 =>
  (iLightOk k x0).bind fun v_2 =>
  cond (!v_2) (some (v_1, 0)) <|
  (iMsgOk k x0.1 m1).bind fun v_3 =>
  cond (!v_3) (some (v_1, 0)) <|
  cond (m1.1 == 2) (
    (iQcCode k x0.1 x0.2.1 m1.2.2.1).bind fun v_4 =>
    (igoodOr v_4).bind fun v_5 =>
    some (v_1, v_5)) <|
  cond (m1.1 == 5) (
    (iTcCode k x0.1 x0.2.1 m1.2.2.2.2.2.1).bind fun v_6 =>
    (igoodOr v_6).bind fun v_7 =>
    some (v_1, v_7)) <|
  cond (m1.1 == 6) (
    (iLight_commit k x0 m1.2.2.2.2.2.2.1).bind fun v_8 =>
    some v_8) <|
  cond (m1.1 == 7) (
    (iKnown k x0 m1.2.2.2.2.2.2.2.1.1).bind fun v_9 =>
    cond (!v_9.2) (some (v_1, 8)) <|
    (iPathOk k m1.2.2.2.2.2.2.2.1.2.2.2.1 m1.2.2.2.2.2.2.2.1.2.2.1 m1.2.2.2.2.2.2.2.1.2.1 m1.2.2.2.2.2.2.2.1.2.2.2.2.1 v_9.1.2.2.2.2.1).bind fun v_10 =>
    cond v_10 (some (v_1, 6)) <|
    some (v_1, 7)) <|
  some (v_1, 0)
def iBuildProof (k : Nat) (l0 : DLimits) (t1 : DTable) (heads2 : List DHead) (bits3 : List Int) : Option (DProof × Bool) :=
  cond ((len heads2) == 0) (some (([], (0, 0, [], [], [], ()), ()), false)) <|
  (rd heads2 (su .i64 (len heads2) 1)).bind fun v_1 =>
  (iHeadHash k l0 v_1).bind fun v_2 =>
  (iBuildQc k l0 t1 v_1.1 v_1.2.1 v_2 bits3).bind fun v_3 =>
  (icopyHeads k heads2).bind fun v_4 =>
  cond (!v_3.2) (some (([], (0, 0, [], [], [], ()), ()), false)) <|
  (iProofOk k l0 (v_4, v_3.1, ())).bind fun v_5 =>
  cond (!v_5) (some (([], (0, 0, [], [], [], ()), ()), false)) <|
  some ((v_4, v_3.1, ()), true)
def iLightNew (k : Nat) (l0 : DLimits) (t1 : DTable) : Option (DLight × Bool) :=
  (ibelongs k l0 t1).bind fun v_1 =>
  cond (!v_1) (some (((0, 0, 0, 0, 0, ()), ([], ()), (0, [], ()), [], ()), false)) <|
  (iTable_copied k t1).bind fun v_2 =>
  some ((l0, v_2, (0, [], ()), [], ()), true)
def sMakeFull (k : Nat) (n0 : Int) : Option (List Int) :=
  (sl30Full k n0).bind fun v_1 =>
  some v_1
def sMakeChain_l0 : Nat → Int → DLimits → DTable → Dl01Cur → DLimits → DTable → (List DHead) → Option (DLimits × DTable × DLimits × DTable × List DHead)
  | 0, _, _, _, _, _, _, _ => none
  | k + 1, n1, s4, s5, c7, l8, t9, out12 =>
    cond (decide ((len out12) < n1)) (
      (rd out12 (su .i64 (len out12) 1)).bind fun _v_6 =>
      (rd out12 (su .i64 (len out12) 1)).bind fun v_7 =>
      (sl01Below c7 l8.1).bind fun v_8 =>
      (sl11Hash v_8.2).bind fun v_9 =>
      (sl30Full k l8.1).bind fun v_10 =>
      (sNextHead k l8 t9 v_7 (ad .i64 v_7.1 1) v_8.1 v_9.1 v_10).bind fun v_11 =>
      (app out12 [v_11.1]).bind fun v_12 =>
      sMakeChain_l0 k n1 s4 s5 v_9.2 l8 t9 v_12) <|
    some (s4, s5, l8, t9, out12)
def sMakeChain (k : Nat) (code0 : List Int) (n1 : Int) : Option (DLimits × DTable × List DHead) :=
  (sl01New k code0).bind fun v_1 =>
  (sl23Pair k v_1).bind fun v_2 =>
  (sl01Below v_2.2.2 3).bind fun v_3 =>
  (sl11Hash v_3.2).bind fun v_4 =>
  (sFirstHead k v_2.1 v_2.2.1 (ad .i64 1 v_3.1) v_4.1).bind fun v_5 =>
  (sMakeChain_l0 k n1 (0, 0, 0, 0, 0, ()) ([], ()) v_4.2 v_2.1 v_2.2.1 [v_5.1]).bind fun v_13 =>
  some v_13.2.2
def wFnSkip_l0 : Nat → DLimits → (List Int) → Int → Int → (List DEvent) → Int → Int → Option ((List Int × Int) ⊕ (Bool))
  | 0, _, _, _, _, _, _, _ => none
  | k + 1, l3, s4, n6, last7, s23, s24, s25 =>
    cond (decide (s25 < s24)) (
      (rd s23 s25).bind fun _v_5 =>
      (rd s23 s25).bind fun v_6 =>
      cond (v_6.1 == 2) (some (Sum.inr true)) <|
      cond (v_6.1 == 1) (
        cond (last7 == 1) (some (Sum.inr false)) <|
        cond (v_6.1 == 3) (
          (iMsgSize k l3 v_6.2.2.1).bind fun v_7 =>
          wFnSkip_l0 k l3 s4 (ad .i64 (ad .i64 n6 v_7) 8) v_6.1 s23 s24 (ad .i64 s25 1)) <|
        wFnSkip_l0 k l3 s4 n6 v_6.1 s23 s24 (ad .i64 s25 1)) <|
      cond (v_6.1 == 3) (
        (iMsgSize k l3 v_6.2.2.1).bind fun v_8 =>
        wFnSkip_l0 k l3 s4 (ad .i64 (ad .i64 n6 v_8) 8) v_6.1 s23 s24 (ad .i64 s25 1)) <|
      wFnSkip_l0 k l3 s4 n6 v_6.1 s23 s24 (ad .i64 s25 1)) <|
    some (Sum.inl (s4, n6))
def wFnSkip (k : Nat) (code0 : List Int) : Option (Bool) :=
  cond (decide ((len code0) > 1048576)) (some true) <|
  (sMakeLimits k code0).bind fun v_1 =>
  (sMakeStream k code0 v_1).bind fun v_2 =>
  (iParse k v_1 v_2 true).bind fun v_3 =>
  (iSkipped k v_3).bind fun v_4 =>
  (wFnSkip_l0 k v_1 v_2 v_4 0 v_3 (len v_3) 0).bind fun v_9 =>
  sumE v_9 (fun v_10 =>
    some (v_10.2 == (len v_10.1))) fun v_11 =>
  some v_11
def wFnFrames_l0 : Nat → DLimits → (List DMsg) → (List Int) → (List DEvent) → (List DMsg) → Int → Int → Option ((DLimits × List Int × List DEvent) ⊕ (Bool))
  | 0, _, _, _, _, _, _, _ => none
  | k + 1, l3, m4, s5, e7, got8, s46, s47 =>
    cond (decide (s47 < s46)) (
      (rd got8 s47).bind fun _v_6 =>
      (rd got8 s47).bind fun v_7 =>
      (rd m4 s47).bind fun _v_8 =>
      (rd m4 s47).bind fun v_9 =>
      (iMsgSame k v_7 v_9).bind fun v_10 =>
      cond (!v_10) (some (Sum.inr false)) <|
      wFnFrames_l0 k l3 m4 s5 e7 got8 s46 (ad .i64 s47 1)) <|
    some (Sum.inl (l3, s5, e7))
def wFnFrames (k : Nat) (code0 : List Int) : Option (Bool) :=
  cond (decide ((len code0) > 1048576)) (some true) <|
  (sMakeLimits k code0).bind fun v_1 =>
  (sMakeMsgs k code0 v_1).bind fun v_2 =>
  (iFrames k v_1 v_2).bind fun v_3 =>
  (iParse k v_1 v_3.1 false).bind fun v_4 =>
  (iMsgs k v_4).bind fun v_5 =>
  cond (!v_3.2) (some false) <|
  cond ((len v_4) != (len v_2)) (some false) <|
  cond ((len v_5) != (len v_2)) (some false) <|
  (wFnFrames_l0 k v_1 v_2 v_3.1 v_4 v_5 (len v_2) 0).bind fun v_11 =>
  sumE v_11 (fun v_12 =>
    (iParse k v_12.1 v_12.2.1 true).bind fun v_14 =>
    (iEventsSame k v_12.2.2 v_14).bind fun v_15 =>
    some v_15) fun v_13 =>
  some v_13
def wFnGarbage_l0 : Nat → (List Int) → DLimits → (List Int) → Int → Int → Option (List Int × DLimits × List Int)
  | 0, _, _, _, _, _ => none
  | k + 1, code0, l3, g4, s18, s19 =>
    cond (decide (s19 < s18)) (
      (rd g4 s19).bind fun _v_3 =>
      (rd g4 s19).bind fun v_4 =>
      cond (v_4 == 181) (
        (rd g4 s19).bind fun _v_5 =>
        (st g4 s19 0).bind fun v_6 =>
        wFnGarbage_l0 k code0 l3 v_6 s18 (ad .i64 s19 1)) <|
      wFnGarbage_l0 k code0 l3 g4 s18 (ad .i64 s19 1)) <|
    some (code0, l3, g4)
def wFnGarbage (k : Nat) (code0 : List Int) : Option (Bool) :=
  cond (decide ((len code0) > 1048576)) (some true) <|
  (sMakeLimits k code0).bind fun v_1 =>
  (sMakeBytes k code0 9).bind fun v_2 =>
  (wFnGarbage_l0 k code0 v_1 v_2 (len v_2) 0).bind fun v_7 =>
  (sMakeMsgs k v_7.1 v_7.2.1).bind fun v_8 =>
  (iFrames k v_7.2.1 v_8).bind fun v_9 =>
  (app [] v_7.2.2).bind fun v_10 =>
  (app v_10 v_9.1).bind fun v_11 =>
  (iParse k v_7.2.1 v_11 false).bind fun v_12 =>
  cond ((len v_8) == 0) (some ((len v_12) == 0)) <|
  cond (decide ((len v_7.2.2) > 0)) (
    cond ((len v_12) == 0) (some false) <|
    (rd v_12 0).bind fun _v_13 =>
    (rd v_12 0).bind fun v_14 =>
    cond (v_14.1 != 1) (some false) <|
    (rd v_12 0).bind fun _v_15 =>
    (rd v_12 0).bind fun v_16 =>
    cond (v_16.2.1 != (len v_7.2.2)) (some false) <|
    (sub v_12 1 (len v_12)).bind fun _v_17 =>
    (iParse k v_7.2.1 v_9.1 false).bind fun v_18 =>
    (iEventsSame k (cut v_12 1 (len v_12)) v_18).bind fun v_19 =>
    some v_19) <|
  (iParse k v_7.2.1 v_9.1 false).bind fun v_20 =>
  (iEventsSame k v_12 v_20).bind fun v_21 =>
  some v_21
def wFnExactMsgSize (k : Nat) (aL0 : DLimits) (aM1 : DMsg) : Option (Bool) :=
  (wszMsg k aM1 1048576).bind fun v_1 =>
  cond (decide (v_1 < 0)) (some true) <|
  (wtoLimits aL0).bind fun v_2 =>
  (wtoMsg k aM1).bind fun v_3 =>
  (sMsgSize k v_2 v_3).bind fun v_4 =>
  (wtoMsg k aM1).bind fun v_5 =>
  (wtoLimits aL0).bind fun v_6 =>
  (iMsgSize k v_6 v_5).bind fun v_7 =>
  cond (v_7 != v_4) (some false) <|
  (wtoMsg k aM1).bind fun v_8 =>
  (weqMsg k v_5 v_8).bind fun v_9 =>
  cond (!v_9) (some false) <|
  some true
def wFnExactMsgOk (k : Nat) (aL0 : DLimits) (aM1 : DMsg) : Option (Bool) :=
  (wszMsg k aM1 1048576).bind fun v_1 =>
  cond (decide (v_1 < 0)) (some true) <|
  (wtoLimits aL0).bind fun v_2 =>
  (wtoMsg k aM1).bind fun v_3 =>
  (sMsgOk k v_2 v_3).bind fun v_4 =>
  (wtoMsg k aM1).bind fun v_5 =>
  (wtoLimits aL0).bind fun v_6 =>
  (iMsgOk k v_6 v_5).bind fun v_7 =>
  cond (!(eqd .bool v_7 v_4)) (some false) <|
  (wtoMsg k aM1).bind fun v_8 =>
  (weqMsg k v_5 v_8).bind fun v_9 =>
  cond (!v_9) (some false) <|
  some true
def wFnStrict (k : Nat) (code0 : List Int) : Option (Bool) :=
  cond (decide ((len code0) > 1048576)) (some true) <|
  (sMakeLimits k code0).bind fun v_1 =>
  (sMakeData k code0 v_1).bind fun v_2 =>
  (iDecode k v_1 v_2).bind fun v_3 =>
  cond (v_3.2 != 0) (
    cond (decide (v_3.2 > 0)) (
      cond (decide (v_3.2 ≤ 9)) (
        (iErName v_3.2).bind fun v_4 =>
        cond (!((v_4 : List Int) == [])) (some (v_3.1.1 == 0)) <|
        some false) <|
      some false) <|
    some false) <|
  (iEncode k v_1 v_3.1).bind fun v_5 =>
  cond v_5.2 (
    (iMsgOk k v_1 v_3.1).bind fun v_6 =>
    cond v_6 (
      (iSameBytes v_5.1 v_2).bind fun v_7 =>
      some v_7) <|
    some false) <|
  some false
def wFnDecode (k : Nat) (code0 : List Int) : Option (Bool) :=
  cond (decide ((len code0) > 1048576)) (some true) <|
  (sMakeLimits k code0).bind fun v_1 =>
  (sMakeMsg k code0 v_1).bind fun v_2 =>
  (iEncode k v_1 v_2).bind fun v_3 =>
  (iDecode k v_1 v_3.1).bind fun v_4 =>
  cond ((len v_3.1) == 0) (some false) <|
  cond (!v_3.2) (some false) <|
  cond (v_4.2 != 0) (some false) <|
  (iMsgSame k v_4.1 v_2).bind fun v_5 =>
  cond (!v_5) (some false) <|
  (iMsgSize k v_1 v_2).bind fun v_6 =>
  cond (v_6 != (len v_3.1)) (some false) <|
  (rd v_3.1 0).bind fun _v_7 =>
  (rd v_3.1 0).bind fun v_8 =>
  cond ((cv .i64 v_8) != v_2.1) (some false) <|
  (sMakeNum k code0 (len v_3.1)).bind fun v_9 =>
  (sub v_3.1 0 v_9).bind fun _v_10 =>
  (iDecode k v_1 (cut v_3.1 0 v_9)).bind fun v_11 =>
  (app [] v_3.1).bind fun v_12 =>
  (app v_12 [0]).bind fun v_13 =>
  (iDecode k v_1 v_13).bind fun v_14 =>
  cond (v_11.2 == 1) (
    cond (v_14.2 == 9) (
      (iKindName v_2.1).bind fun v_15 =>
      some (!((v_15 : List Int) == []))) <|
    some false) <|
  some false
def wFnChunk (k : Nat) (code0 : List Int) : Option (Bool) :=
  cond (decide ((len code0) > 1048576)) (some true) <|
  (sMakeLimits k code0).bind fun v_1 =>
  (sMakeStream k code0 v_1).bind fun v_2 =>
  (sMakePieces k code0 v_2).bind fun v_3 =>
  (iFeedAll k v_1 (0, [], ()) v_3).bind fun v_4 =>
  (iPushOk k v_1 v_4.1).bind fun v_5 =>
  cond v_5 (
    (iParse k v_1 v_2 false).bind fun v_6 =>
    (iEventsSame k v_4.2 v_6).bind fun v_7 =>
    cond v_7 (
      (iClose k v_1 v_4.1).bind fun v_8 =>
      (app v_4.2 v_8).bind fun v_9 =>
      (iParse k v_1 v_2 true).bind fun v_10 =>
      (iEventsSame k v_9 v_10).bind fun v_11 =>
      some v_11) <|
    some false) <|
  some false
def wFnParts (k : Nat) (code0 : List Int) : Option (Bool) :=
  cond (decide ((len code0) > 1048576)) (some true) <|
  (sMakeLimits k code0).bind fun v_1 =>
  (sMakeMsg k code0 v_1).bind fun v_2 =>
  (sMakeNum k code0 3).bind fun v_3 =>
  (mk (ad .i64 1 v_3) 0).bind fun v_4 =>
  cond (v_2.1 == 1) (
    (iPutVote k v_1 v_4 v_2.2.1).bind fun v_5 =>
    (app [] v_5.1).bind fun v_6 =>
    (app v_6 [7]).bind fun v_7 =>
    (iGetVote k v_1 v_7 (ad .i64 1 v_3)).bind fun v_8 =>
    (iVoteSame v_8.1 v_2.2.1).bind fun v_9 =>
    cond v_9 (
      cond (v_8.2.2 == 0) (
        cond (v_8.2.1 == (len v_5.1)) (
          (iMsgSize k v_1 v_2).bind fun v_10 =>
          some ((len v_5.1) == (su .i64 (ad .i64 (ad .i64 1 v_3) v_10) 1))) <|
        some false) <|
      some false) <|
    some false) <|
  cond (v_2.1 == 2) (
    (iPutQc k v_1 v_4 v_2.2.2.1).bind fun v_11 =>
    (app [] v_11.1).bind fun v_12 =>
    (app v_12 [7]).bind fun v_13 =>
    (iGetQc k v_1 v_13 (ad .i64 1 v_3)).bind fun v_14 =>
    (iQcSame k v_14.1 v_2.2.2.1).bind fun v_15 =>
    cond v_15 (
      cond (v_14.2.2 == 0) (
        cond (v_14.2.1 == (len v_11.1)) (
          (iMsgSize k v_1 v_2).bind fun v_16 =>
          some ((len v_11.1) == (su .i64 (ad .i64 (ad .i64 1 v_3) v_16) 1))) <|
        some false) <|
      some false) <|
    some false) <|
  cond (v_2.1 == 3) (
    (iPutHead k v_1 v_4 v_2.2.2.2.1).bind fun v_17 =>
    (app [] v_17.1).bind fun v_18 =>
    (app v_18 [7]).bind fun v_19 =>
    (iGetHead k v_1 v_19 (ad .i64 1 v_3)).bind fun v_20 =>
    (iHeadSame k v_20.1 v_2.2.2.2.1).bind fun v_21 =>
    cond v_21 (
      (iHeadHash k v_1 v_20.1).bind fun v_22 =>
      cond ((len v_22) == 32) (
        cond (v_20.2.2 == 0) (
          cond (v_20.2.1 == (len v_17.1)) (
            (iMsgSize k v_1 v_2).bind fun v_23 =>
            some ((len v_17.1) == (su .i64 (ad .i64 (ad .i64 1 v_3) v_23) 1))) <|
          some false) <|
        some false) <|
      some false) <|
    some false) <|
  cond (v_2.1 == 4) (
    (iPutBlock k v_1 v_4 v_2.2.2.2.2.1).bind fun v_24 =>
    (app [] v_24.1).bind fun v_25 =>
    (app v_25 [7]).bind fun v_26 =>
    (iGetBlock k v_1 v_26 (ad .i64 1 v_3)).bind fun v_27 =>
    (iBlockSame k v_27.1 v_2.2.2.2.2.1).bind fun v_28 =>
    cond v_28 (
      cond (v_27.2.2 == 0) (
        cond (v_27.2.1 == (len v_24.1)) (
          (iMsgSize k v_1 v_2).bind fun v_29 =>
          some ((len v_24.1) == (su .i64 (ad .i64 (ad .i64 1 v_3) v_29) 1))) <|
        some false) <|
      some false) <|
    some false) <|
  cond (v_2.1 == 5) (
    (iPutTc k v_1 v_4 v_2.2.2.2.2.2.1).bind fun v_30 =>
    (app [] v_30.1).bind fun v_31 =>
    (app v_31 [7]).bind fun v_32 =>
    (iGetTc k v_1 v_32 (ad .i64 1 v_3)).bind fun v_33 =>
    (iTcSame k v_33.1 v_2.2.2.2.2.2.1).bind fun v_34 =>
    cond v_34 (
      cond (v_33.2.2 == 0) (
        cond (v_33.2.1 == (len v_30.1)) (
          (iMsgSize k v_1 v_2).bind fun v_35 =>
          some ((len v_30.1) == (su .i64 (ad .i64 (ad .i64 1 v_3) v_35) 1))) <|
        some false) <|
      some false) <|
    some false) <|
  cond (v_2.1 == 6) (
    (iPutProof k v_1 v_4 v_2.2.2.2.2.2.2.1).bind fun v_36 =>
    (app [] v_36.1).bind fun v_37 =>
    (app v_37 [7]).bind fun v_38 =>
    (iGetProof k v_1 v_38 (ad .i64 1 v_3)).bind fun v_39 =>
    (iProofSame k v_39.1 v_2.2.2.2.2.2.2.1).bind fun v_40 =>
    cond v_40 (
      cond (v_39.2.2 == 0) (
        cond (v_39.2.1 == (len v_36.1)) (
          (iMsgSize k v_1 v_2).bind fun v_41 =>
          some ((len v_36.1) == (su .i64 (ad .i64 (ad .i64 1 v_3) v_41) 1))) <|
        some false) <|
      some false) <|
    some false) <|
  (iPutIncl k v_1 v_4 v_2.2.2.2.2.2.2.2.1).bind fun v_42 =>
  (app [] v_42.1).bind fun v_43 =>
  (app v_43 [7]).bind fun v_44 =>
  (iGetIncl k v_1 v_44 (ad .i64 1 v_3)).bind fun v_45 =>
  (iInclSame k v_45.1 v_2.2.2.2.2.2.2.2.1).bind fun v_46 =>
  cond v_46 (
    cond (v_45.2.2 == 0) (
      cond (v_45.2.1 == (len v_42.1)) (
        (iMsgSize k v_1 v_2).bind fun v_47 =>
        some ((len v_42.1) == (su .i64 (ad .i64 (ad .i64 1 v_3) v_47) 1))) <|
      some false) <|
    some false) <|
  some false
def wFnClash (k : Nat) (code0 : List Int) : Option (Bool) :=
  cond (decide ((len code0) > 1048576)) (some true) <|
  (sMakeChain k code0 3).bind fun v_1 =>
  (sMakeFull k v_1.1.1).bind fun v_2 =>
  (iLightNew k v_1.1 v_1.2.1).bind fun v_3 =>
  (iBuildProof k v_1.1 v_1.2.1 v_1.2.2 v_2).bind fun v_4 =>
  (iOfProof k v_4.1).bind fun v_5 =>
  (iJudge k v_3.1 v_5).bind fun v_6 =>
  (rd v_1.2.2 0).bind fun _v_7 =>
  (rd v_1.2.2 0).bind fun v_8 =>
  (sMakeHash k code0 99).bind fun v_9 =>
  (iFirstHead k v_1.1 v_1.2.1 v_8.1 v_9).bind fun v_10 =>
  (iNextHead k v_1.1 v_1.2.1 v_10.1 (ad .i64 v_10.1.1 1) 0 v_10.1.2.2.2.2.1 v_2).bind fun v_11 =>
  (iNextHead k v_1.1 v_1.2.1 v_11.1 (ad .i64 v_11.1.1 1) 0 v_10.1.2.2.2.2.1 v_2).bind fun v_12 =>
  (iBuildProof k v_1.1 v_1.2.1 [v_10.1, v_11.1, v_12.1] v_2).bind fun v_13 =>
  (iOfProof k v_13.1).bind fun v_14 =>
  (iJudge k v_6.1 v_14).bind fun v_15 =>
  (rd v_1.2.2 0).bind fun _v_16 =>
  (rd v_1.2.2 0).bind fun v_17 =>
  (iHeadSame k v_10.1 v_17).bind fun v_18 =>
  cond v_18 (
    cond v_10.2 (
      cond v_11.2 (
        cond v_12.2 (
          cond v_13.2 (
            cond (v_15.2 == 2) (
              (iLightSame k v_15.1 v_6.1).bind fun v_19 =>
              some v_19) <|
            some false) <|
          some false) <|
        some false) <|
      some false) <|
    some false) <|
  cond v_10.2 (
    cond v_11.2 (
      cond v_12.2 (
        cond v_13.2 (
          cond (v_15.2 == 4) (
            (iLightSame k v_15.1 v_6.1).bind fun v_20 =>
            some v_20) <|
          some false) <|
        some false) <|
      some false) <|
    some false) <|
  some false
end Go.Ev.G
