/- Plain laws of the plain functions. No condition. -/
import Derived.Test.YtmbpdaffnabjcaaGreatF
set_option linter.unusedVariables false
set_option linter.unusedSimpArgs false
set_option linter.unusedSectionVars false
/- Tools for the plain laws: what a family of answers comes to; loops over lists; arithmetic that does not wrap. -/
namespace Go.Ev.G
open Go.Ev
/-- With enough rounds the answer is v. -/
def Y {α : Type} (f : Nat → Option α) (v : α) : Prop := ∃ K, ∀ k, K ≤ k → f k = some v
section
variable {α β σ : Type}
theorem Y.pure (v : α) : Y (fun _ => some v) v := ⟨0, fun _ _ => rfl⟩
theorem Y.of {f : Option α} {v : α} (h : f = some v) : Y (fun _ => f) v := ⟨0, fun _ _ => h⟩
theorem Y.bind {f : Nat → Option α} {g : Nat → α → Option β} {a : α} {v : β} (h1 : Y f a) (h2 : Y (fun k => g k a) v) : Y (fun k => (f k).bind (g k)) v := by
  obtain ⟨K1, h1⟩ := h1
  obtain ⟨K2, h2⟩ := h2
  exact ⟨max K1 K2, fun k hk => by show (f k).bind (g k) = some v; rw [h1 k (by omega)]; exact h2 k (by omega)⟩
theorem Y.uniq {f : Nat → Option α} {a b : α} (h1 : Y f a) (h2 : Y f b) : a = b := by
  obtain ⟨K1, h1⟩ := h1
  obtain ⟨K2, h2⟩ := h2
  have e1 := h1 (max K1 K2) (by omega)
  have e2 := h2 (max K1 K2) (by omega)
  rw [e1] at e2
  exact Option.some.inj e2
theorem Y.bind_iff {f : Nat → Option α} {a : α} (h1 : Y f a) {g : Nat → α → Option β} {v : β} : Y (fun k => (f k).bind (g k)) v ↔ Y (fun k => g k a) v := by
  refine ⟨fun h => ?_, fun h => Y.bind h1 h⟩
  obtain ⟨K1, h1⟩ := h1
  obtain ⟨K2, h⟩ := h
  exact ⟨max K1 K2, fun k hk => by have : (f k).bind (g k) = some v := h k (by omega); rw [h1 k (by omega)] at this; exact this⟩
theorem Y.step {f : Nat → Option α} {v : α} (h : Y (fun k => f (k + 1)) v) : Y f v := by
  obtain ⟨K, h⟩ := h
  exact ⟨K + 1, fun k hk => by
    obtain ⟨j, rfl⟩ : ∃ j, k = j + 1 := ⟨k - 1, by omega⟩
    exact h j (by omega)⟩
theorem Y.congr {f g : Nat → Option α} {v : α} (h : ∀ k, f k = g k) (hg : Y g v) : Y f v := by
  obtain ⟨K, hg⟩ := hg
  exact ⟨K, fun k hk => by rw [h k]; exact hg k hk⟩
theorem Y.ex {f : Nat → Option α} {v : α} (h : Y f v) : ∃ k, f k = some v := let ⟨K, h⟩ := h; ⟨K, h K (Nat.le_refl K)⟩
theorem Y.const_iff {a v : α} : Y (fun _ => some a) v ↔ a = v := ⟨fun h => Y.uniq (Y.pure a) h, fun h => h ▸ Y.pure a⟩
theorem Y.cnd {c : Bool} {f g : Nat → Option α} {v : α} (h1 : c = true → Y f v) (h2 : c = false → Y g v) : Y (fun k => Bool.rec (g k) (f k) c) v := by
  cases c
  · exact h2 rfl
  · exact h1 rfl
theorem Y.cnd' {c : Bool} {f g : Nat → Option α} {v : α} (h1 : c = true → Y f v) (h2 : c = false → Y g v) : Y (fun k => _root_.cond c (f k) (g k)) v := by
  cases c
  · exact h2 rfl
  · exact h1 rfl
theorem Y.ite {c : Bool} {f g : Nat → Option α} {a b : α} (h1 : c = true → Y f a) (h2 : c = false → Y g b) : Y (fun k => _root_.cond c (f k) (g k)) (_root_.cond c a b) := by
  cases c
  · exact h2 rfl
  · exact h1 rfl

/-! ### Lists by number -/
theorem rd_some {xs : List α} {i : Int} {x : α} (h0 : 0 ≤ i) (h : xs[i.toNat]? = some x) : rd xs i = some x := by
  unfold rd
  rw [if_neg (by omega)]
  exact h
theorem rd_nat {xs : List α} {i : Nat} (h : i < xs.length) : rd xs (i : Int) = some xs[i] := by
  unfold rd
  rw [if_neg (by omega)]
  simp [h]
theorem rd_ok {xs : List α} {i : Int} (h0 : 0 ≤ i) (h : i < len xs) : rd xs i = some (xs[i.toNat]'(by unfold len at h; omega)) := by
  unfold rd
  rw [if_neg (by omega)]
  simp
theorem st_ok {xs : List α} {i : Int} {x : α} (h0 : 0 ≤ i) (h : i < len xs) : st xs i x = some (xs.set i.toNat x) := by
  unfold st
  unfold len at h
  rw [if_neg (by omega), if_pos (by omega)]
theorem app_ok {xs ys : List α} (h : xs.length + ys.length < 68719476736) : app xs ys = some (xs ++ ys) := by
  unfold app maxLen
  rw [if_pos h]
theorem app_nil {ys : List α} (h : ys.length < 68719476736) : app [] ys = some ys := by
  unfold app maxLen
  rw [if_pos (by simpa using h)]
  rfl
theorem mk_ok {n : Int} {x : α} (h0 : 0 ≤ n) (h : n < 68719476736) : mk n x = some (List.replicate n.toNat x) := by
  unfold mk maxLen
  rw [if_neg (by omega), if_pos (by omega)]
theorem sub_ok {xs : List α} {lo hi : Int} (h0 : 0 ≤ lo) (h1 : lo ≤ hi) (h2 : hi ≤ len xs) : sub xs lo hi = some (cut xs lo hi) := by
  unfold sub
  unfold len at h2
  rw [if_neg (by omega), if_neg (by omega), if_neg (by omega)]
  rfl
theorem len_nonneg (xs : List α) : 0 ≤ len xs := by unfold len; omega
theorem len_nil : len ([] : List α) = 0 := rfl
theorem len_cons (x : α) (xs : List α) : len (x :: xs) = len xs + 1 := by simp [len]
theorem len_append (xs ys : List α) : len (xs ++ ys) = len xs + len ys := by simp [len]
theorem len_toNat (xs : List α) : (len xs).toNat = xs.length := by simp [len]

/-! ### Numbers that stay within their kind -/
theorem wrap_i64 {n : Int} (h0 : -9223372036854775808 ≤ n) (h1 : n ≤ 9223372036854775807) : IntKind.wrap .i64 n = n := by
  simp only [IntKind.wrap, IntKind.signed, IntKind.bits]
  simp
  omega
theorem wrap_u8 {n : Int} (h0 : 0 ≤ n) (h1 : n ≤ 255) : IntKind.wrap .u8 n = n := by
  simp only [IntKind.wrap, IntKind.signed, IntKind.bits]
  simp
  omega
theorem wrap_u8_mod (n : Int) : IntKind.wrap .u8 n = n % 256 := by
  simp only [IntKind.wrap, IntKind.signed, IntKind.bits]
  simp
theorem ad_ok {a b : Int} (h0 : -9223372036854775808 ≤ a + b) (h1 : a + b ≤ 9223372036854775807) : ad .i64 a b = a + b := wrap_i64 h0 h1
theorem su_ok {a b : Int} (h0 : -9223372036854775808 ≤ a - b) (h1 : a - b ≤ 9223372036854775807) : su .i64 a b = a - b := wrap_i64 h0 h1
theorem mu_ok {a b : Int} (h0 : -9223372036854775808 ≤ a * b) (h1 : a * b ≤ 9223372036854775807) : mu .i64 a b = a * b := wrap_i64 h0 h1
theorem cv_u8 (n : Int) : cv .u8 n = n % 256 := wrap_u8_mod n
theorem cv_i64 {n : Int} (h0 : -9223372036854775808 ≤ n) (h1 : n ≤ 9223372036854775807) : cv .i64 n = n := wrap_i64 h0 h1
theorem re_ok {a b : Int} (h0 : 0 ≤ a) : re a b = a % b := by unfold re; exact Int.tmod_eq_emod_of_nonneg h0
theorem qu_ok {a b : Int} (h0 : 0 ≤ a) (hb : 0 < b) (h1 : a ≤ 9223372036854775807) : qu .i64 a b = a / b := by
  unfold qu
  rw [Int.tdiv_eq_ediv_of_nonneg h0]
  have h2 : 0 ≤ a / b := Int.ediv_nonneg h0 (Int.le_of_lt hb)
  have h3 : a / b ≤ a := Int.ediv_le_self _ h0
  exact wrap_i64 (by omega) (by omega)

/-! ### A loop over a list, by number -/
theorem Y.loop {xs : List α} (hx : xs.length < 4611686018427387904) (L : Nat → σ → Int → Option β) (inv : σ → List α → Prop) (R : σ → List α → β)
    (h0 : ∀ s, inv s [] → Y (fun k => L (k + 1) s (len xs)) (R s []))
    (h1 : ∀ s x post i, inv s (x :: post) → 0 ≤ i → i < len xs → rd xs i = some x → ad .i64 i 1 = i + 1 → (∀ s', inv s' post → Y (fun k => L k s' (i + 1)) (R s' post)) → Y (fun k => L (k + 1) s i) (R s (x :: post))) :
    ∀ s, inv s xs → Y (fun k => L k s 0) (R s xs) := by
  have key : ∀ post pre, xs = pre ++ post → ∀ s, inv s post → Y (fun k => L k s (len pre)) (R s post) := by
    intro post
    induction post with
    | nil =>
      intro pre e s hi
      have : len pre = len xs := by rw [e]; simp [len]
      rw [this]
      exact Y.step (h0 s hi)
    | cons x post ih =>
      intro pre e s hi
      have hl : pre.length < xs.length := by rw [e]; simp
      have hlt : len pre < len xs := by unfold len; omega
      have hrd : rd xs (len pre) = some x := rd_some (len_nonneg pre) (by rw [len_toNat, e]; simp)
      have had : ad .i64 (len pre) 1 = len pre + 1 := ad_ok (by unfold len; omega) (by unfold len; omega)
      refine Y.step (h1 s x post (len pre) hi (len_nonneg pre) hlt hrd had fun s' hs' => ?_)
      have := ih (pre ++ [x]) (by rw [e]; simp) s' hs'
      rw [len_append] at this
      exact this
  intro s hi
  exact key xs [] rfl s hi
end
end Go.Ev.G
/- Numbers and bytes. -/
namespace Go.Ev.G
open Go.Ev
def within (n lo hi : Int) : Bool := decide (lo ≤ n) && decide (n ≤ hi)
def isNum (n : Int) : Bool := within n 0 1152921504606846975
theorem within_iff {n lo hi : Int} : within n lo hi = true ↔ lo ≤ n ∧ n ≤ hi := by simp [within]
theorem isNum_iff {n : Int} : isNum n = true ↔ 0 ≤ n ∧ n ≤ 1152921504606846975 := within_iff
def Bytes (b : List Int) : Prop := ∀ x ∈ b, 0 ≤ x ∧ x ≤ 255
theorem Bytes.nil : Bytes [] := fun x hx => by cases hx
theorem Bytes.cons {x : Int} {b : List Int} (h0 : 0 ≤ x) (h1 : x ≤ 255) (h : Bytes b) : Bytes (x :: b) := fun y hy => by
  rcases List.mem_cons.1 hy with rfl | hy
  · exact ⟨h0, h1⟩
  · exact h y hy
theorem Bytes.append {a b : List Int} (ha : Bytes a) (hb : Bytes b) : Bytes (a ++ b) := fun y hy => (List.mem_append.1 hy).elim (ha y) (hb y)
theorem Bytes.take {a : List Int} (h : Bytes a) (n : Nat) : Bytes (a.take n) := fun y hy => h y (List.mem_of_mem_take hy)
theorem Bytes.drop {a : List Int} (h : Bytes a) (n : Nat) : Bytes (a.drop n) := fun y hy => h y (List.mem_of_mem_drop hy)

theorem iwithin_eq (n lo hi : Int) : iwithin n lo hi = some (within n lo hi) := by
  unfold iwithin within
  cases decide (lo ≤ n) <;> rfl
theorem sl01In_eq (n lo hi : Int) : sl01In n lo hi = some (within n lo hi) := iwithin_eq n lo hi
theorem iisNum_eq (n : Int) : iisNum n = some (isNum n) := by unfold iisNum; rw [iwithin_eq]; rfl
theorem sl01Num_eq (n : Int) : sl01Num n = some (isNum n) := by unfold sl01Num; rw [sl01In_eq]; rfl
theorem iisWord_eq (n : Int) : iisWord n = some (within n 0 4294967295) := by unfold iisWord; rw [iwithin_eq]; rfl
theorem sl04Word_eq (n : Int) : sl04Word n = some (within n 0 4294967295) := by unfold sl04Word; rw [sl01In_eq]; rfl
theorem icopyBytes_eq {b : List Int} (h : b.length < 68719476736) : icopyBytes b = some b := by unfold icopyBytes; rw [app_nil h]; rfl
theorem sl01Copy_eq {b : List Int} (h : b.length < 68719476736) : sl01Copy b = some b := icopyBytes_eq h
theorem iSameBytes_eq (a b : List Int) : iSameBytes a b = some (a == b) := rfl
theorem sSameBytes_eq (a b : List Int) : sSameBytes a b = some (a == b) := rfl

/-! ### Numbers in groups of seven bits -/
def varB (n : Nat) : List Int := if n < 128 then [(n : Int)] else ((n % 128 + 128 : Nat) : Int) :: varB (n / 128)
theorem varB_small {n : Nat} (h : n < 128) : varB n = [(n : Int)] := by rw [varB, if_pos h]
theorem varB_big {n : Nat} (h : ¬ n < 128) : varB n = ((n % 128 + 128 : Nat) : Int) :: varB (n / 128) := by rw [varB, if_neg h]
theorem varB_bytes : ∀ n, Bytes (varB n) := by
  intro n
  induction n using Nat.strongRecOn with
  | ind n ih =>
    by_cases h : n < 128
    · rw [varB_small h]; exact Bytes.cons (by omega) (by omega) Bytes.nil
    · rw [varB_big h]; exact Bytes.cons (by omega) (by omega) (ih _ (by omega))
theorem varB_length : ∀ (d n : Nat), n < 128 ^ (d + 1) → (varB n).length ≤ d + 1 := by
  intro d
  induction d with
  | zero => intro n h; rw [varB_small (by simpa using h)]; simp
  | succ d ih =>
    intro n h
    by_cases hs : n < 128
    · rw [varB_small hs]; simp
    · rw [varB_big hs]
      have := ih (n / 128) (by rw [Nat.pow_succ] at h; omega)
      simp only [List.length_cons]
      omega
theorem varB_le9 {n : Int} (h : isNum n = true) : (varB n.toNat).length ≤ 9 := by
  rw [isNum_iff] at h
  exact varB_length 8 _ (by have : (128 : Nat) ^ 9 = 9223372036854775808 := by decide
                            omega)
theorem varB_pos (n : Nat) : 0 < (varB n).length := by
  by_cases h : n < 128
  · rw [varB_small h]; simp
  · rw [varB_big h]; simp
theorem putVar_loop (L : Nat → Int → List Int → Option (Int × List Int)) (hL : ∀ k n out, L (k + 1) n out = cond (decide (n ≥ 128)) ((app out [cv .u8 (ad .i64 (re n 128) 128)]).bind fun v => L k (qu .i64 n 128) v) (some (n, out))) :
    ∀ (n : Nat) (out : List Int), n ≤ 1152921504606846975 → out.length + (varB n).length < 68719476736 → ∃ m : Nat, m < 128 ∧ ∃ pre, varB n = pre ++ [(m : Int)] ∧ Y (fun k => L k n out) ((m : Int), out ++ pre) := by
  intro n
  induction n using Nat.strongRecOn with
  | ind n ih =>
    intro out hn hl
    by_cases h : n < 128
    · refine ⟨n, h, [], by rw [varB_small h]; rfl, Y.step ?_⟩
      simp only [hL]
      rw [show (decide ((n : Int) ≥ 128)) = false by simp; omega]
      simp only [cond_false, List.append_nil]
      exact Y.pure _
    · have hb := varB_big h
      rw [hb] at hl
      simp only [List.length_cons] at hl
      obtain ⟨m, h1, pre, h2, h3⟩ := ih (n / 128) (by omega) (out ++ [((n % 128 + 128 : Nat) : Int)]) (by omega) (by simp only [List.length_append, List.length_cons, List.length_nil]; omega)
      refine ⟨m, h1, ((n % 128 + 128 : Nat) : Int) :: pre, by rw [hb, h2]; rfl, Y.step ?_⟩
      simp only [hL]
      have e1 : cv .u8 (ad .i64 (re (n : Int) 128) 128) = ((n % 128 + 128 : Nat) : Int) := by
        rw [re_ok (by omega), ad_ok (by omega) (by omega), cv_u8]
        omega
      have e2 : qu .i64 (n : Int) 128 = ((n / 128 : Nat) : Int) := by rw [qu_ok (by omega) (by omega) (by omega)]; omega
      rw [show (decide ((n : Int) ≥ 128)) = true by simp; omega, e1, e2, app_ok (by simp; omega)]
      simp only [cond_true, Option.bind_some]
      rw [List.append_assoc] at h3
      exact h3
theorem iPutVar_Y {b : List Int} {n : Int} (hb : b.length < 68719476700) : Y (fun k => iPutVar k b n) (if isNum n then (some (b ++ varB n.toNat), true) else (none, false)) := by
  unfold iPutVar
  rw [iisNum_eq]
  simp only [Option.bind_some]
  cases h : isNum n with
  | false => exact Y.pure _
  | true =>
    have h9 := varB_le9 h
    have h' := isNum_iff.1 h
    obtain ⟨m, h1, pre, h2, h3⟩ := putVar_loop iPutVar_l0 (fun k n out => rfl) n.toNat b (by omega) (by omega)
    rw [show ((n.toNat : Nat) : Int) = n by omega] at h3
    rw [icopyBytes_eq (by omega)]
    simp only [Option.bind_some, Bool.not_true, cond_false]
    refine Y.bind h3 ?_
    have hpre : pre.length < 9 := by rw [h2] at h9; simp at h9; omega
    simp only
    rw [cv_u8, Int.emod_eq_of_lt (by omega) (by omega), app_ok (by simp; omega)]
    simp only [Option.bind_some, List.append_assoc, ← h2, if_true]
    exact Y.pure _
theorem sPutVar_Y {b : List Int} {n : Int} (hb : b.length < 68719476700) : Y (fun k => sPutVar k b n) (if isNum n then (b ++ varB n.toNat, true) else ([], false)) := by
  unfold sPutVar
  rw [sl01Num_eq]
  simp only [Option.bind_some]
  cases h : isNum n with
  | false => exact Y.pure _
  | true =>
    have h9 := varB_le9 h
    have h' := isNum_iff.1 h
    have hL : ∀ k n out, sPutVar_l0 (k + 1) n out = cond (decide (n ≥ 128)) ((app out [cv .u8 (ad .i64 (re n 128) 128)]).bind fun v => sPutVar_l0 k (qu .i64 n 128) v) (some (n, out)) := by
      intro k n out
      show cond (decide (n > 127)) ((app out [cv .u8 (ad .i64 128 (re n 128))]).bind fun v => sPutVar_l0 k (qu .i64 n 128) v) (some (n, out)) = _
      rw [show decide (n > 127) = decide (n ≥ 128) by congr 1, show ad .i64 128 (re n 128) = ad .i64 (re n 128) 128 by unfold ad; rw [Int.add_comm]]
    obtain ⟨m, h1, pre, h2, h3⟩ := putVar_loop sPutVar_l0 hL n.toNat b (by omega) (by omega)
    rw [show ((n.toNat : Nat) : Int) = n by omega] at h3
    rw [sl01Copy_eq (by omega)]
    simp only [Option.bind_some, Bool.not_true, cond_false]
    refine Y.bind h3 ?_
    have hpre : pre.length < 9 := by rw [h2] at h9; simp at h9; omega
    simp only
    rw [cv_u8, Int.emod_eq_of_lt (by omega) (by omega), app_ok (by simp; omega)]
    simp only [Option.bind_some, List.append_assoc, ← h2, if_true]
    exact Y.pure _
theorem sl11Num_Y {b : List Int} {n : Int} (hb : b.length < 68719476700) (hn : isNum n = true) : Y (fun k => sl11Num k b n) (b ++ varB n.toNat) := by
  unfold sl11Num
  refine Y.bind (sPutVar_Y hb) ?_
  rw [if_pos hn]
  exact Y.pure _
theorem iwriter_num_Y {b : List Int} {n : Int} (hb : b.length < 68719476700) (hn : isNum n = true) : Y (fun k => iwriter_num k (b, ()) n) (b ++ varB n.toNat, ()) := by
  unfold iwriter_num
  refine Y.bind (iPutVar_Y hb) ?_
  rw [if_pos hn]
  exact Y.pure _
theorem iwriter_raw_eq {b x : List Int} (h : b.length + x.length < 68719476736) : iwriter_raw (b, ()) x = some (b ++ x, ()) := by
  unfold iwriter_raw
  rw [app_ok h]
  rfl
end Go.Ev.G
/- The hash: both texts compute the same one. -/
namespace Go.Ev.G
open Go.Ev
/-! ### Bits of a whole number -/
theorem ofInt_wrap (n : Int) : BitVec.ofInt 64 (IntKind.wrap .i64 n) = BitVec.ofInt 64 n := by
  apply BitVec.eq_of_toInt_eq
  simp only [BitVec.toInt_ofInt]
  have : ∃ q : Int, IntKind.wrap .i64 n = n + 18446744073709551616 * q := by
    simp only [IntKind.wrap, IntKind.signed, IntKind.bits]
    by_cases h : n % 18446744073709551616 ≥ 9223372036854775808
    · refine ⟨-(n / 18446744073709551616) - 1, ?_⟩
      simp [h]
      omega
    · refine ⟨-(n / 18446744073709551616), ?_⟩
      simp [h]
      omega
  obtain ⟨q, hq⟩ := this
  rw [hq]
  simp only [Int.bmod]
  omega
theorem ofInt_nat (x : BitVec 64) : BitVec.ofInt 64 (x.toNat : Int) = x := by simp
def W (x : BitVec 64) : Int := IntKind.wrap .i64 (x.toNat : Int)
theorem ofInt_W (x : BitVec 64) : BitVec.ofInt 64 (W x) = x := by unfold W; rw [ofInt_wrap, ofInt_nat]
theorem an_W (a b : Int) : an .i64 a b = W (BitVec.ofInt 64 a &&& BitVec.ofInt 64 b) := rfl
theorem io_W (a b : Int) : io .i64 a b = W (BitVec.ofInt 64 a ||| BitVec.ofInt 64 b) := rfl
theorem xo_W (a b : Int) : xo .i64 a b = W (BitVec.ofInt 64 a ^^^ BitVec.ofInt 64 b) := rfl
def isW (x : Int) : Prop := 0 ≤ x ∧ x ≤ 4294967295
theorem W_small {x : BitVec 64} (h : x.toNat < 4294967296) : isW (W x) := by
  unfold W isW
  rw [wrap_i64 (by omega) (by omega)]
  omega
theorem an_mask (z : Int) : isW (an .i64 z 4294967295) := by
  rw [an_W]
  apply W_small
  rw [BitVec.toNat_and]
  have : (BitVec.ofInt 64 4294967295).toNat = 4294967295 := by decide
  rw [this]
  exact Nat.lt_of_le_of_lt Nat.and_le_right (by omega)
theorem word_bits {e : Int} (h : isW e) {i : Nat} (hi : 32 ≤ i) : (BitVec.ofInt 64 e).getLsbD i = false := by
  obtain ⟨h0, h1⟩ := h
  obtain ⟨n, rfl⟩ := Int.eq_ofNat_of_zero_le h0
  have : (BitVec.ofInt 64 (n : Int)) = BitVec.ofNat 64 n := by simp
  rw [this]
  simp only [BitVec.getLsbD_ofNat]
  have : n.testBit i = false := Nat.testBit_lt_two_pow (Nat.lt_of_lt_of_le (show n < 2 ^ 32 by omega) (Nat.pow_le_pow_right (by omega) hi))
  rw [this, Bool.and_false]
theorem mask_bits {i : Nat} (hi : i < 32) : (BitVec.ofInt 64 4294967295).getLsbD i = true := by
  have : ∀ i, i < 32 → (BitVec.ofInt 64 4294967295).getLsbD i = true := by decide
  exact this i hi
theorem ch_eq {e f g : Int} (h : isW e) : io .i64 (an .i64 e f) (an .i64 (xo .i64 e 4294967295) g) = xo .i64 (an .i64 e f) (an .i64 (xo .i64 4294967295 e) g) := by
  simp only [io_W, an_W, xo_W, ofInt_W]
  congr 1
  apply BitVec.eq_of_getLsbD_eq
  intro i _
  simp only [BitVec.getLsbD_or, BitVec.getLsbD_and, BitVec.getLsbD_xor]
  by_cases hi : i < 32
  · rw [mask_bits hi]
    cases (BitVec.ofInt 64 e).getLsbD i <;> cases (BitVec.ofInt 64 f).getLsbD i <;> cases (BitVec.ofInt 64 g).getLsbD i <;> rfl
  · rw [word_bits h (by omega)]
    cases (BitVec.ofInt 64 4294967295).getLsbD i <;> cases (BitVec.ofInt 64 f).getLsbD i <;> cases (BitVec.ofInt 64 g).getLsbD i <;> rfl
theorem maj_eq (a b c : Int) : io .i64 (io .i64 (an .i64 a b) (an .i64 a c)) (an .i64 b c) = xo .i64 (xo .i64 (an .i64 a b) (an .i64 a c)) (an .i64 b c) := by
  simp only [io_W, an_W, xo_W, ofInt_W]
  congr 1
  apply BitVec.eq_of_getLsbD_eq
  intro i _
  simp only [BitVec.getLsbD_or, BitVec.getLsbD_and, BitVec.getLsbD_xor]
  cases (BitVec.ofInt 64 a).getLsbD i <;> cases (BitVec.ofInt 64 b).getLsbD i <;> cases (BitVec.ofInt 64 c).getLsbD i <;> rfl
def tr (x n : Int) : Int := an .i64 (io .i64 (sr .i64 x n) (sl .i64 x (su .i64 32 n))) 4294967295
theorem iTurn {x n : Int} (hx : isW x) (h0 : 0 ≤ n) (h1 : n ≤ 31) : iTurnRight x n = some (tr x n) := by
  unfold iTurnRight
  rw [iisWord_eq, iwithin_eq]
  have e1 : within x 0 4294967295 = true := within_iff.2 hx
  have e2 : within n 0 31 = true := within_iff.2 ⟨h0, h1⟩
  have e3 : su .i64 32 n = 32 - n := su_ok (by omega) (by omega)
  simp only [Option.bind_some, e1, e2, Bool.not_true, cond_false, e3]
  rw [show decide (n < 0) = false by simp; omega, show decide (32 - n < 0) = false by simp; omega]
  simp only [cond_false]
  unfold tr
  rw [e3]
theorem sTurn {x n : Int} (h0 : 0 ≤ n) (h1 : n ≤ 31) : sl04Turn x n = some (tr x n) := by
  unfold sl04Turn
  have e3 : su .i64 32 n = 32 - n := su_ok (by omega) (by omega)
  rw [e3, show decide (n < 0) = false by simp; omega, show decide (32 - n < 0) = false by simp; omega]
  simp only [cond_false]
  unfold tr
  rw [e3]
end Go.Ev.G
/- The hash of one block. -/
namespace Go.Ev.G
open Go.Ev
theorem rdD {α : Type} {xs : List α} {i : Int} (d : α) (h0 : 0 ≤ i) (h : i < len xs) : rd xs i = some (xs.getD i.toNat d) := by
  rw [rd_ok h0 h]
  unfold len at h
  simp [List.getD, List.getElem?_eq_getElem (show i.toNat < xs.length by omega)]
theorem rd_left {α : Type} {xs ys : List α} {i : Int} (d : α) (h0 : 0 ≤ i) (h : i < len xs) : rd (xs ++ ys) i = some (xs.getD i.toNat d) := by
  have h' : i < len (xs ++ ys) := by rw [len_append]; have := len_nonneg ys; omega
  rw [rdD d h0 h']
  unfold len at h
  simp [List.getD, List.getElem?_append_left (show i.toNat < xs.length by omega)]
theorem st_mid {α : Type} {xs ys : List α} {y x : α} {i : Int} (h : i = len xs) : st (xs ++ y :: ys) i x = some (xs ++ x :: ys) := by
  subst h
  rw [st_ok (len_nonneg xs) (by rw [len_append, len_cons]; have := len_nonneg ys; omega), len_toNat]
  simp
def AllW (l : List Int) : Prop := ∀ x ∈ l, isW x
theorem AllW.get {l : List Int} (h : AllW l) (i : Nat) : isW (l.getD i 0) := by
  unfold List.getD
  cases hi : l[i]? with
  | none => exact ⟨by simp, by simp⟩
  | some x => exact h x (List.mem_of_getElem? hi)
/-- Four bytes as a word. -/
def wordAt (b : List Int) (j : Nat) : Int :=
  io .i64 (io .i64 (io .i64 (sl .i64 (cv .i64 (b.getD j 0)) 24) (sl .i64 (cv .i64 (b.getD (j + 1) 0)) 16)) (sl .i64 (cv .i64 (b.getD (j + 2) 0)) 8)) (cv .i64 (b.getD (j + 3) 0))
theorem Bytes.get {b : List Int} (h : Bytes b) (i : Nat) : 0 ≤ b.getD i 0 ∧ b.getD i 0 ≤ 255 := by
  unfold List.getD
  cases hi : b[i]? with
  | none => simp
  | some x => exact h x (List.mem_of_getElem? hi)
theorem sl_ok {a : Int} {n : Nat} (h0 : 0 ≤ a) (h1 : a ≤ 255) (hn : n ≤ 24) : sl .i64 a (n : Int) = a * 2 ^ n ∧ 0 ≤ a * 2 ^ n ∧ a * 2 ^ n < 4294967296 := by
  have h2 : (2 : Int) ^ n ≤ 16777216 := by
    have : (2 : Nat) ^ n ≤ 2 ^ 24 := Nat.pow_le_pow_right (by omega) hn
    have e : ((2 ^ n : Nat) : Int) = (2 : Int) ^ n := by simp
    rw [← e]
    omega
  have h3 : (0 : Int) < 2 ^ n := Int.pow_pos (by omega)
  have h4 : a * 2 ^ n ≤ 255 * 16777216 := Int.mul_le_mul h1 h2 (by omega) (by omega)
  have h5 : 0 ≤ a * 2 ^ n := Int.mul_nonneg h0 (by omega)
  refine ⟨?_, h5, by omega⟩
  unfold sl
  rw [show min (n : Int).toNat IntKind.i64.bits = n by simp [IntKind.bits]; omega]
  exact wrap_i64 (by omega) (by omega)
theorem io_word {a b : Int} (ha : 0 ≤ a ∧ a < 4294967296) (hb : 0 ≤ b ∧ b < 4294967296) : 0 ≤ io .i64 a b ∧ io .i64 a b < 4294967296 := by
  obtain ⟨m, rfl⟩ := Int.eq_ofNat_of_zero_le ha.1
  obtain ⟨n, rfl⟩ := Int.eq_ofNat_of_zero_le hb.1
  rw [io_W]
  have h : (BitVec.ofInt 64 (m : Int) ||| BitVec.ofInt 64 (n : Int)).toNat < 4294967296 := by
    rw [BitVec.toNat_or]
    have e1 : (BitVec.ofInt 64 (m : Int)).toNat = m := by simp; omega
    have e2 : (BitVec.ofInt 64 (n : Int)).toNat = n := by simp; omega
    rw [e1, e2]
    exact Nat.or_lt_two_pow (n := 32) (by omega) (by omega)
  have := W_small h
  unfold isW at this
  omega
theorem wordAt_word {b : List Int} (h : Bytes b) (j : Nat) : isW (wordAt b j) := by
  have g := fun i => Bytes.get h i
  have c : ∀ i, cv .i64 (b.getD i 0) = b.getD i 0 := fun i => cv_i64 (by have := g i; omega) (by have := g i; omega)
  unfold wordAt
  rw [c, c, c, c]
  obtain ⟨e1, a1, b1⟩ := sl_ok (n := 24) (g j).1 (g j).2 (by omega)
  obtain ⟨e2, a2, b2⟩ := sl_ok (n := 16) (g (j + 1)).1 (g (j + 1)).2 (by omega)
  obtain ⟨e3, a3, b3⟩ := sl_ok (n := 8) (g (j + 2)).1 (g (j + 2)).2 (by omega)
  simp only [Int.cast_ofNat_Int] at e1 e2 e3
  rw [e1, e2, e3]
  have := io_word (io_word (io_word ⟨a1, b1⟩ ⟨a2, b2⟩) ⟨a3, b3⟩) ⟨(g (j + 3)).1, by have := (g (j + 3)).2; omega⟩
  exact ⟨this.1, by omega⟩
def w16 (b : List Int) : List Int := (List.range 16).map fun i => wordAt b (4 * i)
def nextW (w : List Int) : Int :=
  an .i64 (ad .i64 (ad .i64 (ad .i64 (w.getD (w.length - 16) 0) (xo .i64 (xo .i64 (tr (w.getD (w.length - 15) 0) 7) (tr (w.getD (w.length - 15) 0) 18)) (sr .i64 (w.getD (w.length - 15) 0) 3))) (w.getD (w.length - 7) 0))
    (xo .i64 (xo .i64 (tr (w.getD (w.length - 2) 0) 17) (tr (w.getD (w.length - 2) 0) 19)) (sr .i64 (w.getD (w.length - 2) 0) 10))) 4294967295
def sched : Nat → List Int → List Int
  | 0, w => w
  | n + 1, w => sched n (w ++ [nextW w])
def rnd (v : List Int) (k w : Int) : List Int := match v with
  | [a, b, c, d, e, f, g, h] =>
    let t := ad .i64 (ad .i64 (ad .i64 (ad .i64 h (xo .i64 (xo .i64 (tr e 6) (tr e 11)) (tr e 25))) (io .i64 (an .i64 e f) (an .i64 (xo .i64 e 4294967295) g))) k) w
    let u := ad .i64 (xo .i64 (xo .i64 (tr a 2) (tr a 13)) (tr a 22)) (io .i64 (io .i64 (an .i64 a b) (an .i64 a c)) (an .i64 b c))
    [an .i64 (ad .i64 t u) 4294967295, a, b, c, an .i64 (ad .i64 d t) 4294967295, e, f, g]
  | v => v
def rnds (ks ws : List Int) : Nat → Nat → List Int → List Int
  | 0, _, v => v
  | n + 1, i, v => rnds ks ws n (i + 1) (rnd v (ks.getD i 0) (ws.getD i 0))
def shaK : List Int := [1116352408, 1899447441, 3049323471, 3921009573, 961987163, 1508970993, 2453635748, 2870763221, 3624381080, 310598401, 607225278, 1426881987, 1925078388, 2162078206, 2614888103, 3248222580, 3835390401, 4022224774, 264347078, 604807628, 770255983, 1249150122, 1555081692, 1996064986, 2554220882, 2821834349, 2952996808, 3210313671, 3336571891, 3584528711, 113926993, 338241895, 666307205, 773529912, 1294757372, 1396182291, 1695183700, 1986661051, 2177026350, 2456956037, 2730485921, 2820302411, 3259730800, 3345764771, 3516065817, 3600352804, 4094571909, 275423344, 430227734, 506948616, 659060556, 883997877, 958139571, 1322822218, 1537002063, 1747873779, 1955562222, 2024104815, 2227730452, 2361852424, 2428436474, 2756734187, 3204031479, 3329325298]
def shaBlock (h b : List Int) : List Int := List.zipWith (fun x y => an .i64 (ad .i64 x y) 4294967295) h (rnds shaK (sched 48 (w16 b)) 64 0 h)
/-- Eight words. -/
def Is8 (v : List Int) : Prop := ∃ a b c d e f g h, v = [a, b, c, d, e, f, g, h] ∧ isW a ∧ isW b ∧ isW c ∧ isW d ∧ isW e ∧ isW f ∧ isW g ∧ isW h
theorem Is8.rnd {v : List Int} (h : Is8 v) (k w : Int) : Is8 (rnd v k w) := by
  obtain ⟨a, b, c, d, e, f, g, h, rfl, ha, hb, hc, hd, he, hf, hg, hh⟩ := h
  exact ⟨_, _, _, _, _, _, _, _, rfl, an_mask _, ha, hb, hc, an_mask _, he, hf, hg⟩
theorem Is8.rnds {ks ws : List Int} : ∀ {n i : Nat} {v : List Int}, Is8 v → Is8 (rnds ks ws n i v) := by
  intro n
  induction n with
  | zero => intro i v h; exact h
  | succ n ih => intro i v h; exact ih (h.rnd _ _)
theorem Is8.block {h : List Int} (b : List Int) (hh : Is8 h) : Is8 (shaBlock h b) := by
  have hr := Is8.rnds (ks := shaK) (ws := sched 48 (w16 b)) (n := 64) (i := 0) hh
  unfold shaBlock
  obtain ⟨a, b, c, d, e, f, g, h, rfl, _⟩ := hh
  obtain ⟨a', b', c', d', e', f', g', h', e1, _⟩ := hr
  rw [e1]
  exact ⟨_, _, _, _, _, _, _, _, rfl, an_mask _, an_mask _, an_mask _, an_mask _, an_mask _, an_mask _, an_mask _, an_mask _⟩
theorem w16_length (b : List Int) : (w16 b).length = 16 := by simp [w16]
theorem w16_words {b : List Int} (h : Bytes b) : AllW (w16 b) := by
  intro x hx
  simp only [w16, List.mem_map] at hx
  obtain ⟨i, _, rfl⟩ := hx
  exact wordAt_word h _
theorem sched_spec : ∀ (n : Nat) (w : List Int), AllW w → AllW (sched n w) ∧ (sched n w).length = w.length + n := by
  intro n
  induction n with
  | zero => intro w h; exact ⟨h, rfl⟩
  | succ n ih =>
    intro w h
    obtain ⟨h1, h2⟩ := ih (w ++ [nextW w]) (fun x hx => by
      rcases List.mem_append.1 hx with hx | hx
      · exact h x hx
      · simp at hx; subst hx; exact an_mask _)
    refine ⟨h1, ?_⟩
    show (sched n (w ++ [nextW w])).length = _
    rw [h2]
    simp
    omega
section
variable {a b c d e f g h : Int}
theorem rd8_0 : rd [a, b, c, d, e, f, g, h] 0 = some a := rfl
theorem rd8_1 : rd [a, b, c, d, e, f, g, h] 1 = some b := rfl
theorem rd8_2 : rd [a, b, c, d, e, f, g, h] 2 = some c := rfl
theorem rd8_3 : rd [a, b, c, d, e, f, g, h] 3 = some d := rfl
theorem rd8_4 : rd [a, b, c, d, e, f, g, h] 4 = some e := rfl
theorem rd8_5 : rd [a, b, c, d, e, f, g, h] 5 = some f := rfl
theorem rd8_6 : rd [a, b, c, d, e, f, g, h] 6 = some g := rfl
theorem rd8_7 : rd [a, b, c, d, e, f, g, h] 7 = some h := rfl
end
theorem irounds_eq : irounds = some shaK := rfl
theorem sl04K_eq : sl04K = some shaK := rfl
theorem shaK_length : shaK.length = 64 := rfl
/-! ### The rounds -/
theorem iRounds {h0 w : List Int} (hw : w.length = 64) : ∀ (n i : Nat) (v : List Int), i + n = 64 → Is8 v → Y (fun k => iShaBlock_l6 k h0 w shaK v (i : Int)) (h0, rnds shaK w n i v) := by
  intro n
  induction n with
  | zero =>
    intro i v hi hv
    refine Y.step ?_
    simp only [iShaBlock_l6, rnds]
    rw [show decide ((i : Int) < 64) = false by simp; omega]
    simp only [cond_false]
    exact Y.pure _
  | succ n ih =>
    intro i v hi hv
    have ih' := ih (i + 1) _ (by omega) (hv.rnd (shaK.getD i 0) (w.getD i 0))
    obtain ⟨a, b, c, d, e, f, g, h, rfl, ha, hb, hc, hd, he, hf, hg, hh⟩ := hv
    refine Y.step ?_
    have r1 : rd shaK (i : Int) = some (shaK.getD i 0) := by rw [rdD 0 (by omega) (by rw [show len shaK = 64 from rfl]; omega)]; simp
    have r2 : rd w (i : Int) = some (w.getD i 0) := by rw [rdD 0 (by omega) (by unfold len; omega)]; simp
    simp only [iShaBlock_l6, rnds, rd8_0, rd8_1, rd8_2, rd8_3, rd8_4, rd8_5, rd8_6, rd8_7, r1, r2, Option.bind_some, iTurn he (show (0 : Int) ≤ 6 by omega) (show (6 : Int) ≤ 31 by omega), iTurn he (show (0 : Int) ≤ 11 by omega) (show (11 : Int) ≤ 31 by omega),
      iTurn he (show (0 : Int) ≤ 25 by omega) (show (25 : Int) ≤ 31 by omega), iTurn ha (show (0 : Int) ≤ 2 by omega) (show (2 : Int) ≤ 31 by omega), iTurn ha (show (0 : Int) ≤ 13 by omega) (show (13 : Int) ≤ 31 by omega), iTurn ha (show (0 : Int) ≤ 22 by omega) (show (22 : Int) ≤ 31 by omega)]
    rw [show decide ((i : Int) < 64) = true by simp; omega, show ad .i64 (i : Int) 1 = ((i + 1 : Nat) : Int) by rw [ad_ok (by omega) (by omega)]; omega]
    simp only [cond_true]
    exact ih'
theorem sRounds {h0 w : List Int} (hw : w.length = 64) : ∀ (n i : Nat) (v : List Int), i + n = 64 → Is8 v → Y (fun k => sShaBlock_l6 k h0 w shaK v (i : Int)) (h0, rnds shaK w n i v) := by
  intro n
  induction n with
  | zero =>
    intro i v hi hv
    refine Y.step ?_
    simp only [sShaBlock_l6, rnds]
    rw [show decide ((i : Int) < 64) = false by simp; omega]
    simp only [cond_false]
    exact Y.pure _
  | succ n ih =>
    intro i v hi hv
    have ih' := ih (i + 1) _ (by omega) (hv.rnd (shaK.getD i 0) (w.getD i 0))
    obtain ⟨a, b, c, d, e, f, g, h, rfl, ha, hb, hc, hd, he, hf, hg, hh⟩ := hv
    refine Y.step ?_
    have r1 : rd shaK (i : Int) = some (shaK.getD i 0) := by rw [rdD 0 (by omega) (by rw [show len shaK = 64 from rfl]; omega)]; simp
    have r2 : rd w (i : Int) = some (w.getD i 0) := by rw [rdD 0 (by omega) (by unfold len; omega)]; simp
    simp only [sShaBlock_l6, rnds, rd8_0, rd8_1, rd8_2, rd8_3, rd8_4, rd8_5, rd8_6, rd8_7, r1, r2, Option.bind_some, sTurn (show (0 : Int) ≤ 6 by omega) (show (6 : Int) ≤ 31 by omega), sTurn (show (0 : Int) ≤ 11 by omega) (show (11 : Int) ≤ 31 by omega),
      sTurn (show (0 : Int) ≤ 25 by omega) (show (25 : Int) ≤ 31 by omega), sTurn (show (0 : Int) ≤ 2 by omega) (show (2 : Int) ≤ 31 by omega), sTurn (show (0 : Int) ≤ 13 by omega) (show (13 : Int) ≤ 31 by omega), sTurn (show (0 : Int) ≤ 22 by omega) (show (22 : Int) ≤ 31 by omega)]
    rw [show decide ((i : Int) < 64) = true by simp; omega, show ad .i64 (i : Int) 1 = ((i + 1 : Nat) : Int) by rw [ad_ok (by omega) (by omega)]; omega]
    simp only [cond_true]
    rw [← ch_eq he, ← maj_eq]
    exact ih'
end Go.Ev.G
/- The hash of one block: the loops, and the block whole. -/
namespace Go.Ev.G
open Go.Ev
theorem nat_ad (i : Nat) (h : i < 4611686018427387904) : ad .i64 (i : Int) 1 = ((i + 1 : Nat) : Int) := by rw [ad_ok (by omega) (by omega)]; omega
theorem take_succ_getD {l : List Int} {i : Nat} (h : i < l.length) : l.take (i + 1) = l.take i ++ [l.getD i 0] := by
  rw [List.take_add_one]
  simp [List.getD, List.getElem?_eq_getElem h]
theorem w16_get {b : List Int} {i : Nat} (h : i < 16) : (w16 b).getD i 0 = wordAt b (4 * i) := by
  simp [w16, List.getD, h]
theorem rdB {b : List Int} (hl : b.length = 64) {j : Nat} {i : Int} (hi : i = j) (hj : j < 64) : rd b i = some (b.getD j 0) := by
  subst hi
  rw [rdD 0 (by omega) (by unfold len; omega)]
  simp
theorem iFill {h b ks v : List Int} (hl : b.length = 64) : ∀ (n i : Nat), i + n = 16 → Y (fun k => iShaBlock_l2 k h b ((w16 b).take i ++ List.replicate (64 - i) 0) ks v (i : Int)) (h, w16 b ++ List.replicate 48 0, ks, v) := by
  intro n
  induction n with
  | zero =>
    intro i hi
    obtain rfl : i = 16 := by omega
    refine Y.step ?_
    have e : (w16 b).take 16 = w16 b := List.take_of_length_le (by rw [w16_length]; omega)
    simp only [iShaBlock_l2, e]
    exact Y.pure _
  | succ n ih =>
    intro i hi
    refine Y.step ?_
    have m0 : mu .i64 4 (i : Int) = ((4 * i : Nat) : Int) := by rw [mu_ok (by omega) (by omega)]; omega
    have m1 : ad .i64 ((4 * i : Nat) : Int) 1 = ((4 * i + 1 : Nat) : Int) := by rw [ad_ok (by omega) (by omega)]; omega
    have m2 : ad .i64 ((4 * i : Nat) : Int) 2 = ((4 * i + 2 : Nat) : Int) := by rw [ad_ok (by omega) (by omega)]; omega
    have m3 : ad .i64 ((4 * i : Nat) : Int) 3 = ((4 * i + 3 : Nat) : Int) := by rw [ad_ok (by omega) (by omega)]; omega
    have lw : len ((w16 b).take i) = (i : Int) := by unfold len; rw [List.length_take, w16_length]; omega
    have hr : List.replicate (64 - i) (0 : Int) = 0 :: List.replicate (64 - (i + 1)) 0 := by rw [show 64 - i = (64 - (i + 1)) + 1 by omega]; rfl
    simp only [iShaBlock_l2]
    rw [show decide ((i : Int) < 16) = true by simp; omega, nat_ad i (by omega), m0, m1, m2, m3, rdB hl rfl (show 4 * i < 64 by omega), rdB hl rfl (show 4 * i + 1 < 64 by omega), rdB hl rfl (show 4 * i + 2 < 64 by omega), rdB hl rfl (show 4 * i + 3 < 64 by omega)]
    simp only [cond_true, Option.bind_some]
    have r1 : ∃ y, rd ((w16 b).take i ++ List.replicate (64 - i) (0 : Int)) (i : Int) = some y := ⟨_, rdD 0 (by omega) (by unfold len; simp [w16_length]; omega)⟩
    obtain ⟨y, r1⟩ := r1
    rw [r1]
    simp only [Option.bind_some]
    rw [hr, st_mid lw.symm]
    simp only [Option.bind_some]
    have := ih (i + 1) (by omega)
    rw [take_succ_getD (by rw [w16_length]; omega), w16_get (by omega), List.append_assoc] at this
    exact this
theorem sFill {h b : List Int} (hl : b.length = 64) : ∀ (n i : Nat), i + n = 16 → Y (fun k => sShaBlock_l2 k h b ((w16 b).take i) ((4 * i : Nat) : Int)) (h, w16 b) := by
  intro n
  induction n with
  | zero =>
    intro i hi
    obtain rfl : i = 16 := by omega
    refine Y.step ?_
    have e : (w16 b).take 16 = w16 b := List.take_of_length_le (by rw [w16_length]; omega)
    simp only [sShaBlock_l2, e]
    exact Y.pure _
  | succ n ih =>
    intro i hi
    refine Y.step ?_
    have m1 : ad .i64 ((4 * i : Nat) : Int) 1 = ((4 * i + 1 : Nat) : Int) := by rw [ad_ok (by omega) (by omega)]; omega
    have m2 : ad .i64 ((4 * i : Nat) : Int) 2 = ((4 * i + 2 : Nat) : Int) := by rw [ad_ok (by omega) (by omega)]; omega
    have m3 : ad .i64 ((4 * i : Nat) : Int) 3 = ((4 * i + 3 : Nat) : Int) := by rw [ad_ok (by omega) (by omega)]; omega
    have m4 : ad .i64 ((4 * i : Nat) : Int) 4 = ((4 * (i + 1) : Nat) : Int) := by rw [ad_ok (by omega) (by omega)]; omega
    simp only [sShaBlock_l2]
    rw [show decide (((4 * i : Nat) : Int) < 64) = true by simp; omega, m1, m2, m3, m4, rdB hl rfl (show 4 * i < 64 by omega), rdB hl rfl (show 4 * i + 1 < 64 by omega), rdB hl rfl (show 4 * i + 2 < 64 by omega), rdB hl rfl (show 4 * i + 3 < 64 by omega)]
    simp only [cond_true, Option.bind_some]
    rw [app_ok (by simp [w16_length]; omega)]
    simp only [Option.bind_some]
    have := ih (i + 1) (by omega)
    rw [take_succ_getD (by rw [w16_length]; omega), w16_get (by omega)] at this
    exact this
theorem iSched {h ks v : List Int} : ∀ (n : Nat) (w : List Int), 16 ≤ w.length → w.length + n = 64 → AllW w → Y (fun k => iShaBlock_l4 k h (w ++ List.replicate n 0) ks v (w.length : Int)) (h, sched n w, ks, v) := by
  intro n
  induction n with
  | zero =>
    intro w h16 hn hw
    refine Y.step ?_
    simp only [iShaBlock_l4]
    rw [show decide ((w.length : Int) < 64) = false by simp; omega]
    simp only [cond_false, List.replicate_zero, List.append_nil]
    exact Y.pure _
  | succ n ih =>
    intro w h16 hn hw
    refine Y.step ?_
    have s15 : su .i64 (w.length : Int) 15 = ((w.length - 15 : Nat) : Int) := by rw [su_ok (by omega) (by omega)]; omega
    have s2 : su .i64 (w.length : Int) 2 = ((w.length - 2 : Nat) : Int) := by rw [su_ok (by omega) (by omega)]; omega
    have s16 : su .i64 (w.length : Int) 16 = ((w.length - 16 : Nat) : Int) := by rw [su_ok (by omega) (by omega)]; omega
    have s7 : su .i64 (w.length : Int) 7 = ((w.length - 7 : Nat) : Int) := by rw [su_ok (by omega) (by omega)]; omega
    have rl : ∀ j : Nat, j < w.length → rd (w ++ List.replicate (n + 1) (0 : Int)) (j : Int) = some (w.getD j 0) := fun j hj => by
      rw [rd_left 0 (by omega) (by unfold len; omega)]; simp
    have rm : rd (w ++ List.replicate (n + 1) (0 : Int)) (w.length : Int) = some 0 := by
      rw [rdD 0 (by omega) (by unfold len; simp; omega)]
      simp
    have w15 := hw.get (w.length - 15)
    have w2 := hw.get (w.length - 2)
    simp only [iShaBlock_l4]
    rw [show decide ((w.length : Int) < 64) = true by simp; omega, s15, s2, s16, s7, rl _ (by omega), rl (w.length - 2) (by omega), rl (w.length - 16) (by omega), rl (w.length - 7) (by omega), rm, nat_ad _ (by omega)]
    simp only [cond_true, Option.bind_some, iTurn w15 (show (0 : Int) ≤ 7 by omega) (show (7 : Int) ≤ 31 by omega), iTurn w15 (show (0 : Int) ≤ 18 by omega) (show (18 : Int) ≤ 31 by omega),
      iTurn w2 (show (0 : Int) ≤ 17 by omega) (show (17 : Int) ≤ 31 by omega), iTurn w2 (show (0 : Int) ≤ 19 by omega) (show (19 : Int) ≤ 31 by omega)]
    rw [show List.replicate (n + 1) (0 : Int) = 0 :: List.replicate n 0 from rfl, st_mid (show (w.length : Int) = len w from rfl)]
    simp only [Option.bind_some]
    have := ih (w ++ [nextW w]) (by simp; omega) (by simp; omega) (fun x hx => by
      rcases List.mem_append.1 hx with hx | hx
      · exact hw x hx
      · simp at hx; subst hx; exact an_mask _)
    rw [List.append_assoc, List.length_append] at this
    exact this
theorem sSched {h : List Int} : ∀ (n : Nat) (w : List Int), 16 ≤ w.length → w.length + n = 64 → Y (fun k => sShaBlock_l4 k h w (w.length : Int)) (h, sched n w) := by
  intro n
  induction n with
  | zero =>
    intro w h16 hn
    refine Y.step ?_
    simp only [sShaBlock_l4]
    rw [show decide ((w.length : Int) < 64) = false by simp; omega]
    simp only [cond_false]
    exact Y.pure _
  | succ n ih =>
    intro w h16 hn
    refine Y.step ?_
    have s15 : su .i64 (w.length : Int) 15 = ((w.length - 15 : Nat) : Int) := by rw [su_ok (by omega) (by omega)]; omega
    have s2 : su .i64 (w.length : Int) 2 = ((w.length - 2 : Nat) : Int) := by rw [su_ok (by omega) (by omega)]; omega
    have s16 : su .i64 (w.length : Int) 16 = ((w.length - 16 : Nat) : Int) := by rw [su_ok (by omega) (by omega)]; omega
    have s7 : su .i64 (w.length : Int) 7 = ((w.length - 7 : Nat) : Int) := by rw [su_ok (by omega) (by omega)]; omega
    have rl : ∀ j : Nat, j < w.length → rd w (j : Int) = some (w.getD j 0) := fun j hj => by
      rw [rdD 0 (by omega) (by unfold len; omega)]; simp
    simp only [sShaBlock_l4]
    rw [show decide ((w.length : Int) < 64) = true by simp; omega, s15, s2, s16, s7, rl _ (by omega), rl (w.length - 2) (by omega), rl (w.length - 16) (by omega), rl (w.length - 7) (by omega), nat_ad _ (by omega)]
    simp only [cond_true, Option.bind_some, sTurn (show (0 : Int) ≤ 7 by omega) (show (7 : Int) ≤ 31 by omega), sTurn (show (0 : Int) ≤ 18 by omega) (show (18 : Int) ≤ 31 by omega),
      sTurn (show (0 : Int) ≤ 17 by omega) (show (17 : Int) ≤ 31 by omega), sTurn (show (0 : Int) ≤ 19 by omega) (show (19 : Int) ≤ 31 by omega)]
    rw [app_ok (by simp; omega)]
    simp only [Option.bind_some]
    have := ih (w ++ [nextW w]) (by simp; omega) (by simp; omega)
    rw [List.length_append] at this
    exact this
theorem zip_out {h v : List Int} (hl : h.length = 8) (hv : v.length = 8) (L : Nat → List Int → Int → Option (List Int))
    (hL : ∀ k out i, L (k + 1) out i = cond (decide (i < 8)) ((rd h i).bind fun x => (rd v i).bind fun _ => (rd v i).bind fun y => (app out [an .i64 (ad .i64 x y) 4294967295]).bind fun z => L k z (ad .i64 i 1)) (some out)) :
    ∀ (n i : Nat), i + n = 8 → Y (fun k => L k ((List.zipWith (fun x y => an .i64 (ad .i64 x y) 4294967295) h v).take i) (i : Int)) (List.zipWith (fun x y => an .i64 (ad .i64 x y) 4294967295) h v) := by
  intro n
  induction n with
  | zero =>
    intro i hi
    obtain rfl : i = 8 := by omega
    refine Y.step ?_
    rw [List.take_of_length_le (by simp [hl, hv])]
    simp only [hL]
    exact Y.pure _
  | succ n ih =>
    intro i hi
    refine Y.step ?_
    simp only [hL]
    rw [show decide ((i : Int) < 8) = true by simp; omega, rdD 0 (by omega) (by unfold len; omega), rdD (xs := v) 0 (by omega) (by unfold len; omega), nat_ad i (by omega)]
    simp only [cond_true, Option.bind_some, Int.toNat_natCast]
    rw [app_ok (by simp [hl, hv]; omega)]
    simp only [Option.bind_some]
    have := ih (i + 1) (by omega)
    rw [take_succ_getD (by simp [hl, hv]; omega)] at this
    have e : (List.zipWith (fun x y => an .i64 (ad .i64 x y) 4294967295) h v).getD i 0 = an .i64 (ad .i64 (h.getD i 0) (v.getD i 0)) 4294967295 := by
      simp [List.getD, List.getElem?_zipWith, List.getElem?_eq_getElem (show i < h.length by omega), List.getElem?_eq_getElem (show i < v.length by omega)]
    rw [e] at this
    exact this
theorem Is8.len {v : List Int} (h : Is8 v) : v.length = 8 := by obtain ⟨a, b, c, d, e, f, g, h, rfl, _⟩ := h; rfl
theorem Is8.all {v : List Int} (h : Is8 v) : AllW v := by
  obtain ⟨a, b, c, d, e, f, g, h, rfl, h1, h2, h3, h4, h5, h6, h7, h8⟩ := h
  intro x hx
  simp at hx
  rcases hx with rfl | rfl | rfl | rfl | rfl | rfl | rfl | rfl <;> assumption
theorem words_loop {h b : List Int} (hl : h.length < 4611686018427387904) (ha : AllW h) (L : Nat → Int → Option ((List Int × List Int) ⊕ List Int))
    (hL : ∀ k i, L (k + 1) i = cond (decide (i < len h)) ((rd h i).bind fun x => cond (!(within x 0 4294967295)) (some (Sum.inr [])) (L k (ad .i64 i 1))) (some (Sum.inl (h, b)))) : Y (fun k => L k 0) (Sum.inl (h, b)) := by
  refine Y.loop (σ := Unit) hl (fun k _ i => L k i) (fun _ post => AllW post) (fun _ _ => Sum.inl (h, b)) (fun s _ => ?_) (fun s x post i hi h0 h1 hrd had ih => ?_) () ha
  · simp only [hL]
    rw [show decide (len h < len h) = false by simp]
    simp only [cond_false]
    exact Y.pure _
  · simp only [hL]
    have e1 : within x 0 4294967295 = true := within_iff.2 (hi x (by simp))
    rw [show decide (i < len h) = true by simpa using h1, hrd, had]
    simp only [cond_true, Option.bind_some, e1, Bool.not_true, cond_false]
    exact ih () (fun y hy => hi y (by simp [hy]))
theorem iShaBlock_Y {h b : List Int} (hh : Is8 h) (hl : b.length = 64) (hb : Bytes b) : Y (fun k => iShaBlock k h b) (shaBlock h b) := by
  have h8 := hh.len
  have hw := sched_spec 48 (w16 b) (w16_words hb)
  have hr := Is8.rnds (ks := shaK) (ws := sched 48 (w16 b)) (n := 64) (i := 0) hh
  unfold iShaBlock
  rw [show (len h != 8) = false by simp [len, h8], show (len b != 64) = false by simp [len, hl]]
  simp only [cond_false]
  refine Y.bind (words_loop (b := b) (by omega) hh.all (fun k i => iShaBlock_l0 k h b h (len h) i) (fun k i => ?_)) ?_
  · simp only [iShaBlock_l0, iisWord_eq, Option.bind_some]
  simp only [sumE, irounds_eq, Option.bind_some]
  refine Y.bind (iFill hl 16 0 rfl) ?_
  have := iSched (h := h) (ks := shaK) (v := List.replicate 8 0) 48 (w16 b) (by rw [w16_length]; omega) (by rw [w16_length]) (w16_words hb)
  rw [w16_length] at this
  refine Y.bind this ?_
  have e1 : cpy (List.replicate 8 (0 : Int)) h = h := by unfold cpy; simp [h8, List.take_of_length_le]
  simp only [e1]
  refine Y.bind (iRounds (by rw [hw.2, w16_length]) 64 0 h rfl hh) ?_
  refine Y.bind (zip_out h8 hr.len (fun k out i => iShaBlock_l8 k h (rnds shaK (sched 48 (w16 b)) 64 0 h) out i) (fun k out i => rfl) 8 0 rfl) ?_
  exact Y.pure _
theorem sShaBlock_Y {h b : List Int} (hh : Is8 h) (hl : b.length = 64) (hb : Bytes b) : Y (fun k => sShaBlock k h b) (shaBlock h b) := by
  have h8 := hh.len
  have hw := sched_spec 48 (w16 b) (w16_words hb)
  have hr := Is8.rnds (ks := shaK) (ws := sched 48 (w16 b)) (n := 64) (i := 0) hh
  unfold sShaBlock
  rw [show (len h != 8) = false by simp [len, h8], show (len b != 64) = false by simp [len, hl]]
  simp only [cond_false]
  refine Y.bind (words_loop (b := b) (by omega) hh.all (fun k i => sShaBlock_l0 k h b h (len h) i) (fun k i => ?_)) ?_
  · simp only [sShaBlock_l0, sl04Word_eq, Option.bind_some]
  simp only [sumE]
  refine Y.bind (sFill hl 16 0 rfl) ?_
  have := sSched (h := h) 48 (w16 b) (by rw [w16_length]; omega) (by rw [w16_length])
  rw [w16_length] at this
  refine Y.bind this ?_
  simp only [sl04K_eq, Option.bind_some]
  rw [app_nil (by omega)]
  simp only [Option.bind_some]
  refine Y.bind (sRounds (by rw [hw.2, w16_length]) 64 0 h rfl hh) ?_
  have e8 : len h = 8 := by simp [len, h8]
  simp only [e8]
  refine Y.bind (zip_out h8 hr.len (fun k out i => sShaBlock_l8 k h (rnds shaK (sched 48 (w16 b)) 64 0 h) out 8 i) (fun k out i => rfl) 8 0 rfl) ?_
  exact Y.pure _
end Go.Ev.G
/- The hash, whole; the tags. -/
namespace Go.Ev.G
open Go.Ev
def zs (m : Nat) : Nat := (120 - m % 64) % 64
theorem pad_loop {b : List Int} (L : Nat → List Int → Option (List Int × List Int)) (hL : ∀ k out, L (k + 1) out = cond ((re (len out) 64) != 56) ((app out [0]).bind fun v => L k v) (some (b, out))) :
    ∀ (z : Nat) (out : List Int), zs out.length = z → out.length + z < 68719476700 → Y (fun k => L k out) (b, out ++ List.replicate z 0) := by
  intro z
  induction z with
  | zero =>
    intro out hz hl
    refine Y.step ?_
    unfold zs at hz
    have : re (len out) 64 = 56 := by rw [re_ok (len_nonneg out)]; unfold len; omega
    simp only [hL, this, List.replicate_zero, List.append_nil]
    exact Y.pure _
  | succ z ih =>
    intro out hz hl
    refine Y.step ?_
    unfold zs at hz
    have : (re (len out) 64 != 56) = true := by rw [re_ok (len_nonneg out)]; unfold len; simp; omega
    simp only [hL, this, cond_true]
    rw [app_ok (by simp; omega)]
    simp only [Option.bind_some]
    have := ih (out ++ [0]) (by unfold zs; simp; omega) (by simp; omega)
    rw [List.append_assoc] at this
    exact this
def beN (n : Int) : Nat → List Int
  | 0 => []
  | j + 1 => cv .u8 (sr .i64 n (8 * (j : Int))) :: beN n j
theorem beN_bytes (n : Int) : ∀ j, Bytes (beN n j) := by
  intro j
  induction j with
  | zero => exact Bytes.nil
  | succ j ih => exact Bytes.cons (by rw [cv_u8]; omega) (by rw [cv_u8]; omega) ih
theorem beN_length (n : Int) : ∀ j, (beN n j).length = j := by
  intro j
  induction j with
  | zero => rfl
  | succ j ih => simp [beN, ih]
theorem be_loop {n : Int} (L : Nat → List Int → Int → Option (List Int)) (hL : ∀ k out i, L (k + 1) out i = cond (decide (i ≥ 0)) (cond (decide ((mu .i64 8 i) < 0)) none ((app out [cv .u8 (sr .i64 n (mu .i64 8 i))]).bind fun v => L k v (su .i64 i 1))) (some out)) :
    ∀ (j : Nat) (out : List Int), j ≤ 8 → out.length + j < 68719476700 → Y (fun k => L k out ((j : Int) - 1)) (out ++ beN n j) := by
  intro j
  induction j with
  | zero =>
    intro out _ _
    refine Y.step ?_
    simp only [hL]
    rw [show decide (((0 : Nat) : Int) - 1 ≥ 0) = false by simp]
    simp only [cond_false, beN, List.append_nil]
    exact Y.pure _
  | succ j ih =>
    intro out hj hl
    refine Y.step ?_
    simp only [hL]
    have e1 : ((j + 1 : Nat) : Int) - 1 = (j : Int) := by omega
    have e2 : mu .i64 8 (j : Int) = 8 * (j : Int) := mu_ok (by omega) (by omega)
    have e3 : su .i64 (j : Int) 1 = (j : Int) - 1 := su_ok (by omega) (by omega)
    rw [e1, show decide ((j : Int) ≥ 0) = true by simp, e2, show decide (8 * (j : Int) < 0) = false from decide_eq_false (by omega), app_ok (by simp; omega), e3]
    simp only [cond_true, cond_false, Option.bind_some]
    have := ih (out ++ [cv .u8 (sr .i64 n (8 * (j : Int)))]) (by omega) (by simp; omega)
    rw [List.append_assoc] at this
    exact this
def shaPad (b : List Int) : List Int := (b ++ [128]) ++ List.replicate (zs (b.length + 1)) 0 ++ beN (mu .i64 8 (len b)) 8
theorem iShaPad_Y {b : List Int} (h : b.length < 68719475000) : Y (fun k => iShaPad k b) (shaPad b) := by
  unfold iShaPad
  rw [icopyBytes_eq (by omega)]
  simp only [Option.bind_some]
  rw [app_ok (by simp; omega)]
  simp only [Option.bind_some]
  refine Y.bind (pad_loop (b := b) (fun k out => iShaPad_l0 k b out) (fun k out => rfl) _ (b ++ [128]) rfl (by simp [zs]; omega)) ?_
  have hz : zs (b ++ [128]).length < 64 := by unfold zs; omega
  refine Y.bind (be_loop (n := mu .i64 8 (len b)) (fun k out i => iShaPad_l2 k b out i) (fun k out i => rfl) 8 _ (by omega) (by simp; simp at hz; omega)) ?_
  unfold shaPad
  have e : (b ++ [128]).length = b.length + 1 := by simp
  rw [e]
  exact Y.pure _
theorem sShaPad_Y {b : List Int} (h : b.length < 68719475000) : Y (fun k => sShaPad k b) (shaPad b) := by
  unfold sShaPad
  rw [sl01Copy_eq (by omega)]
  simp only [Option.bind_some]
  rw [app_ok (by simp; omega)]
  simp only [Option.bind_some]
  refine Y.bind (pad_loop (b := b) (fun k out => sShaPad_l0 k b out) (fun k out => rfl) _ (b ++ [128]) rfl (by simp [zs]; omega)) ?_
  have hz : zs (b ++ [128]).length < 64 := by unfold zs; omega
  refine Y.bind (be_loop (n := mu .i64 8 (len b)) (fun k out i => sShaPad_l2 k out (mu .i64 8 (len b)) i) (fun k out i => rfl) 8 _ (by omega) (by simp; simp at hz; omega)) ?_
  unfold shaPad
  have e : (b ++ [128]).length = b.length + 1 := by simp
  rw [e]
  exact Y.pure _
theorem shaPad_len (b : List Int) : ∃ n, (shaPad b).length = 64 * n ∧ (shaPad b).length ≤ b.length + 73 := by
  have : (shaPad b).length = b.length + 1 + zs (b.length + 1) + 8 := by simp [shaPad, beN_length]; omega
  rw [this]
  unfold zs
  exact ⟨(b.length + 1 + (120 - (b.length + 1) % 64) % 64 + 8) / 64, by omega, by omega⟩
theorem shaPad_bytes {b : List Int} (h : Bytes b) : Bytes (shaPad b) := by
  refine Bytes.append (Bytes.append (Bytes.append h (Bytes.cons (by omega) (by omega) Bytes.nil)) (fun x hx => ?_)) (beN_bytes _ _)
  rw [List.eq_of_mem_replicate hx]
  omega
def shaN : Nat → List Int → List Int → List Int
  | 0, h, _ => h
  | n + 1, h, p => shaN n (shaBlock h (p.take 64)) (p.drop 64)
theorem Is8.shaN : ∀ {n : Nat} {h p : List Int}, Is8 h → Is8 (shaN n h p) := by
  intro n
  induction n with
  | zero => intro h p hh; exact hh
  | succ n ih => intro h p hh; exact ih (hh.block _)
def shaInit : List Int := [1779033703, 3144134277, 1013904242, 2773480762, 1359893119, 2600822924, 528734635, 1541459225]
theorem shaInit8 : Is8 shaInit := ⟨_, _, _, _, _, _, _, _, rfl, by unfold isW; omega, by unfold isW; omega, by unfold isW; omega, by unfold isW; omega, by unfold isW; omega, by unfold isW; omega, by unfold isW; omega, by unfold isW; omega⟩
theorem block_loop {p : List Int} (hp : Bytes p) (hl : p.length < 68719476736) (L : Nat → List Int → Int → Option (List Int)) (B : Nat → List Int → List Int → Option (List Int))
    (hB : ∀ h b, Is8 h → b.length = 64 → Bytes b → Y (fun k => B k h b) (shaBlock h b))
    (hL : ∀ k h i, L (k + 1) h i = cond (decide (i < len p)) ((sub p i (ad .i64 i 64)).bind fun _ => (B k h (cut p i (ad .i64 i 64))).bind fun v => L k v (ad .i64 i 64)) (some h)) :
    ∀ (n i : Nat) (h : List Int), i + 64 * n = p.length → Is8 h → Y (fun k => L k h (i : Int)) (shaN n h (p.drop i)) := by
  intro n
  induction n with
  | zero =>
    intro i h hi hh
    refine Y.step ?_
    simp only [hL]
    rw [show decide ((i : Int) < len p) = false by simp [len]; omega]
    simp only [cond_false]
    exact Y.pure _
  | succ n ih =>
    intro i h hi hh
    refine Y.step ?_
    have e1 : ad .i64 (i : Int) 64 = ((i + 64 : Nat) : Int) := by rw [ad_ok (by omega) (by omega)]; omega
    simp only [hL]
    rw [show decide ((i : Int) < len p) = true by simp [len]; omega, e1, sub_ok (by omega) (by omega) (by unfold len; omega)]
    simp only [cond_true, Option.bind_some]
    have e2 : cut p (i : Int) ((i + 64 : Nat) : Int) = (p.drop i).take 64 := by
      unfold cut
      simp only [Int.toNat_natCast]
      rw [List.drop_take]
      congr 1
      omega
    rw [e2]
    refine Y.bind (hB h _ hh (by simp; omega) ((hp.drop i).take 64)) ?_
    have := ih (i + 64) (shaBlock h ((p.drop i).take 64)) (by omega) (hh.block _)
    rw [show p.drop (i + 64) = (p.drop i).drop 64 by rw [List.drop_drop]] at this
    exact this
def wordB (x : Int) : List Int := [cv .u8 (sr .i64 x 24), cv .u8 (sr .i64 x 16), cv .u8 (sr .i64 x 8), cv .u8 x]
theorem out_loop {h : List Int} (hl : h.length < 100) (L : Nat → List Int → Int → Option (List Int))
    (hL : ∀ k out i, L (k + 1) out i = cond (decide (i < len h)) ((rd h i).bind fun _ => (rd h i).bind fun x => (app out (wordB x)).bind fun z => L k z (ad .i64 i 1)) (some out)) : Y (fun k => L k [] 0) (h.flatMap wordB) := by
  have := Y.loop (σ := List Int) (xs := h) (by omega) (fun k s i => L k s i) (fun s post => s.length + 4 * post.length < 1000) (fun s post => s ++ post.flatMap wordB) (fun s _ => ?_) (fun s x post i hi h0 h1 hrd had ih => ?_) [] (by simp; omega)
  · simpa using this
  · simp only [hL]
    rw [show decide (len h < len h) = false by simp]
    simp only [cond_false, List.flatMap_nil, List.append_nil]
    exact Y.pure _
  · simp only [hL]
    simp only [List.length_cons] at hi
    rw [show decide (i < len h) = true by simpa using h1, hrd, had]
    simp only [cond_true, Option.bind_some]
    rw [app_ok (by simp [wordB]; omega)]
    simp only [Option.bind_some]
    have := ih (s ++ wordB x) (by simp [wordB]; omega)
    rw [List.append_assoc] at this
    exact this
/-- The hash of bytes. -/
def sha (b : List Int) : List Int := (shaN ((shaPad b).length / 64) shaInit (shaPad b)).flatMap wordB
theorem wordB_bytes (x : Int) : Bytes (wordB x) := Bytes.cons (by rw [cv_u8]; omega) (by rw [cv_u8]; omega) (Bytes.cons (by rw [cv_u8]; omega) (by rw [cv_u8]; omega) (Bytes.cons (by rw [cv_u8]; omega) (by rw [cv_u8]; omega) (Bytes.cons (by rw [cv_u8]; omega) (by rw [cv_u8]; omega) Bytes.nil)))
theorem sha_length (b : List Int) : (sha b).length = 32 := by
  have h8 := (Is8.shaN (n := (shaPad b).length / 64) (p := shaPad b) shaInit8).len
  unfold sha
  rw [List.length_flatMap]
  have : (shaN ((shaPad b).length / 64) shaInit (shaPad b)).map (fun a => (wordB a).length) = List.replicate 8 4 := by
    rw [List.eq_replicate_iff]
    refine ⟨by simp [h8], fun y hy => ?_⟩
    simp only [List.mem_map] at hy
    obtain ⟨x, _, rfl⟩ := hy
    rfl
  rw [this]
  rfl
theorem sha_bytes (b : List Int) : Bytes (sha b) := by
  intro x hx
  unfold sha at hx
  obtain ⟨y, _, hx⟩ := List.mem_flatMap.1 hx
  exact wordB_bytes y x hx
theorem iSha_Y {b : List Int} (hb : Bytes b) (h : b.length < 68719475000) : Y (fun k => iSha k b) (sha b) := by
  obtain ⟨n, hn, hle⟩ := shaPad_len b
  have h8 := Is8.shaN (n := n) (p := shaPad b) shaInit8
  unfold iSha
  rw [show iShaInit = some shaInit from rfl]
  simp only [Option.bind_some]
  refine Y.bind (iShaPad_Y h) ?_
  refine Y.bind (block_loop (shaPad_bytes hb) (by omega) (fun k h i => iSha_l0 k h (shaPad b) i) iShaBlock (fun h b h1 h2 h3 => iShaBlock_Y h1 h2 h3) (fun k h i => rfl) n 0 shaInit (by omega) shaInit8) ?_
  simp only [List.drop_zero]
  refine Y.bind (out_loop (h := shaN n shaInit (shaPad b)) (by rw [h8.len]; omega) (fun k out i => iSha_l2 k out (shaN n shaInit (shaPad b)) (len (shaN n shaInit (shaPad b))) i) (fun k out i => rfl)) ?_
  unfold sha
  rw [show (shaPad b).length / 64 = n by omega]
  exact Y.pure _
theorem sSha_Y {b : List Int} (hb : Bytes b) (h : b.length < 68719475000) : Y (fun k => sSha k b) (sha b) := by
  obtain ⟨n, hn, hle⟩ := shaPad_len b
  have h8 := Is8.shaN (n := n) (p := shaPad b) shaInit8
  unfold sSha
  rw [show sShaInit = some shaInit from rfl]
  simp only [Option.bind_some]
  refine Y.bind (sShaPad_Y h) ?_
  refine Y.bind (block_loop (shaPad_bytes hb) (by omega) (fun k h i => sSha_l0 k h (shaPad b) i) sShaBlock (fun h b h1 h2 h3 => sShaBlock_Y h1 h2 h3) (fun k h i => rfl) n 0 shaInit (by omega) shaInit8) ?_
  simp only [List.drop_zero]
  refine Y.bind (out_loop (h := shaN n shaInit (shaPad b)) (by rw [h8.len]; omega) (fun k out i => sSha_l2 k out (shaN n shaInit (shaPad b)) (len (shaN n shaInit (shaPad b))) i) (fun k out i => rfl)) ?_
  unfold sha
  rw [show (shaPad b).length / 64 = n by omega]
  exact Y.pure _
end Go.Ev.G
/- Tags, tree hashes. -/
namespace Go.Ev.G
open Go.Ev
theorem xo_u8 (a b : Int) : 0 ≤ xo .u8 a b ∧ xo .u8 a b ≤ 255 := by
  unfold xo
  rw [wrap_u8_mod]
  omega
def masked (b : List Int) (x : Int) : List Int := b.map fun c => xo .u8 c x
theorem masked_bytes (b : List Int) (x : Int) : Bytes (masked b x) := by
  intro y hy
  simp only [masked, List.mem_map] at hy
  obtain ⟨c, _, rfl⟩ := hy
  exact xo_u8 c x
def macKey (key : List Int) : List Int := let k := if key.length > 64 then sha key else key; k ++ List.replicate (64 - k.length) 0
theorem zeros_bytes (n : Nat) : Bytes (List.replicate n 0) := fun x hx => by rw [List.eq_of_mem_replicate hx]; omega
theorem macKey_bytes {key : List Int} (h : Bytes key) : Bytes (macKey key) := by
  unfold macKey
  refine Bytes.append ?_ (zeros_bytes _)
  split
  · exact sha_bytes _
  · exact h
theorem macKey_length (key : List Int) : (macKey key).length = 64 := by
  unfold macKey
  simp only [List.length_append, List.length_replicate]
  split
  · rw [sha_length]
  · omega
def mac (key b : List Int) : List Int := sha (masked (macKey key) 92 ++ sha (masked (macKey key) 54 ++ b))
theorem mac_length (key b : List Int) : (mac key b).length = 32 := sha_length _
theorem mac_bytes (key b : List Int) : Bytes (mac key b) := sha_bytes _
theorem iMacKey_Y {key : List Int} (hk : Bytes key) (h : key.length < 68719475000) : Y (fun k => iMacKey k key) (macKey key) := by
  unfold iMacKey macKey
  have e : ∀ x : List Int, x.length ≤ 64 → cpy (List.replicate 64 0) x = x ++ List.replicate (64 - x.length) 0 := by
    intro x hx
    unfold cpy
    rw [List.length_replicate, List.take_of_length_le hx, List.drop_replicate]
  by_cases hl : key.length > 64
  · rw [show decide (len key > 64) = true from decide_eq_true (by unfold len; omega)]
    simp only [cond_true, if_pos hl]
    refine Y.bind (iSha_Y hk h) ?_
    rw [mk_ok (by omega) (by omega)]
    simp only [Option.bind_some]
    rw [show (64 : Int).toNat = 64 from rfl, e _ (by rw [sha_length]; omega)]
    exact Y.pure _
  · rw [show decide (len key > 64) = false from decide_eq_false (by unfold len; omega)]
    simp only [cond_false, if_neg hl]
    rw [mk_ok (by omega) (by omega)]
    simp only [Option.bind_some]
    rw [show (64 : Int).toNat = 64 from rfl, e _ (by omega)]
    exact Y.pure _
theorem sMacKey_loop : ∀ (z : Nat) (out : List Int), 64 - out.length = z → out.length ≤ 64 → Y (fun k => sMacKey_l0 k out) (out ++ List.replicate z 0) := by
  intro z
  induction z with
  | zero =>
    intro out hz hl
    refine Y.step ?_
    simp only [sMacKey_l0]
    rw [show decide (len out < 64) = false from decide_eq_false (by unfold len; omega)]
    simp only [cond_false, List.replicate_zero, List.append_nil]
    exact Y.pure _
  | succ z ih =>
    intro out hz hl
    refine Y.step ?_
    simp only [sMacKey_l0]
    rw [show decide (len out < 64) = true from decide_eq_true (by unfold len; omega), app_ok (by simp; omega)]
    simp only [cond_true, Option.bind_some]
    have := ih (out ++ [0]) (by simp; omega) (by simp; omega)
    rw [List.append_assoc] at this
    exact this
theorem sMacKey_Y {key : List Int} (hk : Bytes key) (h : key.length < 68719475000) : Y (fun k => sMacKey k key) (macKey key) := by
  unfold sMacKey macKey
  rw [sl01Copy_eq (by omega)]
  simp only [Option.bind_some]
  by_cases hl : key.length > 64
  · rw [show decide (len key > 64) = true from decide_eq_true (by unfold len; omega)]
    simp only [cond_true, if_pos hl]
    refine Y.bind (sSha_Y hk h) ?_
    refine Y.bind (sMacKey_loop _ (sha key) rfl (by rw [sha_length]; omega)) ?_
    exact Y.pure _
  · rw [show decide (len key > 64) = false from decide_eq_false (by unfold len; omega)]
    simp only [cond_false, if_neg hl]
    refine Y.bind (sMacKey_loop _ key rfl (by omega)) ?_
    exact Y.pure _
theorem imasked_Y {b : List Int} {x : Int} (h : b.length < 68719476736) : Y (fun k => imasked k b x) (masked b x) := by
  unfold imasked
  have := Y.loop (σ := List Int) (xs := b) (by omega) (fun k s i => imasked_l0 k x s b (len b) i) (fun s post => s.length + post.length < 68719476736) (fun s post => s ++ masked post x) (fun s _ => ?_) (fun s y post i hi h0 h1 hrd had ih => ?_) [] (by simpa using h)
  · exact Y.bind this (Y.pure _)
  · simp only [imasked_l0]
    rw [show decide (len b < len b) = false by simp]
    simp only [cond_false, masked, List.map_nil, List.append_nil]
    exact Y.pure _
  · simp only [imasked_l0]
    simp only [List.length_cons] at hi
    rw [show decide (i < len b) = true by simpa using h1, hrd, had]
    simp only [cond_true, Option.bind_some]
    rw [app_ok (by simp; omega)]
    simp only [Option.bind_some]
    have := ih (s ++ [xo .u8 y x]) (by simp; omega)
    rw [List.append_assoc] at this
    exact this
theorem iMac_Y {key b : List Int} (hk : Bytes key) (hb : Bytes b) (h1 : key.length < 68719475000) (h2 : b.length < 68719474000) : Y (fun k => iMac k key b) (mac key b) := by
  unfold iMac
  have hl : ∀ x, (masked (macKey key) x).length = 64 := fun x => by unfold masked; rw [List.length_map, macKey_length]
  refine Y.bind (iMacKey_Y hk h1) ?_
  refine Y.bind (imasked_Y (by rw [macKey_length]; omega)) ?_
  refine Y.bind (imasked_Y (by rw [macKey_length]; omega)) ?_
  rw [app_ok (by rw [hl]; omega)]
  simp only [Option.bind_some]
  refine Y.bind (iSha_Y (Bytes.append (masked_bytes _ _) hb) (by rw [List.length_append, hl]; omega)) ?_
  rw [app_ok (by rw [hl, sha_length]; omega)]
  simp only [Option.bind_some]
  refine Y.bind (iSha_Y (Bytes.append (masked_bytes _ _) (sha_bytes _)) (by rw [List.length_append, hl, sha_length]; omega)) ?_
  exact Y.pure _
theorem sMac_Y {key b : List Int} (hk : Bytes key) (hb : Bytes b) (h1 : key.length < 68719475000) (h2 : b.length < 68719474000) : Y (fun k => sMac k key b) (mac key b) := by
  unfold sMac
  have hl : ∀ x, (masked (macKey key) x).length = 64 := fun x => by unfold masked; rw [List.length_map, macKey_length]
  refine Y.bind (sMacKey_Y hk h1) ?_
  have := Y.loop (σ := List Int × List Int) (xs := macKey key) (by rw [macKey_length]; omega) (fun k s i => sMac_l0 k b s.1 s.2 (macKey key) (len (macKey key)) i) (fun s post => s.1.length + post.length ≤ 64 ∧ s.2.length + post.length ≤ 64) (fun s post => (b, s.1 ++ masked post 54, s.2 ++ masked post 92))
    (fun s _ => ?_) (fun s y post i hi h0 h1 hrd had ih => ?_) ([], []) (by rw [macKey_length]; simp)
  · refine Y.bind this ?_
    simp only [List.nil_append]
    rw [app_ok (by rw [hl]; omega)]
    simp only [Option.bind_some]
    refine Y.bind (sSha_Y (Bytes.append (masked_bytes _ _) hb) (by rw [List.length_append, hl]; omega)) ?_
    rw [app_ok (by rw [hl, sha_length]; omega)]
    simp only [Option.bind_some]
    refine Y.bind (sSha_Y (Bytes.append (masked_bytes _ _) (sha_bytes _)) (by rw [List.length_append, hl, sha_length]; omega)) ?_
    exact Y.pure _
  · simp only [sMac_l0]
    rw [show decide (len (macKey key) < len (macKey key)) = false by simp]
    simp only [cond_false, masked, List.map_nil, List.append_nil]
    exact Y.pure _
  · simp only [sMac_l0]
    simp only [List.length_cons] at hi
    rw [show decide (i < len (macKey key)) = true by simpa using h1, hrd, had]
    simp only [cond_true, Option.bind_some]
    rw [app_ok (by simp; omega), app_ok (by simp; omega)]
    simp only [Option.bind_some]
    have := ih (s.1 ++ [xo .u8 y 54], s.2 ++ [xo .u8 y 92]) (by simp; omega)
    simp only [List.append_assoc] at this
    exact this
/-! ### Trees -/
def leafHash (x : List Int) : List Int := sha (0 :: x)
def nodeHash (a b : List Int) : List Int := sha (1 :: (a ++ b))
theorem iLeafHash_Y {x : List Int} (hx : Bytes x) (h : x.length < 68719474000) : Y (fun k => iLeafHash k x) (leafHash x) := by
  unfold iLeafHash
  rw [app_ok (by simp; omega)]
  simp only [Option.bind_some]
  exact Y.bind (iSha_Y (Bytes.cons (by omega) (by omega) hx) (by simp; omega)) (Y.pure _)
theorem iNodeHash_Y {a b : List Int} (ha : Bytes a) (hb : Bytes b) (h : a.length + b.length < 68719474000) : Y (fun k => iNodeHash k a b) (nodeHash a b) := by
  unfold iNodeHash
  rw [app_ok (by simp; omega)]
  simp only [Option.bind_some]
  rw [app_ok (by simp; omega)]
  simp only [Option.bind_some]
  exact Y.bind (iSha_Y (Bytes.cons (by omega) (by omega) (Bytes.append ha hb)) (by simp; omega)) (Y.pure _)
end Go.Ev.G
/- Bitmaps. -/
namespace Go.Ev.G
open Go.Ev
def bitAt (b : List Int) (i : Nat) : Bool := decide ((b.getD (i / 8) 0).toNat / 2 ^ (i % 8) % 2 = 1)
/-- The numbers of the bits that are set. -/
def bitsN (b : List Int) : List Nat := (List.range (8 * b.length)).filter (bitAt b)
def bitsL (b : List Int) : List Int := (bitsN b).map Int.ofNat
def bitsSize (n : Int) : Int := if n < 1 then 0 else (n - 1) / 8 + 1
def bitsOk (b : List Int) (n : Int) : Bool := within n 1 10 && ((len b == bitsSize n) && (bitsL b).all fun i => decide (i < n))
def bitsCount (b : List Int) : Int := ((bitsN b).length : Int)
theorem fdiv_pow {v : Int} {j : Nat} (h : 0 ≤ v) : v.fdiv (2 ^ j) = ((v.toNat / 2 ^ j : Nat) : Int) := by
  obtain ⟨m, rfl⟩ := Int.eq_ofNat_of_zero_le h
  rw [Int.fdiv_eq_ediv_of_nonneg _ (Int.le_of_lt (Int.pow_pos (by omega)))]
  simp
theorem an_u8_one {m : Nat} (h : m < 256) : an .u8 (m : Int) 1 = ((m % 2 : Nat) : Int) := by
  unfold an
  have e : (BitVec.ofInt 8 (m : Int) &&& BitVec.ofInt 8 1).toNat = m % 2 := by
    rw [BitVec.toNat_and]
    have e1 : (BitVec.ofInt 8 (m : Int)).toNat = m := by simp; omega
    have e2 : (BitVec.ofInt 8 1).toNat = 1 := by decide
    rw [e1, e2, Nat.and_one_is_mod]
  show IntKind.wrap .u8 (((BitVec.ofInt 8 (m : Int) &&& BitVec.ofInt 8 1).toNat : Nat) : Int) = _
  rw [e]
  exact wrap_u8 (by omega) (by omega)
theorem beq_one (m : Nat) : (((m : Nat) : Int) == 1) = decide (m = 1) := by rw [Bool.eq_iff_iff]; simp; omega
theorem beq_one' (m : Nat) : ((m : Int) % 2 == 1) = decide (m % 2 = 1) := by rw [Bool.eq_iff_iff]; simp; omega
theorem div8 {i : Nat} : qu .i64 (i : Int) 8 = ((i / 8 : Nat) : Int) ∨ 9223372036854775807 < i := by
  by_cases h : i ≤ 9223372036854775807
  · left; rw [qu_ok (by omega) (by omega) (by omega)]; omega
  · right; omega
theorem iBitsHas_eq {b : List Int} (hb : Bytes b) (hl : b.length < 1152921504606846975) {i : Nat} (hi : i < 8 * b.length) : iBitsHas b (i : Int) = some (bitAt b i) := by
  unfold iBitsHas
  have e1 : mu .i64 8 (len b) = 8 * (b.length : Int) := by unfold len; exact mu_ok (by omega) (by omega)
  have e2 : su .i64 (8 * (b.length : Int)) 1 = 8 * (b.length : Int) - 1 := su_ok (by omega) (by omega)
  have e3 : within (i : Int) 0 (8 * (b.length : Int) - 1) = true := within_iff.2 ⟨by omega, by omega⟩
  have e4 : qu .i64 (i : Int) 8 = ((i / 8 : Nat) : Int) := div8.resolve_right (by omega)
  have e5 : re (i : Int) 8 = ((i % 8 : Nat) : Int) := by rw [re_ok (by omega)]; omega
  rw [iwithin_eq, e1, e2, e3, e4, e5, rdD 0 (by omega) (by unfold len; omega)]
  simp only [Option.bind_some, cond_true, Int.toNat_natCast]
  rw [show decide (((i % 8 : Nat) : Int) < 0) = false from decide_eq_false (by omega)]
  simp only [cond_false]
  have hv := hb.get (i / 8)
  have e6 : sr .u8 (b.getD (i / 8) 0) ((i % 8 : Nat) : Int) = (((b.getD (i / 8) 0).toNat / 2 ^ (i % 8) : Nat) : Int) := by
    unfold sr
    rw [show min ((i % 8 : Nat) : Int).toNat IntKind.u8.bits = i % 8 by simp [IntKind.bits]; omega]
    exact fdiv_pow hv.1
  have e7 : (b.getD (i / 8) 0).toNat / 2 ^ (i % 8) < 256 := Nat.lt_of_le_of_lt (Nat.div_le_self _ _) (by omega)
  rw [e6, an_u8_one e7, beq_one]
  rfl
theorem sBitsHas_eq {b : List Int} (hb : Bytes b) (hl : b.length < 1152921504606846975) {i : Nat} (hi : i < 8 * b.length) : sBitsHas b (i : Int) = some (bitAt b i) := by
  unfold sBitsHas
  have e4 : qu .i64 (i : Int) 8 = ((i / 8 : Nat) : Int) := div8.resolve_right (by omega)
  have e5 : re (i : Int) 8 = ((i % 8 : Nat) : Int) := by rw [re_ok (by omega)]; omega
  rw [show decide ((i : Int) ≥ 0) = true from decide_eq_true (by omega), e4, e5, show decide (((i / 8 : Nat) : Int) < len b) = true from decide_eq_true (by unfold len; omega), rdD 0 (by omega) (by unfold len; omega)]
  simp only [Option.bind_some, cond_true, Int.toNat_natCast]
  rw [show decide (((i % 8 : Nat) : Int) < 0) = false from decide_eq_false (by omega)]
  simp only [cond_false]
  have hv := hb.get (i / 8)
  have e6 : sr .i64 (cv .i64 (b.getD (i / 8) 0)) ((i % 8 : Nat) : Int) = (((b.getD (i / 8) 0).toNat / 2 ^ (i % 8) : Nat) : Int) := by
    rw [cv_i64 (by omega) (by omega)]
    unfold sr
    rw [show min ((i % 8 : Nat) : Int).toNat IntKind.i64.bits = i % 8 by simp [IntKind.bits]; omega]
    exact fdiv_pow hv.1
  rw [e6, re_ok (Int.natCast_nonneg _), beq_one']
  rfl
theorem bits_loop {b : List Int} (hl : b.length < 1000000000) (has : Int → Option Bool) (hh : ∀ i : Nat, i < 8 * b.length → has (i : Int) = some (bitAt b i)) (L : Nat → List Int → Int → Option (List Int))
    (hL : ∀ k out i, L (k + 1) out i = cond (decide (i < mu .i64 8 (len b))) ((has i).bind fun v => cond v ((app out [i]).bind fun z => L k z (ad .i64 i 1)) (L k out (ad .i64 i 1))) (some out)) :
    ∀ (n i : Nat) (out : List Int), i + n = 8 * b.length → out.length ≤ i → Y (fun k => L k out (i : Int)) (out ++ ((List.range' i n).filter (bitAt b)).map Int.ofNat) := by
  have e1 : mu .i64 8 (len b) = 8 * (b.length : Int) := by unfold len; exact mu_ok (by omega) (by omega)
  intro n
  induction n with
  | zero =>
    intro i out hi ho
    refine Y.step ?_
    simp only [hL, e1]
    rw [show decide ((i : Int) < 8 * (b.length : Int)) = false from decide_eq_false (by omega)]
    simp only [cond_false, List.range'_zero, List.filter_nil, List.map_nil, List.append_nil]
    exact Y.pure _
  | succ n ih =>
    intro i out hi ho
    refine Y.step ?_
    simp only [hL, e1]
    rw [show decide ((i : Int) < 8 * (b.length : Int)) = true from decide_eq_true (by omega), hh i (by omega), nat_ad i (by omega), List.range'_succ]
    simp only [cond_true, Option.bind_some]
    cases hv : bitAt b i with
    | true =>
      simp only [cond_true, List.filter_cons, hv, if_true, List.map_cons]
      rw [app_ok (by simp; omega)]
      simp only [Option.bind_some]
      have := ih (i + 1) (out ++ [(i : Int)]) (by omega) (by simp; omega)
      rw [List.append_assoc] at this
      exact this
    | false =>
      simp only [cond_false, List.filter_cons, hv, Bool.false_eq_true, if_false]
      exact ih (i + 1) out (by omega) (by omega)
theorem iBitsList_Y {b : List Int} (hb : Bytes b) (hl : b.length < 1000000000) : Y (fun k => iBitsList k b) (bitsL b) := by
  unfold iBitsList
  refine Y.bind (bits_loop hl (iBitsHas b) (fun i hi => iBitsHas_eq hb (by omega) hi) (fun k out i => iBitsList_l0 k b out (mu .i64 8 (len b)) i) (fun k out i => rfl) (8 * b.length) 0 [] (by omega) (by simp)) ?_
  rw [← List.range_eq_range']
  exact Y.pure _
theorem sBitsList_Y {b : List Int} (hb : Bytes b) (hl : b.length < 1000000000) : Y (fun k => sBitsList k b) (bitsL b) := by
  unfold sBitsList
  refine Y.bind (bits_loop hl (sBitsHas b) (fun i hi => sBitsHas_eq hb (by omega) hi) (fun k out i => sBitsList_l0 k b out i) (fun k out i => rfl) (8 * b.length) 0 [] (by omega) (by simp)) ?_
  rw [← List.range_eq_range']
  exact Y.pure _
theorem bitsN_lt {b : List Int} : ∀ i ∈ bitsN b, i < 8 * b.length := by
  intro i hi
  simp only [bitsN, List.mem_filter, List.mem_range] at hi
  exact hi.1
theorem bitsN_len (b : List Int) : (bitsN b).length ≤ 8 * b.length := by
  have := List.length_filter_le (bitAt b) (List.range (8 * b.length))
  simpa [bitsN] using this
theorem bitsL_len (b : List Int) : (bitsL b).length = (bitsN b).length := by simp [bitsL]
theorem bitsL_mem {b : List Int} {i : Int} (h : i ∈ bitsL b) : 0 ≤ i ∧ i < 8 * (b.length : Int) := by
  simp only [bitsL, List.mem_map] at h
  obtain ⟨j, hj, rfl⟩ := h
  have := bitsN_lt j hj
  show (0 : Int) ≤ (j : Int) ∧ (j : Int) < _
  omega
theorem bitsSize_i {n : Int} (h : n ≤ 1000000) : iBitsSize n = some (bitsSize n) := by
  unfold iBitsSize bitsSize
  by_cases hn : n < 1
  · rw [show decide (n < 1) = true from decide_eq_true hn, if_pos hn]; rfl
  · rw [show decide (n < 1) = false from decide_eq_false hn, if_neg hn]
    simp only [cond_false]
    rw [su_ok (by omega) (by omega), qu_ok (by omega) (by omega) (by omega), ad_ok (by omega) (by omega)]
theorem bitsSize_s {n : Int} (h : n ≤ 1000000) : sBitsSize n = some (bitsSize n) := bitsSize_i h
theorem bitsSize_small {n : Int} (h : within n 1 10 = true) : 1 ≤ bitsSize n ∧ bitsSize n ≤ 2 := by
  rw [within_iff] at h
  unfold bitsSize
  rw [if_neg (by omega)]
  omega
theorem iBitsOk_Y {b : List Int} {n : Int} (hb : Bytes b) : Y (fun k => iBitsOk k b n) (bitsOk b n) := by
  unfold iBitsOk bitsOk
  rw [iwithin_eq]
  simp only [Option.bind_some]
  cases hw : within n 1 10 with
  | false => exact Y.pure _
  | true =>
    have hs := bitsSize_small hw
    have hw' := within_iff.1 hw
    simp only [Bool.not_true, cond_false, Bool.true_and]
    rw [bitsSize_i (by omega)]
    simp only [Option.bind_some]
    cases hl : len b == bitsSize n with
    | false =>
      rw [show (len b != bitsSize n) = true by simp [bne, hl]]
      exact Y.pure _
    | true =>
      rw [show (len b != bitsSize n) = false by simp [bne, hl]]
      have hl' : len b = bitsSize n := by simpa using hl
      have hbl : b.length ≤ 2 := by unfold len at hl'; omega
      simp only [cond_false, Bool.true_and]
      refine Y.bind (iBitsList_Y hb (by omega)) ?_
      have hbn := bitsN_len b
      have hbe := bitsL_len b
      have := Y.loop (σ := Unit) (xs := bitsL b) (by omega) (fun k _ i => iBitsOk_l0 k n (bitsL b) (len (bitsL b)) i) (fun _ _ => True) (fun _ post => cond (post.all fun i => decide (i < n)) (Sum.inl ()) (Sum.inr false))
        (fun s _ => ?_) (fun s x post i _ h0 h1 hrd had ih => ?_) () trivial
      · refine Y.bind this ?_
        cases (bitsL b).all fun i => decide (i < n) <;> exact Y.pure _
      · simp only [iBitsOk_l0]
        rw [show decide (len (bitsL b) < len (bitsL b)) = false by simp]
        exact Y.pure _
      · simp only [iBitsOk_l0]
        rw [show decide (i < len (bitsL b)) = true by simpa using h1, hrd, had]
        simp only [cond_true, Option.bind_some, List.all_cons]
        by_cases hx : x < n
        · rw [show decide (x ≥ n) = false from decide_eq_false (by omega), show decide (x < n) = true from decide_eq_true hx]
          simp only [cond_false, Bool.true_and]
          exact ih () trivial
        · rw [show decide (x ≥ n) = true from decide_eq_true (by omega), show decide (x < n) = false from decide_eq_false hx]
          exact Y.pure _
theorem bitsN_sorted (b : List Int) : (bitsN b).Pairwise (· < ·) := List.Pairwise.filter _ List.pairwise_lt_range
theorem bitsL_sorted (b : List Int) : (bitsL b).Pairwise (· < ·) := by
  unfold bitsL
  rw [List.pairwise_map]
  exact (bitsN_sorted b).imp fun h => by show (Int.ofNat _) < Int.ofNat _; exact Int.ofNat_lt.2 h
theorem all_last {l : List Int} (hs : l.Pairwise (· < ·)) (n : Int) (h : l ≠ []) : (l.all fun i => decide (i < n)) = decide (l.getD (l.length - 1) 0 < n) := by
  obtain ⟨pre, x, rfl⟩ : ∃ pre x, l = pre ++ [x] := ⟨l.dropLast, l.getLast h, (List.dropLast_concat_getLast h).symm⟩
  rw [List.pairwise_append] at hs
  have e : (pre ++ [x]).getD ((pre ++ [x]).length - 1) 0 = x := by simp [List.getD]
  rw [e, Bool.eq_iff_iff]
  simp only [List.all_eq_true, decide_eq_true_eq, List.mem_append, List.mem_singleton]
  constructor
  · intro h; exact h x (.inr rfl)
  · rintro h i (hi | rfl)
    · have := hs.2.2 i hi x (by simp); omega
    · exact h
theorem sBitsOk_Y {b : List Int} {n : Int} (hb : Bytes b) : Y (fun k => sBitsOk k b n) (bitsOk b n) := by
  unfold sBitsOk bitsOk sl02Signers
  rw [sl01In_eq]
  simp only [Option.bind_some]
  cases hw : within n 1 10 with
  | false => exact Y.pure _
  | true =>
    have hs := bitsSize_small hw
    have hw' := within_iff.1 hw
    simp only [Bool.not_true, cond_false, Bool.true_and]
    rw [bitsSize_s (by omega)]
    simp only [Option.bind_some]
    cases hl : len b == bitsSize n with
    | false =>
      rw [show (len b != bitsSize n) = true by simp [bne, hl]]
      exact Y.pure _
    | true =>
      rw [show (len b != bitsSize n) = false by simp [bne, hl]]
      have hl' : len b = bitsSize n := by simpa using hl
      have hbl : b.length ≤ 2 := by unfold len at hl'; omega
      simp only [cond_false, Bool.true_and]
      refine Y.bind (sBitsList_Y hb (by omega)) ?_
      have hbn := bitsN_len b
      have hbe := bitsL_len b
      by_cases h0 : bitsL b = []
      · rw [h0]; exact Y.pure _
      · have hpos : 0 < (bitsL b).length := List.length_pos_iff.2 h0
        have e1 : su .i64 (len (bitsL b)) 1 = (((bitsL b).length - 1 : Nat) : Int) := by unfold len; rw [su_ok (by omega) (by omega)]; omega
        rw [show (len (bitsL b) == 0) = false by simp [len]; omega, e1, rdD 0 (by omega) (by unfold len; omega)]
        simp only [cond_false, Option.bind_some, Int.toNat_natCast]
        rw [all_last (bitsL_sorted b) n h0]
        exact Y.pure _
theorem sBitsCount_Y {b : List Int} (hb : Bytes b) (hl : b.length < 1000000000) : Y (fun k => sBitsCount k b) (bitsCount b) := by
  unfold sBitsCount
  refine Y.bind (sBitsList_Y hb hl) ?_
  unfold bitsCount
  rw [← bitsL_len]
  exact Y.pure _
/-! ### Counting by a table -/
def cnt (x : Nat) : Nat := ((List.range 8).filter fun j => decide (x / 2 ^ j % 2 = 1)).length
theorem ones_tbl : ∀ x : Nat, x < 256 → math_bits_OnesCount8 (x : Int) = some (cv .i64 (cnt x : Int)) := by decide +kernel
theorem cnt_le (x : Nat) : cnt x ≤ 8 := by
  have := List.length_filter_le (fun j => decide (x / 2 ^ j % 2 = 1)) (List.range 8)
  simpa [cnt] using this
theorem bitsN_cons (x : Int) (b : List Int) : bitsN (x :: b) = (List.range 8).filter (fun j => decide (x.toNat / 2 ^ j % 2 = 1)) ++ (bitsN b).map (· + 8) := by
  unfold bitsN
  have e1 : (List.range 8).filter (bitAt (x :: b)) = (List.range 8).filter (fun j => decide (x.toNat / 2 ^ j % 2 = 1)) := by
    apply List.filter_congr
    intro j hj
    simp only [List.mem_range] at hj
    unfold bitAt
    rw [show j / 8 = 0 by omega, show j % 8 = j by omega]
    rfl
  have e2 : ((List.range (8 * b.length)).map fun j => 8 + j).filter (bitAt (x :: b)) = ((List.range (8 * b.length)).filter (bitAt b)).map (· + 8) := by
    rw [List.filter_map]
    have : ∀ j, (bitAt (x :: b) ∘ fun j => 8 + j) j = bitAt b j := by
      intro j
      show bitAt (x :: b) (8 + j) = bitAt b j
      unfold bitAt
      rw [show (8 + j) / 8 = j / 8 + 1 by omega, show (8 + j) % 8 = j % 8 by omega]
      rfl
    rw [show (bitAt (x :: b) ∘ fun j => 8 + j) = bitAt b from funext this]
    congr 1
    funext j
    exact Nat.add_comm _ _
  rw [List.length_cons, show 8 * (b.length + 1) = 8 + 8 * b.length by omega, List.range_add, List.filter_append, e1, e2]
theorem bitsN_cons_len (x : Int) (b : List Int) : (bitsN (x :: b)).length = cnt x.toNat + (bitsN b).length := by
  rw [bitsN_cons, List.length_append, List.length_map]
  rfl
theorem iBitsCount_Y {b : List Int} (hb : Bytes b) (hl : b.length < 1000000000) : Y (fun k => iBitsCount k b) (bitsCount b) := by
  unfold iBitsCount
  have := Y.loop (σ := Nat) (xs := b) (by omega) (fun k s i => iBitsCount_l0 k (s : Int) b (len b) i) (fun s post => Bytes post ∧ s + 8 * post.length ≤ 8000000000) (fun s post => ((s + (bitsN post).length : Nat) : Int)) (fun s _ => ?_) (fun s x post i hi h0 h1 hrd had ih => ?_) 0 ⟨hb, by omega⟩
  · refine Y.bind this ?_
    unfold bitsCount
    rw [Nat.zero_add]
    exact Y.pure _
  · simp only [iBitsCount_l0]
    rw [show decide (len b < len b) = false by simp]
    exact Y.pure _
  · simp only [iBitsCount_l0]
    obtain ⟨hx, hn⟩ := hi
    have hxb := hx x (by simp)
    have hc := cnt_le x.toNat
    simp only [List.length_cons] at hn
    have e1 : math_bits_OnesCount8 x = some (cv .i64 (cnt x.toNat : Int)) := by
      have := ones_tbl x.toNat (by omega)
      rwa [show ((x.toNat : Nat) : Int) = x by omega] at this
    rw [show decide (i < len b) = true by simpa using h1, hrd, had]
    simp only [cond_true, Option.bind_some]
    rw [e1]
    simp only [Option.bind_some]
    rw [cv_i64 (by omega) (by omega), ad_ok (by omega) (by omega)]
    have := ih (s + cnt x.toNat) ⟨fun y hy => hx y (by simp [hy]), by omega⟩
    rw [bitsN_cons_len]
    rw [show s + (cnt x.toNat + (bitsN post).length) = s + cnt x.toNat + (bitsN post).length by omega]
    exact this
end Go.Ev.G
/- Limits, certificates, headers: which are right, and their bytes. -/
namespace Go.Ev.G
open Go.Ev
theorem Y.and {c : Bool} {f : Nat → Option Bool} {r : Bool} (h : c = true → Y f r) : Y (fun k => cond c (f k) (some false)) (c && r) := by
  cases c
  · exact Y.pure _
  · exact h rfl
theorem Y.andN {c : Bool} {f : Nat → Option Bool} {r : Bool} (h : c = true → Y f r) : Y (fun k => cond (!c) (some false) (f k)) (c && r) := by
  cases c
  · exact Y.pure _
  · exact h rfl
/-- A loop that stops at the first element that is not right. -/
theorem Y.all {α β : Type} {xs : List α} (hx : xs.length < 4611686018427387904) (p : α → Bool) (a b : β) (Q : α → Prop) (hQ : ∀ x ∈ xs, Q x) (L : Nat → Int → Option β) (B : Nat → α → Option Bool) (hB : ∀ x, Q x → Y (fun k => B k x) (p x))
    (hL : ∀ k i, L (k + 1) i = cond (decide (i < len xs)) ((rd xs i).bind fun x => (B k x).bind fun v => cond (!v) (some b) (L k (ad .i64 i 1))) (some a)) : Y (fun k => L k 0) (cond (xs.all p) a b) := by
  refine Y.loop (σ := Unit) hx (fun k _ i => L k i) (fun _ post => ∀ x ∈ post, Q x) (fun _ post => cond (post.all p) a b) (fun s _ => ?_) (fun s x post i hi h0 h1 hrd had ih => ?_) () hQ
  · simp only [hL]
    rw [show decide (len xs < len xs) = false by simp]
    exact Y.pure _
  · simp only [hL]
    rw [show decide (i < len xs) = true by simpa using h1, hrd, had]
    simp only [cond_true, Option.bind_some, List.all_cons]
    refine Y.bind (hB x (hi x (by simp))) ?_
    cases hp : p x with
    | false => exact Y.pure _
    | true => exact ih () (fun y hy => hi y (by simp [hy]))
def limitsOk (l : DLimits) : Bool := within l.1 1 10 && (within l.2.1 0 40 && (within l.2.2.1 0 8 && (within l.2.2.2.1 1 4000 && within l.2.2.2.2.1 3 5)))
theorem iLimitsOk_eq (l : DLimits) : iLimitsOk l = some (limitsOk l) := by
  unfold iLimitsOk limitsOk
  simp only [iwithin_eq, Option.bind_some]
  cases within l.1 1 10 <;> cases within l.2.1 0 40 <;> cases within l.2.2.1 0 8 <;> cases within l.2.2.2.1 1 4000 <;> rfl
theorem sLimitsOk_eq (l : DLimits) : sLimitsOk l = some (limitsOk l) := by
  unfold sLimitsOk limitsOk sl02Signers
  simp only [sl01In_eq, Option.bind_some]
  cases within l.1 1 10 <;> cases within l.2.1 0 40 <;> cases within l.2.2.1 0 8 <;> cases within l.2.2.2.1 1 4000 <;> rfl
theorem limitsOk_N {l : DLimits} (h : limitsOk l = true) : 1 ≤ l.1 ∧ l.1 ≤ 10 := by
  simp only [limitsOk, Bool.and_eq_true, within_iff] at h
  exact h.1
def hashB (x : List Int) : Bool := len x == 32
theorem hashB_iff {x : List Int} : hashB x = true ↔ x.length = 32 := by simp [hashB, len]; omega
theorem iareHashes_Y {l : List (List Int)} (h : l.length < 4611686018427387904) : Y (fun k => iareHashes k l) (l.all hashB) := by
  unfold iareHashes
  refine Y.bind (Y.all h hashB (Sum.inl ()) (Sum.inr false) (fun _ => True) (fun _ _ => trivial) (fun k i => iareHashes_l0 k l (len l) i) (fun _ x => some (hashB x)) (fun x _ => Y.pure _) (fun k i => ?_)) ?_
  · simp only [iareHashes_l0, hashB, Option.bind_some, bne]
  · cases l.all hashB <;> exact Y.pure _
theorem sl07Hash_eq (x : List Int) : sl07Hash x = some (hashB x) := rfl
theorem sl08Hashes_Y {l : List (List Int)} (h : l.length < 4611686018427387904) : Y (fun k => sl08Hashes k l) (l.all hashB) := by
  unfold sl08Hashes
  refine Y.bind (Y.all h hashB (Sum.inl ()) (Sum.inr false) (fun _ => True) (fun _ _ => trivial) (fun k i => sl08Hashes_l0 k l (len l) i) (fun _ x => some (hashB x)) (fun x _ => Y.pure _) (fun k i => ?_)) ?_
  · simp only [sl08Hashes_l0, sl07Hash_eq]
  · cases l.all hashB <;> exact Y.pure _
def qcOk (l : DLimits) (q : DQc) : Bool := limitsOk l && (isNum q.1 && (isNum q.2.1 && ([q.2.2.1].all hashB && (bitsOk q.2.2.2.1 l.1 && ((len q.2.2.2.2.1 == bitsCount q.2.2.2.1) && q.2.2.2.2.1.all hashB)))))
/-- A certificate whose lists fit. -/
def fitQc (q : DQc) : Prop := q.2.2.1.length < 1000000000 ∧ q.2.2.2.1.length < 1000000000 ∧ q.2.2.2.2.1.length < 1000000000 ∧ (∀ x ∈ q.2.2.2.2.1, x.length < 1000000000 ∧ Bytes x) ∧ Bytes q.2.2.1 ∧ Bytes q.2.2.2.1
theorem iQcOk_Y {l : DLimits} {q : DQc} (h : fitQc q) : Y (fun k => iQcOk k l q) (qcOk l q) := by
  obtain ⟨h1, h2, h3, h4, h5, h6⟩ := h
  unfold iQcOk qcOk
  simp only [iLimitsOk_eq, iisNum_eq, Option.bind_some]
  refine Y.and fun _ => Y.and fun _ => Y.and fun _ => Y.bind (iareHashes_Y (by simp)) (Y.and fun _ => Y.bind (iBitsOk_Y h6) (Y.and fun _ => Y.bind (iBitsCount_Y h6 h2) (Y.and fun _ => Y.bind (iareHashes_Y (by omega)) (Y.pure _))))
theorem sQcOk_Y {l : DLimits} {q : DQc} (h : fitQc q) : Y (fun k => sQcOk k l q) (qcOk l q) := by
  obtain ⟨h1, h2, h3, h4, h5, h6⟩ := h
  unfold sQcOk qcOk
  simp only [sLimitsOk_eq, sl01Num_eq, sl07Hash_eq, Option.bind_some, List.all_cons, List.all_nil, Bool.and_true]
  refine Y.and fun _ => Y.and fun _ => Y.and fun _ => Y.and fun _ => Y.bind (sBitsOk_Y h6) (Y.and fun _ => Y.bind (sBitsCount_Y h6 h2) (Y.and fun _ => Y.bind (sl08Hashes_Y (by omega)) (Y.pure _)))
def fits (h : DHead) : Bool := decide (h.2.2.2.2.2.1.1 < h.1) && ((h.2.2.2.2.2.1.2.1 == su .i64 h.2.1 1) && (h.2.2.2.2.2.1.2.2.1 == h.2.2.2.1))
theorem iHead_matches_eq (h : DHead) : iHead_matches h = some (fits h) := by
  unfold iHead_matches fits
  simp only [iSameBytes_eq, Option.bind_some]
  cases decide (h.2.2.2.2.2.1.1 < h.1) <;> cases (h.2.2.2.2.2.1.2.1 == su .i64 h.2.1 1) <;> rfl
theorem sl13Fits_eq (h : DHead) : sl13Fits h = some (fits h) := iHead_matches_eq h
def headOk (l : DLimits) (h : DHead) : Bool := qcOk l h.2.2.2.2.2.1 && (isNum h.1 && (within h.2.1 1 1152921504606846975 && (within h.2.2.1 0 (su .i64 l.1 1) && ([h.2.2.2.1, h.2.2.2.2.1].all hashB && fits h))))
def fitHead (h : DHead) : Prop := h.2.2.2.1.length < 1000000000 ∧ h.2.2.2.2.1.length < 1000000000 ∧ Bytes h.2.2.2.1 ∧ Bytes h.2.2.2.2.1 ∧ fitQc h.2.2.2.2.2.1
theorem iHeadOk_Y {l : DLimits} {h : DHead} (hf : fitHead h) : Y (fun k => iHeadOk k l h) (headOk l h) := by
  obtain ⟨h1, h2, h3, h4, h5⟩ := hf
  unfold iHeadOk headOk
  simp only [iwithin_eq, iisNum_eq, iHead_matches_eq, Option.bind_some]
  exact Y.bind (iQcOk_Y h5) (Y.and fun _ => Y.and fun _ => Y.and fun _ => Y.and fun _ => Y.bind (iareHashes_Y (by simp)) (Y.and fun _ => Y.pure _))
theorem sHeadOk_Y {l : DLimits} {h : DHead} (hf : fitHead h) : Y (fun k => sHeadOk k l h) (headOk l h) := by
  obtain ⟨h1, h2, h3, h4, h5⟩ := hf
  have key : Y (fun k => sHeadOk k l h) (limitsOk l && (isNum h.1 && (within h.2.1 1 1152921504606846975 && (within h.2.2.1 0 (su .i64 l.1 1) && (hashB h.2.2.2.1 && (hashB h.2.2.2.2.1 && (qcOk l h.2.2.2.2.2.1 && fits h))))))) := by
    unfold sHeadOk
    simp only [sl01In_eq, sl01Num_eq, sl13Fits_eq, sLimitsOk_eq, sl07Hash_eq, Option.bind_some]
    exact Y.and fun _ => Y.and fun _ => Y.and fun _ => Y.and fun _ => Y.and fun _ => Y.and fun _ => Y.bind (sQcOk_Y h5) (Y.and fun _ => Y.pure _)
  have e : headOk l h = (limitsOk l && (isNum h.1 && (within h.2.1 1 1152921504606846975 && (within h.2.2.1 0 (su .i64 l.1 1) && (hashB h.2.2.2.1 && (hashB h.2.2.2.2.1 && (qcOk l h.2.2.2.2.2.1 && fits h))))))) := by
    have hl : qcOk l h.2.2.2.2.2.1 = (limitsOk l && qcOk l h.2.2.2.2.2.1) := by unfold qcOk; cases limitsOk l <;> simp
    unfold headOk
    rw [hl]
    simp only [List.all_cons, List.all_nil, Bool.and_true]
    cases limitsOk l <;> cases qcOk l h.2.2.2.2.2.1 <;> cases isNum h.1 <;> cases within h.2.1 1 1152921504606846975 <;> cases within h.2.2.1 0 (su .i64 l.1 1) <;> cases hashB h.2.2.2.1 <;> cases hashB h.2.2.2.2.1 <;> rfl
  rw [e]
  exact key
/-! ### Bytes of certificates and headers -/
def numB (n : Int) : List Int := varB n.toNat
def qcB (q : DQc) : List Int := numB q.1 ++ (numB q.2.1 ++ (q.2.2.1 ++ (q.2.2.2.1 ++ q.2.2.2.2.1.flatten)))
def headB (h : DHead) : List Int := numB h.1 ++ (numB h.2.1 ++ (numB h.2.2.1 ++ (h.2.2.2.1 ++ (h.2.2.2.2.1 ++ qcB h.2.2.2.2.2.1))))
theorem numB_len {n : Int} (h : isNum n = true) : (numB n).length ≤ 9 := varB_le9 h
structure QcIs (l : DLimits) (q : DQc) : Prop where
  lim : limitsOk l = true
  view : isNum q.1 = true
  height : isNum q.2.1 = true
  block : q.2.2.1.length = 32
  bits : bitsOk q.2.2.2.1 l.1 = true
  tags : (q.2.2.2.2.1.length : Int) = bitsCount q.2.2.2.1
  each : ∀ x ∈ q.2.2.2.2.1, x.length = 32
theorem qcOk_iff {l : DLimits} {q : DQc} : qcOk l q = true ↔ QcIs l q := by
  simp only [qcOk, Bool.and_eq_true, List.all_cons, List.all_nil, Bool.and_true, hashB_iff, beq_iff_eq, List.all_eq_true]
  constructor
  · rintro ⟨a, b, c, d, e, f, g⟩; exact ⟨a, b, c, d, e, f, g⟩
  · rintro ⟨a, b, c, d, e, f, g⟩; exact ⟨a, b, c, d, e, f, g⟩
theorem bitsOk_len {b : List Int} {n : Int} (h : bitsOk b n = true) : b.length ≤ 2 ∧ (b.length : Int) = bitsSize n ∧ (∀ i ∈ bitsL b, i < n) ∧ 1 ≤ n ∧ n ≤ 10 := by
  simp only [bitsOk, Bool.and_eq_true, beq_iff_eq, List.all_eq_true, decide_eq_true_eq] at h
  have := bitsSize_small h.1
  unfold len at h
  exact ⟨by omega, h.2.1, h.2.2, within_iff.1 h.1⟩
theorem sorted_len : ∀ {l : List Nat} {a n : Nat}, l.Pairwise (· < ·) → (∀ x ∈ l, a ≤ x ∧ x < n) → l.length + a ≤ max n a := by
  intro l
  induction l with
  | nil => intro a n _ _; simp; omega
  | cons x l ih =>
    intro a n hp hx
    rw [List.pairwise_cons] at hp
    have h1 := hx x (by simp)
    have := ih (a := x + 1) (n := n) hp.2 (fun y hy => ⟨hp.1 y hy, (hx y (by simp [hy])).2⟩)
    simp only [List.length_cons]
    omega
theorem bitsOk_count {b : List Int} {n : Int} (h : bitsOk b n = true) : bitsCount b ≤ n := by
  obtain ⟨_, _, h3, h4, _⟩ := bitsOk_len h
  have := sorted_len (l := bitsN b) (a := 0) (n := n.toNat) (bitsN_sorted b) (fun x hx => ⟨by omega, by
    have := h3 (Int.ofNat x) (List.mem_map.2 ⟨x, hx, rfl⟩)
    change (x : Int) < n at this
    omega⟩)
  unfold bitsCount
  omega
theorem flatten_len32 : ∀ {t : List (List Int)}, (∀ x ∈ t, x.length = 32) → t.flatten.length = 32 * t.length := by
  intro t
  induction t with
  | nil => intro _; rfl
  | cons x t ih =>
    intro h
    rw [List.flatten_cons, List.length_append, h x (by simp), ih fun y hy => h y (by simp [hy])]
    simp only [List.length_cons]
    omega
theorem QcIs.tagsLen {l : DLimits} {q : DQc} (h : QcIs l q) : q.2.2.2.2.1.length ≤ 10 := by
  have h1 := bitsOk_count h.bits
  have h2 := bitsOk_len h.bits
  have h3 := h.tags
  omega
theorem qcB_len {l : DLimits} {q : DQc} (h : QcIs l q) : (qcB q).length ≤ 400 := by
  have h1 := h.tagsLen
  have h2 := flatten_len32 h.each
  have h3 := (bitsOk_len h.bits).1
  have h4 := numB_len h.view
  have h5 := numB_len h.height
  have h6 := h.block
  simp only [qcB, List.length_append]
  omega
theorem qcB_bytes {q : DQc} (h : fitQc q) : Bytes (qcB q) := by
  obtain ⟨h1, h2, h3, h4, h5, h6⟩ := h
  refine Bytes.append (varB_bytes _) (Bytes.append (varB_bytes _) (Bytes.append h5 (Bytes.append h6 fun x hx => ?_)))
  obtain ⟨y, hy, hx⟩ := List.mem_flatten.1 hx
  exact (h4 y hy).2 x hx
theorem iwriter_qc_Y {l : DLimits} {q : DQc} {b : List Int} (h : QcIs l q) (hb : b.length < 10000000) : Y (fun k => iwriter_qc k (b, ()) q) (b ++ qcB q, ()) := by
  have h1 := h.tagsLen
  have h2 := flatten_len32 h.each
  have h3 := (bitsOk_len h.bits).1
  have h4 := numB_len h.view
  have h5 := numB_len h.height
  have h6 := h.block
  unfold iwriter_qc
  refine Y.bind (iwriter_num_Y (by omega) h.view) (Y.bind (iwriter_num_Y (by simp; unfold numB at h4; omega) h.height) ?_)
  unfold numB at h4 h5
  rw [iwriter_raw_eq (by simp; omega)]
  simp only [Option.bind_some]
  rw [iwriter_raw_eq (by simp; omega)]
  simp only [Option.bind_some]
  have := Y.loop (σ := List Int) (xs := q.2.2.2.2.1) (by omega) (fun k s i => iwriter_qc_l0 k (s, ()) q.2.2.2.2.1 (len q.2.2.2.2.1) i) (fun s post => s.length + 32 * post.length < 20000000 ∧ ∀ x ∈ post, x.length = 32) (fun s post => (s ++ post.flatten, ())) (fun s _ => ?_) (fun s x post i hi h0 h1' hrd had ih => ?_)
    (b ++ varB q.1.toNat ++ varB q.2.1.toNat ++ q.2.2.1 ++ q.2.2.2.1) ⟨by simp; omega, h.each⟩
  · refine Y.bind this ?_
    unfold qcB numB
    simp only [List.append_assoc]
    exact Y.pure _
  · simp only [iwriter_qc_l0]
    rw [show decide (len q.2.2.2.2.1 < len q.2.2.2.2.1) = false by simp]
    simp only [cond_false, List.flatten_nil, List.append_nil]
    exact Y.pure _
  · simp only [iwriter_qc_l0]
    have hx := hi.2 x (by simp)
    simp only [List.length_cons] at hi
    rw [show decide (i < len q.2.2.2.2.1) = true by simpa using h1', hrd, had]
    simp only [cond_true, Option.bind_some]
    rw [iwriter_raw_eq (by omega)]
    simp only [Option.bind_some]
    have := ih (s ++ x) ⟨by simp; omega, fun y hy => hi.2 y (by simp [hy])⟩
    rw [List.append_assoc] at this
    exact this
structure HeadIs (l : DLimits) (h : DHead) : Prop where
  qc : QcIs l h.2.2.2.2.2.1
  view : isNum h.1 = true
  height : 1 ≤ h.2.1 ∧ h.2.1 ≤ 1152921504606846975
  prop : 0 ≤ h.2.2.1 ∧ h.2.2.1 < l.1
  parent : h.2.2.2.1.length = 32
  root : h.2.2.2.2.1.length = 32
  qview : h.2.2.2.2.2.1.1 < h.1
  qheight : h.2.2.2.2.2.1.2.1 = h.2.1 - 1
  qblock : h.2.2.2.2.2.1.2.2.1 = h.2.2.2.1
theorem headOk_iff {l : DLimits} {h : DHead} : headOk l h = true ↔ HeadIs l h := by
  simp only [headOk, fits, Bool.and_eq_true, List.all_cons, List.all_nil, Bool.and_true, hashB_iff, beq_iff_eq, within_iff, decide_eq_true_eq, qcOk_iff]
  constructor
  · rintro ⟨a, b, c, d, ⟨e, f⟩, g, i, j⟩
    have hn := limitsOk_N a.lim
    rw [su_ok (by omega) (by omega)] at d i
    exact ⟨a, b, c, ⟨d.1, by omega⟩, e, f, g, i, j⟩
  · rintro ⟨a, b, c, d, e, f, g, i, j⟩
    have hn := limitsOk_N a.lim
    rw [su_ok (by omega) (by omega), su_ok (by omega) (by omega)]
    exact ⟨a, b, c, ⟨d.1, by omega⟩, ⟨e, f⟩, g, i, j⟩
theorem HeadIs.propNum {l : DLimits} {h : DHead} (hh : HeadIs l h) : isNum h.2.2.1 = true := by
  have := limitsOk_N hh.qc.lim
  have := hh.prop
  rw [isNum_iff]
  omega
theorem HeadIs.heightNum {l : DLimits} {h : DHead} (hh : HeadIs l h) : isNum h.2.1 = true := by
  have := hh.height
  rw [isNum_iff]
  omega
theorem headB_len {l : DLimits} {h : DHead} (hh : HeadIs l h) : (headB h).length ≤ 500 := by
  have h1 := numB_len hh.view
  have h2 := numB_len hh.heightNum
  have h3 := numB_len hh.propNum
  have h4 := hh.parent
  have h5 := hh.root
  have h6 := qcB_len hh.qc
  simp only [headB, List.length_append]
  omega
theorem headB_bytes {h : DHead} (hf : fitHead h) : Bytes (headB h) := by
  obtain ⟨h1, h2, h3, h4, h5⟩ := hf
  exact Bytes.append (varB_bytes _) (Bytes.append (varB_bytes _) (Bytes.append (varB_bytes _) (Bytes.append h3 (Bytes.append h4 (qcB_bytes h5)))))
theorem iwriter_head_Y {l : DLimits} {h : DHead} {b : List Int} (hh : HeadIs l h) (hb : b.length < 9000000) : Y (fun k => iwriter_head k (b, ()) h) (b ++ headB h, ()) := by
  have h1 := numB_len hh.view
  have h2 := numB_len hh.heightNum
  have h3 := numB_len hh.propNum
  have h4 := hh.parent
  have h5 := hh.root
  unfold numB at h1 h2 h3
  unfold iwriter_head
  refine Y.bind (iwriter_num_Y (by omega) hh.view) (Y.bind (iwriter_num_Y (by simp; omega) hh.heightNum) (Y.bind (iwriter_num_Y (by simp; omega) hh.propNum) ?_))
  rw [iwriter_raw_eq (by simp; omega)]
  simp only [Option.bind_some]
  rw [iwriter_raw_eq (by simp; omega)]
  simp only [Option.bind_some]
  refine Y.bind (iwriter_qc_Y hh.qc (by simp; omega)) ?_
  unfold headB numB
  simp only [List.append_assoc]
  exact Y.pure _
def putHead (l : DLimits) (b : List Int) (h : DHead) : List Int × Bool := cond (headOk l h) (b ++ headB h, true) ([], false)
theorem iPutHead_Y {l : DLimits} {h : DHead} {b : List Int} (hf : fitHead h) (hb : b.length < 8000000) : Y (fun k => iPutHead k l b h) (putHead l b h) := by
  unfold iPutHead putHead
  refine Y.bind (iHeadOk_Y hf) ?_
  cases ho : headOk l h with
  | false => exact Y.pure _
  | true =>
    simp only [Bool.not_true, cond_false, cond_true]
    rw [icopyBytes_eq (by omega)]
    simp only [Option.bind_some]
    exact Y.bind (iwriter_head_Y (headOk_iff.1 ho) (by omega)) (Y.pure _)
theorem sPutQc_Y {l : DLimits} {q : DQc} {b : List Int} (hf : fitQc q) (h : QcIs l q) (hb : b.length < 10000000) : Y (fun k => sPutQc k l b q) (b ++ qcB q, true) := by
  have h1 := h.tagsLen
  have h2 := flatten_len32 h.each
  have h3 := (bitsOk_len h.bits).1
  have h4 := numB_len h.view
  have h5 := numB_len h.height
  have h6 := h.block
  unfold numB at h4 h5
  unfold sPutQc
  refine Y.bind (sQcOk_Y hf) ?_
  rw [qcOk_iff.2 h]
  simp only [Bool.not_true, cond_false]
  refine Y.bind (sl11Num_Y (by omega) h.view) (Y.bind (sl11Num_Y (by simp; omega) h.height) ?_)
  rw [app_ok (by simp; omega)]
  simp only [Option.bind_some]
  rw [app_ok (by simp; omega)]
  simp only [Option.bind_some]
  have := Y.loop (σ := List Int) (xs := q.2.2.2.2.1) (by omega) (fun k s i => sPutQc_l0 k s q.2.2.2.2.1 (len q.2.2.2.2.1) i) (fun s post => s.length + 32 * post.length < 20000000 ∧ ∀ x ∈ post, x.length = 32) (fun s post => s ++ post.flatten) (fun s _ => ?_) (fun s x post i hi h0 h1' hrd had ih => ?_)
    (b ++ varB q.1.toNat ++ varB q.2.1.toNat ++ q.2.2.1 ++ q.2.2.2.1) ⟨by simp; omega, h.each⟩
  · refine Y.bind this ?_
    unfold qcB numB
    simp only [List.append_assoc]
    exact Y.pure _
  · simp only [sPutQc_l0]
    rw [show decide (len q.2.2.2.2.1 < len q.2.2.2.2.1) = false by simp]
    simp only [cond_false, List.flatten_nil, List.append_nil]
    exact Y.pure _
  · simp only [sPutQc_l0]
    have hx := hi.2 x (by simp)
    simp only [List.length_cons] at hi
    rw [show decide (i < len q.2.2.2.2.1) = true by simpa using h1', hrd, had]
    simp only [cond_true, Option.bind_some]
    rw [app_ok (by omega)]
    simp only [Option.bind_some]
    have := ih (s ++ x) ⟨by simp; omega, fun y hy => hi.2 y (by simp [hy])⟩
    rw [List.append_assoc] at this
    exact this
theorem sPutHead_Y {l : DLimits} {h : DHead} {b : List Int} (hf : fitHead h) (hb : b.length < 8000000) : Y (fun k => sPutHead k l b h) (putHead l b h) := by
  unfold sPutHead putHead
  refine Y.bind (sHeadOk_Y hf) ?_
  cases ho : headOk l h with
  | false => exact Y.pure _
  | true =>
    have hh := headOk_iff.1 ho
    have h1 := numB_len hh.view
    have h2 := numB_len hh.heightNum
    have h3 := numB_len hh.propNum
    have h4 := hh.parent
    have h5 := hh.root
    unfold numB at h1 h2 h3
    simp only [Bool.not_true, cond_false, cond_true]
    refine Y.bind (sl11Num_Y (by omega) hh.view) (Y.bind (sl11Num_Y (by simp; omega) hh.heightNum) (Y.bind (sl11Num_Y (by simp; omega) hh.propNum) ?_))
    rw [app_ok (by simp; omega)]
    simp only [Option.bind_some]
    rw [app_ok (by simp; omega)]
    simp only [Option.bind_some]
    refine Y.bind (sPutQc_Y hf.2.2.2.2 hh.qc (by simp; omega)) ?_
    unfold headB numB
    simp only [List.append_assoc]
    exact Y.pure _
def headHash (l : DLimits) (h : DHead) : List Int := cond (headOk l h) (sha (72 :: headB h)) []
theorem iHeadHash_Y {l : DLimits} {h : DHead} (hf : fitHead h) : Y (fun k => iHeadHash k l h) (headHash l h) := by
  unfold iHeadHash headHash
  refine Y.bind (iPutHead_Y hf (by simp)) ?_
  unfold putHead
  cases ho : headOk l h with
  | false => exact Y.pure _
  | true =>
    have := headB_len (headOk_iff.1 ho)
    simp only [cond_true, Bool.not_true, cond_false]
    exact Y.bind (iSha_Y (Bytes.append (Bytes.cons (by omega) (by omega) Bytes.nil) (headB_bytes hf)) (by simp; omega)) (Y.pure _)
theorem sHeadHash_Y {l : DLimits} {h : DHead} (hf : fitHead h) : Y (fun k => sHeadHash k l h) (headHash l h) := by
  unfold sHeadHash headHash
  refine Y.bind (sPutHead_Y hf (by simp)) ?_
  unfold putHead
  cases ho : headOk l h with
  | false => exact Y.pure _
  | true =>
    have := headB_len (headOk_iff.1 ho)
    simp only [cond_true, Bool.not_true, cond_false]
    exact Y.bind (sSha_Y (Bytes.append (Bytes.cons (by omega) (by omega) Bytes.nil) (headB_bytes hf)) (by simp; omega)) (Y.pure _)
theorem headHash_bytes (l : DLimits) (h : DHead) : Bytes (headHash l h) := by
  unfold headHash
  cases headOk l h
  · exact Bytes.nil
  · exact sha_bytes _
theorem headHash_len {l : DLimits} {h : DHead} (ho : headOk l h = true) : (headHash l h).length = 32 := by
  unfold headHash
  rw [ho]
  exact sha_length _
def links (l : DLimits) (a b : DHead) : Bool := headOk l a && (headOk l b && ((b.2.2.2.1 == headHash l a) && ((b.2.2.2.2.2.1.1 == a.1) && (b.2.2.2.2.2.1.2.1 == a.2.1))))
theorem iLinks_Y {l : DLimits} {a b : DHead} (ha : fitHead a) (hb : fitHead b) : Y (fun k => iLinks k l a b) (links l a b) := by
  unfold iLinks links
  refine Y.bind (iHeadOk_Y ha) (Y.and fun _ => Y.bind (iHeadOk_Y hb) (Y.and fun _ => Y.bind (iHeadHash_Y ha) ?_))
  simp only [iSameBytes_eq, Option.bind_some]
  exact Y.and fun _ => Y.and fun _ => Y.pure _
theorem sLinks_Y {l : DLimits} {a b : DHead} (ha : fitHead a) (hb : fitHead b) : Y (fun k => sLinks k l a b) (links l a b) := by
  unfold sLinks links
  refine Y.bind (sHeadOk_Y ha) (Y.and fun _ => Y.bind (sHeadOk_Y hb) (Y.and fun _ => Y.bind (sHeadHash_Y ha) ?_))
  simp only [sSameBytes_eq, Option.bind_some]
  exact Y.and fun _ => Y.and fun _ => Y.pure _
end Go.Ev.G
/- Copies and sameness. -/
namespace Go.Ev.G
open Go.Ev
section
variable {α β γ : Type}
noncomputable def same (a b : α) : Bool := @decide (Eq a b) (Classical.propDecidable _)
theorem same_iff {a b : α} : same a b = true ↔ a = b := by simp [same]
theorem same_true {a b : α} (h : a = b) : same a b = true := same_iff.2 h
theorem same_false {a b : α} (h : ¬ a = b) : same a b = false := by rw [Bool.eq_false_iff]; exact fun e => h (same_iff.1 e)
/-- A loop that appends one item a round. -/
theorem Y.mapG {xs : List α} (hx : xs.length < 68719476735) (f : α → γ) (Q : α → Prop) (hQ : ∀ x ∈ xs, Q x) (L : Nat → List γ → Int → Option β) (fin : List γ → β) (G : Nat → α → List γ → Int → Option β)
    (hL : ∀ k out i, L (k + 1) out i = cond (decide (i < len xs)) ((rd xs i).bind fun x => G k x out i) (some (fin out)))
    (hG : ∀ x out i R, Q x → rd xs i = some x → out.length < 68719476735 → Y (fun k => L k (out ++ [f x]) (ad .i64 i 1)) R → Y (fun k => G k x out i) R) : Y (fun k => L k [] 0) (fin (xs.map f)) := by
  have := Y.loop (σ := List γ) (xs := xs) (by omega) L (fun s post => s.length + post.length < 68719476735 ∧ ∀ x ∈ post, Q x) (fun s post => fin (s ++ post.map f)) (fun s _ => ?_) (fun s x post i hi h0 h1 hrd had ih => ?_) [] ⟨by simpa using hx, hQ⟩
  · exact this
  · simp only [hL]
    rw [show decide (len xs < len xs) = false by simp]
    simp only [cond_false, List.map_nil, List.append_nil]
    exact Y.pure _
  · simp only [hL]
    simp only [List.length_cons] at hi
    rw [show decide (i < len xs) = true by simpa using h1, hrd]
    simp only [cond_true, Option.bind_some]
    have h2 := ih (s ++ [f x]) ⟨by simp only [List.length_append, List.length_cons, List.length_nil]; omega, fun y hy => hi.2 y (by simp [hy])⟩
    rw [List.append_assoc] at h2
    refine hG x s i _ (hi.2 x (by simp)) hrd (by omega) ?_
    rw [had]
    exact h2
theorem zip_all_eq : ∀ {xs ys : List α}, xs.length = ys.length → (xs.zip ys).all (fun z => same z.1 z.2) = same xs ys
  | [], [], _ => by rw [same_true rfl]; rfl
  | x :: xs, y :: ys, h => by
    have := zip_all_eq (xs := xs) (ys := ys) (by simpa using h)
    simp only [List.zip_cons_cons, List.all_cons, this]
    rw [Bool.eq_iff_iff]
    simp [same_iff]
  | [], _ :: _, h => by simp at h
  | _ :: _, [], h => by simp at h
theorem rd_zip {xs ys : List α} {i : Int} {z : α × α} (h : rd (xs.zip ys) i = some z) : rd xs i = some z.1 ∧ rd ys i = some z.2 := by
  unfold rd at *
  by_cases hi : i < 0
  · rw [if_pos hi] at h; cases h
  · rw [if_neg hi] at h ⊢
    rw [if_neg hi]
    exact List.getElem?_zip_eq_some.1 h
/-- Two lists of one length, item by item. -/
theorem Y.sameG {xs ys : List α} (hl : xs.length = ys.length) (hx : xs.length < 4611686018427387904) (a b : β) (Q : α → α → Prop) (hQ : ∀ z ∈ xs.zip ys, Q z.1 z.2) (L : Nat → Int → Option β) (G : Nat → Int → Option β)
    (hL : ∀ k i, L (k + 1) i = cond (decide (i < len xs)) (G k i) (some a))
    (hG : ∀ x y i R, Q x y → rd xs i = some x → rd ys i = some y → (x = y → Y (fun k => L k (ad .i64 i 1)) R) → (¬ x = y → R = b) → Y (fun k => G k i) R) : Y (fun k => L k 0) (cond (same xs ys) a b) := by
  rw [← zip_all_eq hl]
  have hz : len (xs.zip ys) = len xs := by unfold len; rw [List.length_zip]; omega
  refine Y.loop (σ := Unit) (xs := xs.zip ys) (by rw [List.length_zip]; omega) (fun k _ i => L k i) (fun _ post => ∀ z ∈ post, Q z.1 z.2) (fun _ post => cond (post.all fun z => same z.1 z.2) a b) (fun s _ => ?_) (fun s x post i hi h0 h1 hrd had ih => ?_) () hQ
  · simp only [hL, hz]
    rw [show decide (len xs < len xs) = false by simp]
    exact Y.pure _
  · simp only [hL]
    rw [show decide (i < len xs) = true by rw [← hz]; simpa using h1]
    simp only [cond_true, List.all_cons]
    obtain ⟨e1, e2⟩ := rd_zip hrd
    refine hG x.1 x.2 i _ (hi x (by simp)) e1 e2 (fun e => ?_) (fun e => ?_)
    · rw [had, same_true e, Bool.true_and]
      exact ih () (fun y hy => hi y (by simp [hy]))
    · rw [same_false e]; rfl
end
def fitL (l : List (List Int)) : Prop := l.length < 1000000000 ∧ ∀ x ∈ l, x.length < 1000000000
theorem icopyList_Y {l : List (List Int)} (h : fitL l) : Y (fun k => icopyList k l) l := by
  unfold icopyList
  have := Y.mapG (xs := l) (by have := h.1; omega) id (fun x => x.length < 1000000000) h.2 (fun k out i => icopyList_l0 k out l (len l) i) id (fun k x out i => (icopyBytes x).bind fun v_2 => (app out [v_2]).bind fun v_3 => icopyList_l0 k v_3 l (len l) (ad .i64 i 1)) (fun k out i => rfl) (fun x out i R hx _ ho hR => ?_)
  · rw [List.map_id] at this
    exact Y.bind this (Y.pure _)
  · rw [icopyBytes_eq (by omega)]
    simp only [Option.bind_some]
    rw [app_ok (by simp; omega)]
    exact hR
theorem fitQc.tagsL {q : DQc} (h : fitQc q) : fitL q.2.2.2.2.1 := ⟨h.2.2.1, fun x hx => (h.2.2.2.1 x hx).1⟩
theorem iQc_copied_Y {q : DQc} (h : fitQc q) : Y (fun k => iQc_copied k q) q := by
  unfold iQc_copied
  rw [icopyBytes_eq (by have := h.1; omega), icopyBytes_eq (by have := h.2.1; omega)]
  simp only [Option.bind_some]
  exact Y.bind (icopyList_Y h.tagsL) (Y.pure _)
theorem iHead_copied_Y {h : DHead} (hf : fitHead h) : Y (fun k => iHead_copied k h) h := by
  unfold iHead_copied
  rw [icopyBytes_eq (by have := hf.1; omega), icopyBytes_eq (by have := hf.2.1; omega)]
  simp only [Option.bind_some]
  exact Y.bind (iQc_copied_Y hf.2.2.2.2) (Y.pure _)
def fitHeads (l : List DHead) : Prop := l.length < 1000000000 ∧ ∀ h ∈ l, fitHead h
theorem icopyHeads_Y {l : List DHead} (h : fitHeads l) : Y (fun k => icopyHeads k l) l := by
  unfold icopyHeads
  have := Y.mapG (xs := l) (by have := h.1; omega) id fitHead h.2 (fun k out i => icopyHeads_l0 k out l (len l) i) id (fun k x out i => (iHead_copied k x).bind fun v_2 => (app out [v_2]).bind fun v_3 => icopyHeads_l0 k v_3 l (len l) (ad .i64 i 1)) (fun k out i => rfl) (fun x out i R hx _ ho hR => ?_)
  · rw [List.map_id] at this
    exact Y.bind this (Y.pure _)
  · refine Y.bind (iHead_copied_Y hx) ?_
    rw [app_ok (by simp; omega)]
    exact hR
def fitProof (p : DProof) : Prop := fitHeads p.1 ∧ fitQc p.2.1
theorem iProof_copied_Y {p : DProof} (h : fitProof p) : Y (fun k => iProof_copied k p) p := by
  unfold iProof_copied
  exact Y.bind (icopyHeads_Y h.1) (Y.bind (iQc_copied_Y h.2) (Y.pure _))
def fitTable (t : DTable) : Prop := t.1.length < 1000000000 ∧ ∀ p ∈ t.1, p.2.1.length < 1000000000 ∧ Bytes p.2.1
theorem iTable_copied_Y {t : DTable} (h : fitTable t) : Y (fun k => iTable_copied k t) t := by
  unfold iTable_copied
  have := Y.mapG (xs := t.1) (by have := h.1; omega) id (fun p => p.2.1.length < 1000000000 ∧ Bytes p.2.1) h.2 (fun k out i => iTable_copied_l0 k ([], ()) (out, ()) t.1 (len t.1) i) (fun out => ((([], ()) : DTable), ((out, ()) : DTable))) (fun k x out i => (icopyBytes x.2.1).bind fun v_2 => (app out [(x.1, v_2, ())]).bind fun v_3 => iTable_copied_l0 k ([], ()) (v_3, ()) t.1 (len t.1) (ad .i64 i 1)) (fun k out i => rfl) (fun x out i R hx _ ho hR => ?_)
  · rw [List.map_id] at this
    exact Y.bind this (Y.pure _)
  · rw [icopyBytes_eq (by have := hx.1; omega)]
    simp only [Option.bind_some]
    rw [app_ok (by simp; omega)]
    exact hR
def fitLight (x : DLight) : Prop := fitTable x.2.1 ∧ x.2.2.1.2.1.length < 1000000000 ∧ fitHeads x.2.2.2.1
theorem iLight_copied_Y {x : DLight} (h : fitLight x) : Y (fun k => iLight_copied k x) x := by
  unfold iLight_copied
  refine Y.bind (iTable_copied_Y h.1) ?_
  unfold iPush_copied
  rw [icopyBytes_eq (by have := h.2.1; omega)]
  simp only [Option.bind_some]
  exact Y.bind (icopyHeads_Y h.2.2) (Y.pure _)

/-! ### Sameness -/
theorem same_bytes (a b : List Int) : (a == b) = same a b := by
  rw [Bool.eq_iff_iff]
  simp [same_iff]
theorem lens {α : Type} {a b : List α} (h : (len a != len b) = false) : a.length = b.length := by
  simp [len] at h
  omega
theorem lens' {α : Type} {a b : List α} (h : (len a != len b) = true) : ¬ a = b := by
  rintro rfl
  simp at h
theorem iTreeSame_Y {a b : List (List Int)} (h : a.length < 1000000000) : Y (fun k => iTreeSame k a b) (same a b) := by
  unfold iTreeSame
  refine Y.cnd' (fun hl => ?_) (fun hl => ?_)
  · rw [same_false (lens' hl)]
    exact Y.pure _
  · refine Y.bind (Y.sameG (lens hl) (by omega) (Sum.inl ()) (Sum.inr false) (fun _ _ => True) (fun _ _ => trivial) (fun k i => iTreeSame_l0 k a b (len a) i)
      (fun k i => (rd a i).bind fun v_1 => (rd b i).bind fun v_2 => (iSameBytes v_1 v_2).bind fun v_3 => cond (!v_3) (some (Sum.inr false)) (iTreeSame_l0 k a b (len a) (ad .i64 i 1))) (fun k i => rfl) (fun x y i R _ e1 e2 h1 h2 => ?_)) ?_
    · rw [e1, e2]
      simp only [Option.bind_some, iSameBytes_eq, same_bytes]
      by_cases e : x = y
      · rw [same_true e]; exact h1 e
      · rw [same_false e, h2 e]; exact Y.pure _
    · cases same a b <;> exact Y.pure _
theorem int_beq (a b : Int) : (a == b) = same a b := by rw [Bool.eq_iff_iff]; simp [same_iff]
theorem prod_iff {α β : Type} (a b : α × β) : a = b ↔ a.1 = b.1 ∧ a.2 = b.2 := Prod.ext_iff
theorem unit_iff (a b : Unit) : a = b ↔ True := by cases a; cases b; simp
theorem iQcSame_Y {a b : DQc} (h : fitQc a) : Y (fun k => iQcSame k a b) (same a b) := by
  have e : same a b = (same a.1 b.1 && (same a.2.1 b.2.1 && (same a.2.2.1 b.2.2.1 && (same a.2.2.2.1 b.2.2.2.1 && same a.2.2.2.2.1 b.2.2.2.2.1)))) := by
    rw [Bool.eq_iff_iff]
    simp only [Bool.and_eq_true, same_iff, prod_iff, and_true]
  rw [e]
  unfold iQcSame
  simp only [iSameBytes_eq, same_bytes, int_beq, Option.bind_some]
  exact Y.and fun _ => Y.and fun _ => Y.and fun _ => Y.and fun _ => Y.bind (iTreeSame_Y h.2.2.1) (Y.pure _)
theorem iHeadSame_Y {a b : DHead} (h : fitHead a) : Y (fun k => iHeadSame k a b) (same a b) := by
  have e : same a b = (same a.1 b.1 && (same a.2.1 b.2.1 && (same a.2.2.1 b.2.2.1 && (same a.2.2.2.1 b.2.2.2.1 && (same a.2.2.2.2.1 b.2.2.2.2.1 && same a.2.2.2.2.2.1 b.2.2.2.2.2.1))))) := by
    rw [Bool.eq_iff_iff]
    simp only [Bool.and_eq_true, same_iff]
    rw [prod_iff, prod_iff a.2, prod_iff a.2.2, prod_iff a.2.2.2, prod_iff a.2.2.2.2, prod_iff a.2.2.2.2.2]
    simp only [and_true]
  rw [e]
  unfold iHeadSame
  simp only [iSameBytes_eq, same_bytes, int_beq, Option.bind_some]
  exact Y.and fun _ => Y.and fun _ => Y.and fun _ => Y.and fun _ => Y.and fun _ => Y.bind (iQcSame_Y h.2.2.2.2) (Y.pure _)
theorem iheadsSame_Y {a b : List DHead} (h : fitHeads a) : Y (fun k => iheadsSame k a b) (same a b) := by
  unfold iheadsSame
  refine Y.cnd' (fun hl => ?_) (fun hl => ?_)
  · rw [same_false (lens' hl)]
    exact Y.pure _
  · refine Y.bind (Y.sameG (lens hl) (by have := h.1; omega) (Sum.inl ()) (Sum.inr false) (fun x _ => fitHead x) (fun z hz => h.2 _ (List.of_mem_zip hz).1) (fun k i => iheadsSame_l0 k a b (len a) i)
      (fun k i => (rd a i).bind fun v_1 => (rd b i).bind fun v_2 => (iHeadSame k v_1 v_2).bind fun v_3 => cond (!v_3) (some (Sum.inr false)) (iheadsSame_l0 k a b (len a) (ad .i64 i 1))) (fun k i => rfl) (fun x y i R hx e1 e2 h1 h2 => ?_)) ?_
    · rw [e1, e2]
      simp only [Option.bind_some]
      refine Y.bind (iHeadSame_Y hx) ?_
      by_cases e : x = y
      · rw [same_true e]; exact h1 e
      · rw [same_false e, h2 e]; exact Y.pure _
    · cases same a b <;> exact Y.pure _
theorem iTableSame_Y {a b : DTable} (h : a.1.length < 1000000000) : Y (fun k => iTableSame k a b) (same a b) := by
  have e : same a b = same a.1 b.1 := by
    rw [Bool.eq_iff_iff]
    simp only [same_iff]
    rw [prod_iff]
    simp only [and_true]
  rw [e]
  unfold iTableSame
  refine Y.cnd' (fun hl => ?_) (fun hl => ?_)
  · rw [same_false (lens' hl)]
    exact Y.pure _
  · refine Y.bind (Y.sameG (lens hl) (by omega) (Sum.inl ()) (Sum.inr false) (fun _ _ => True) (fun _ _ => trivial) (fun k i => iTableSame_l0 k a b (len a.1) i) (fun k i => _) (fun k i => rfl) (fun x y i R _ e1 e2 h1 h2 => ?_)) ?_
    · rw [e1, e2]
      simp only [Option.bind_some, iSameBytes_eq, same_bytes, bne, int_beq]
      by_cases e : x = y
      · rw [e] at h1 ⊢
        simp only [same_true rfl, Bool.not_true, cond_false]
        exact h1 rfl
      · rw [h2 e]
        by_cases ex : x.1 = y.1
        · have ey : ¬ x.2.1 = y.2.1 := fun ey => e (by rw [prod_iff, prod_iff x.2]; exact ⟨ex, ey, rfl⟩)
          simp only [same_true ex, Bool.not_true, cond_false, same_false ey, Bool.not_false, cond_true]
          exact Y.pure _
        · simp only [same_false ex, Bool.not_false, cond_true]
          exact Y.pure _
    · cases same a.1 b.1 <;> exact Y.pure _
theorem iVoteSame_self (v : DVote) : iVoteSame v v = some true := by
  unfold iVoteSame
  simp [iSameBytes_eq]
theorem eqd_limits (l : DLimits) : eqd tLimits l l = true := by
  simp [eqd, den]
theorem iLightSame_self {x : DLight} (h : fitLight x) : Y (fun k => iLightSame k x x) true := by
  unfold iLightSame
  rw [eqd_limits]
  simp only [cond_true, iSameBytes_eq, beq_self_eq_true, Option.bind_some]
  refine Y.bind (iTableSame_Y h.1.1) ?_
  rw [same_true rfl]
  refine Y.bind (iheadsSame_Y h.2.2) ?_
  rw [same_true rfl]
  exact Y.pure _
end Go.Ev.G
/- Tables of signers, signatures, certificates built from them. -/
namespace Go.Ev.G
open Go.Ev
def pushGood (p : DPush) : Bool := within p.1 1 1099511627776 && within (len p.2.1) 1 64
def tableOk (t : DTable) : Bool := t.1.all pushGood && within (len t.1) 1 10
theorem iTableOk_Y {t : DTable} (h : t.1.length < 1000000000) : Y (fun k => iTableOk k t) (tableOk t) := by
  unfold iTableOk tableOk
  refine Y.bind (Y.all (xs := t.1) (by omega) pushGood (Sum.inl t) (Sum.inr false) (fun _ => True) (fun _ _ => trivial) (fun k i => iTableOk_l0 k t t.1 (len t.1) i) (fun _ x => some (pushGood x)) (fun x _ => Y.pure _) (fun k i => ?_)) ?_
  · simp only [iTableOk_l0, iwithin_eq, pushGood, Option.bind_some]
    cases decide (i < len t.1)
    · rfl
    · simp only [cond_true]
      congr 1
      funext x
      cases within x.1 1 1099511627776 <;> cases within (len x.2.1) 1 64 <;> rfl
  · cases t.1.all pushGood
    · exact Y.pure _
    · simp only [sumE, iwithin_eq, Option.bind_some, Bool.true_and]
      exact Y.pure _
theorem sTableOk_Y {t : DTable} (h : t.1.length < 1000000000) : Y (fun k => sTableOk k t) (tableOk t) := by
  unfold sTableOk tableOk
  refine Y.bind (Y.all (xs := t.1) (by omega) pushGood (Sum.inl t) (Sum.inr false) (fun _ => True) (fun _ _ => trivial) (fun k i => sTableOk_l0 k t t.1 (len t.1) i) (fun _ x => some (pushGood x)) (fun x _ => Y.pure _) (fun k i => ?_)) ?_
  · simp only [sTableOk_l0, sl01In_eq, pushGood, Option.bind_some]
    cases decide (i < len t.1)
    · rfl
    · simp only [cond_true]
      congr 1
      funext x
      cases within x.1 1 1099511627776 <;> cases within (len x.2.1) 1 64 <;> rfl
  · cases t.1.all pushGood
    · exact Y.pure _
    · simp only [sumE, sl02Signers, sl01In_eq, Option.bind_some, Bool.true_and]
      exact Y.pure _
/-- A table that belongs to the limits. -/
structure Net (l : DLimits) (t : DTable) : Prop where
  lim : limitsOk l = true
  tab : tableOk t = true
  size : len t.1 = l.1
  fit : ∀ p ∈ t.1, Bytes p.2.1
theorem Net.n {l : DLimits} {t : DTable} (h : Net l t) : 1 ≤ l.1 ∧ l.1 ≤ 10 ∧ t.1.length = l.1.toNat := by
  have h1 := limitsOk_N h.lim
  have h2 := h.size
  unfold len at h2
  omega
theorem Net.push {l : DLimits} {t : DTable} (h : Net l t) {p : DPush} (hp : p ∈ t.1) : 1 ≤ p.1 ∧ p.1 ≤ 1099511627776 ∧ 1 ≤ p.2.1.length ∧ p.2.1.length ≤ 64 := by
  have := h.tab
  simp only [tableOk, Bool.and_eq_true, List.all_eq_true] at this
  have := this.1 p hp
  simp only [pushGood, Bool.and_eq_true, within_iff, len] at this
  omega
theorem Net.fitT {l : DLimits} {t : DTable} (h : Net l t) : fitTable t := ⟨by have := h.n; omega, fun p hp => ⟨by have := h.push hp; omega, h.fit p hp⟩⟩
theorem Net.tlen {l : DLimits} {t : DTable} (h : Net l t) : t.1.length < 1000000000 := h.fitT.1
theorem Net.belongs {l : DLimits} {t : DTable} (h : Net l t) : Y (fun k => ibelongs k l t) true := by
  unfold ibelongs
  rw [iLimitsOk_eq, h.lim]
  simp only [Option.bind_some, cond_true]
  refine Y.bind (iTableOk_Y h.tlen) ?_
  rw [h.tab, show (len t.1 == l.1) = true by rw [h.size]; simp]
  exact Y.pure _
theorem Net.goes {l : DLimits} {t : DTable} (h : Net l t) : Y (fun k => sl23Goes k l t) true := by
  unfold sl23Goes
  rw [sLimitsOk_eq, h.lim]
  simp only [Option.bind_some, cond_true]
  refine Y.bind (sTableOk_Y h.tlen) ?_
  rw [h.tab, show (l.1 == len t.1) = true by rw [h.size]; simp]
  exact Y.pure _
/-! ### Signed votes -/
def voteB (view height : Int) (block : List Int) : List Int := [86] ++ numB view ++ numB height ++ block
theorem voteB_bytes {view height : Int} {block : List Int} (h : Bytes block) : Bytes (voteB view height block) :=
  Bytes.append (Bytes.append (Bytes.append (Bytes.cons (by omega) (by omega) Bytes.nil) (varB_bytes _)) (varB_bytes _)) h
theorem voteB_len {view height : Int} {block : List Int} (h1 : isNum view = true) (h2 : isNum height = true) (h3 : block.length = 32) : (voteB view height block).length ≤ 51 := by
  have := numB_len h1
  have := numB_len h2
  simp only [voteB, List.length_append, List.length_cons, List.length_nil]
  omega
theorem sVoteBytes_Y {view height : Int} {block : List Int} (h1 : isNum view = true) (h2 : isNum height = true) (h3 : block.length = 32) : Y (fun k => sVoteBytes k view height block) (voteB view height block) := by
  have e1 := numB_len h1
  have e2 := numB_len h2
  unfold sVoteBytes
  simp only [sl01Num_eq, h1, h2, sl07Hash_eq, hashB_iff.2 h3, Option.bind_some, Bool.not_true, cond_false]
  refine Y.bind (sl11Num_Y (by simp) h1) (Y.bind (sl11Num_Y (by simp only [List.length_append, List.length_cons, List.length_nil]; unfold numB at e1; omega) h2) ?_)
  rw [app_ok (by simp only [List.length_append, List.length_cons, List.length_nil]; unfold numB at e1 e2; omega)]
  exact Y.pure _
theorem iVoteBytes_Y {view height : Int} {block : List Int} (h1 : isNum view = true) (h2 : isNum height = true) (h3 : block.length = 32) : Y (fun k => iVoteBytes k view height block) (some (voteB view height block)) := by
  have e1 := numB_len h1
  have e2 := numB_len h2
  have hn : Y (fun k => inumbers k 86 [view, height]) (some ([86] ++ numB view ++ numB height)) := by
    unfold inumbers
    refine Y.bind (a := Sum.inl (some ([86] ++ numB view ++ numB height))) ?_ (Y.pure _)
    refine Y.step ?_
    simp only [inumbers_l0, optE]
    rw [show decide ((0 : Int) < len [view, height]) = true from rfl, show rd [view, height] 0 = some view from rfl]
    simp only [cond_true, Option.bind_some]
    refine Y.bind (iPutVar_Y (by simp)) ?_
    rw [if_pos h1]
    simp only [Bool.not_true, cond_false]
    refine Y.step ?_
    rw [show ad .i64 0 1 = 1 from rfl]
    simp only [inumbers_l0, optE]
    rw [show decide ((1 : Int) < len [view, height]) = true from rfl, show rd [view, height] 1 = some height from rfl]
    simp only [cond_true, Option.bind_some]
    refine Y.bind (iPutVar_Y (by simp only [List.length_append, List.length_cons, List.length_nil]; unfold numB at e1; omega)) ?_
    rw [if_pos h2]
    simp only [Bool.not_true, cond_false]
    refine Y.step ?_
    rw [show ad .i64 1 1 = 2 from rfl]
    simp only [inumbers_l0, optE]
    rw [show decide ((2 : Int) < len [view, height]) = false from rfl]
    exact Y.pure _
  unfold iVoteBytes
  refine Y.bind hn ?_
  simp only [optE]
  refine Y.bind (iareHashes_Y (by simp)) ?_
  rw [show [block].all hashB = true by simp [hashB_iff.2 h3]]
  simp only [Bool.not_true, cond_false]
  rw [app_ok (by simp only [List.length_append, List.length_cons, List.length_nil]; omega)]
  exact Y.pure _
def keyOf (t : DTable) (who : Int) : List Int := (t.1.getD who.toNat (0, [], ())).2.1
def tagOf (t : DTable) (view height : Int) (block : List Int) (who : Int) : List Int := mac (keyOf t who) (voteB view height block)
theorem rd_getD {α : Type} {xs : List α} {i : Int} (d : α) (h0 : 0 ≤ i) (h1 : i < len xs) : rd xs i = some (xs.getD i.toNat d) := by
  rw [rd_ok h0 h1]
  congr 1
  unfold len at h1
  rw [List.getD_eq_getElem?_getD, List.getElem?_eq_getElem (by omega)]
  rfl
theorem getD_mem {α : Type} {xs : List α} {i : Nat} (d : α) (h : i < xs.length) : xs.getD i d ∈ xs := by
  rw [List.getD_eq_getElem?_getD, List.getElem?_eq_getElem h]
  exact List.getElem_mem h
section
variable {l : DLimits} {t : DTable} (hn : Net l t) {view height : Int} {block : List Int} (h1 : isNum view = true) (h2 : isNum height = true) (h3 : block.length = 32) (h4 : Bytes block)
include hn
theorem Net.key {who : Int} (h0 : 0 ≤ who) (h1 : who < l.1) : rd t.1 who = some (t.1.getD who.toNat (0, [], ())) ∧ Bytes (keyOf t who) ∧ (keyOf t who).length ≤ 64 := by
  have hl : who < len t.1 := by rw [hn.size]; exact h1
  have hm : t.1.getD who.toNat (0, [], ()) ∈ t.1 := getD_mem _ (by unfold len at hl; omega)
  exact ⟨rd_getD _ h0 hl, hn.fit _ hm, (hn.push hm).2.2.2⟩
include h1 h2 h3 h4
theorem iSignVote_Y {who : Int} (hw0 : 0 ≤ who) (hw1 : who < l.1) : Y (fun k => iSignVote k t view height block who) ((view, height, block, who, tagOf t view height block who, ()), true) := by
  obtain ⟨e1, e2, e3⟩ := hn.key hw0 hw1
  have hl := hn.n
  unfold iSignVote
  refine Y.bind (iVoteBytes_Y h1 h2 h3) ?_
  simp only [optE]
  refine Y.bind (iTableOk_Y hn.tlen) ?_
  rw [hn.tab, iwithin_eq, hn.size, su_ok (by omega) (by omega), within_iff.2 ⟨hw0, by omega⟩, icopyBytes_eq (by omega), e1]
  simp only [Bool.not_true, cond_false, Option.bind_some]
  have hv := voteB_len h1 h2 h3
  exact Y.bind (iMac_Y e2 (voteB_bytes h4) (by unfold keyOf at e3; omega) (by omega)) (Y.pure _)
theorem sSignVote_Y {who : Int} (hw0 : 0 ≤ who) (hw1 : who < l.1) : Y (fun k => sSignVote k t view height block who) ((view, height, block, who, tagOf t view height block who, ()), true) := by
  obtain ⟨e1, e2, e3⟩ := hn.key hw0 hw1
  have hl := hn.n
  have hbl : block.length < 68719476736 := by omega
  unfold sSignVote
  refine Y.bind (sVoteBytes_Y h1 h2 h3) ?_
  refine Y.bind (sTableOk_Y hn.tlen) ?_
  rw [hn.tab, sl01In_eq, hn.size, su_ok (by omega) (by omega), within_iff.2 ⟨hw0, by omega⟩, sl01Copy_eq hbl, e1]
  have hp : (len (voteB view height block) == 0) = false := by
    have h0 : 0 < (voteB view height block).length := by simp [voteB]
    rw [Bool.eq_false_iff]
    intro e
    have := eq_of_beq e
    unfold len at this
    omega
  rw [hp]
  simp only [Bool.not_true, cond_false, Option.bind_some]
  have hv := voteB_len h1 h2 h3
  exact Y.bind (sMac_Y e2 (voteB_bytes h4) (by unfold keyOf at e3; omega) (by omega)) (Y.pure _)
end
/-- The certificate that the signers of the bits make. -/
def qcOf (t : DTable) (view height : Int) (block bits : List Int) : DQc := (view, height, block, bits, (bitsL bits).map (tagOf t view height block), ())
section
variable {l : DLimits} {t : DTable} (hn : Net l t) {view height : Int} {block bits : List Int} (h1 : isNum view = true) (h2 : isNum height = true) (h3 : block.length = 32) (h4 : Bytes block) (h5 : bitsOk bits l.1 = true) (h6 : Bytes bits)
include hn h1 h2 h3 h5
theorem qcOf_is : QcIs l (qcOf t view height block bits) := ⟨hn.lim, h1, h2, h3, h5, by
  show (((bitsL bits).map (tagOf t view height block)).length : Int) = bitsCount bits
  rw [List.length_map, bitsL_len]
  rfl, by
  intro x hx
  obtain ⟨w, _, rfl⟩ := List.mem_map.1 hx
  exact mac_length _ _⟩
include h4 h6
theorem qcOf_fit : fitQc (qcOf t view height block bits) := by
  have hi := qcOf_is hn h1 h2 h3 h5
  have := (bitsOk_len h5).1
  refine ⟨by show block.length < _; omega, by show bits.length < _; omega, by have := hi.tagsLen; omega, fun x hx => ⟨by have := hi.each x hx; omega, ?_⟩, h4, h6⟩
  obtain ⟨w, _, rfl⟩ := List.mem_map.1 hx
  exact mac_bytes _ _
theorem iBuildQc_Y : Y (fun k => iBuildQc k l t view height block bits) (qcOf t view height block bits, true) := by
  have hb := bitsOk_len h5
  have hq := qcOf_is hn h1 h2 h3 h5
  have hbl := bitsL_len bits
  have hbn := bitsN_len bits
  unfold iBuildQc
  refine Y.bind hn.belongs ?_
  simp only [Bool.not_true, cond_false]
  refine Y.bind (iBitsOk_Y h6) ?_
  rw [h5, icopyBytes_eq (by omega), icopyBytes_eq (by omega)]
  simp only [Bool.not_true, cond_false, Option.bind_some]
  refine Y.bind (iBitsList_Y h6 (by omega)) ?_
  have := Y.mapG (xs := bitsL bits) (by omega) (tagOf t view height block) (fun w => 0 ≤ w ∧ w < l.1) (fun w hw => ⟨(bitsL_mem hw).1, hb.2.2.1 w hw⟩)
    (fun k out i => iBuildQc_l0 k view height block l t (0, 0, [], [], [], ()) (view, height, block, bits, out, ()) (bitsL bits) (len (bitsL bits)) i)
    (fun out => (l, ((0, 0, [], [], [], ()) : DQc), ((view, height, block, bits, out, ()) : DQc)))
    (fun k w out i => (rd (bitsL bits) i).bind fun v_7 => (iSignVote k t view height block v_7).bind fun v_8 => (app out [v_8.1.2.2.2.2.1]).bind fun v_9 => iBuildQc_l0 k view height block l t (0, 0, [], [], [], ()) (view, height, block, bits, v_9, ()) (bitsL bits) (len (bitsL bits)) (ad .i64 i 1)) (fun k out i => rfl) (fun w out i R hw hrd ho hR => ?_)
  · refine Y.bind this ?_
    refine Y.bind (iQcOk_Y (q := qcOf t view height block bits) (l := l) (qcOf_fit hn h1 h2 h3 h4 h5 h6)) ?_
    show Y (fun k => bif !qcOk l (qcOf t view height block bits) then some ((0, 0, [], [], [], ()), false) else some (qcOf t view height block bits, true)) _
    rw [qcOk_iff.2 hq]
    exact Y.pure _
  · rw [hrd]
    simp only [Option.bind_some]
    refine Y.bind (iSignVote_Y hn h1 h2 h3 h4 hw.1 hw.2) ?_
    simp only
    rw [app_ok (by simp; omega)]
    exact hR
theorem sBuildQc_Y : Y (fun k => sBuildQc k l t view height block bits) (qcOf t view height block bits, true) := by
  have hb := bitsOk_len h5
  have hq := qcOf_is hn h1 h2 h3 h5
  have hbl := bitsL_len bits
  have hbn := bitsN_len bits
  unfold sBuildQc
  refine Y.bind hn.goes ?_
  simp only [Bool.not_true, cond_false]
  refine Y.bind (sBitsOk_Y h6) ?_
  rw [h5, sl01Copy_eq (by omega), sl01Copy_eq (by omega)]
  simp only [Bool.not_true, cond_false, Option.bind_some]
  refine Y.bind (sBitsList_Y h6 (by omega)) ?_
  have := Y.mapG (xs := bitsL bits) (by omega) (tagOf t view height block) (fun w => 0 ≤ w ∧ w < l.1) (fun w hw => ⟨(bitsL_mem hw).1, hb.2.2.1 w hw⟩)
    (fun k out i => sBuildQc_l0 k view height block l t (0, 0, [], [], [], ()) (view, height, block, bits, out, ()) (bitsL bits) (len (bitsL bits)) i)
    (fun out => (l, ((0, 0, [], [], [], ()) : DQc), ((view, height, block, bits, out, ()) : DQc)))
    (fun k w out i => (rd (bitsL bits) i).bind fun v_7 => (sSignVote k t view height block v_7).bind fun v_8 => (app out [v_8.1.2.2.2.2.1]).bind fun v_9 => sBuildQc_l0 k view height block l t (0, 0, [], [], [], ()) (view, height, block, bits, v_9, ()) (bitsL bits) (len (bitsL bits)) (ad .i64 i 1)) (fun k out i => rfl) (fun w out i R hw hrd ho hR => ?_)
  · refine Y.bind this ?_
    refine Y.bind (sQcOk_Y (q := qcOf t view height block bits) (l := l) (qcOf_fit hn h1 h2 h3 h4 h5 h6)) ?_
    show Y (fun k => bif !qcOk l (qcOf t view height block bits) then some ((0, 0, [], [], [], ()), false) else some (qcOf t view height block bits, true)) _
    rw [qcOk_iff.2 hq]
    exact Y.pure _
  · rw [hrd]
    simp only [Option.bind_some]
    refine Y.bind (sSignVote_Y hn h1 h2 h3 h4 hw.1 hw.2) ?_
    simp only
    rw [app_ok (by simp; omega)]
    exact hR
end
end Go.Ev.G
/- Quorums; the certificate that all signers make is good. -/
namespace Go.Ev.G
open Go.Ev
def fullB (n : Int) : List Int := if n ≤ 8 then [2 ^ n.toNat - 1] else [255, 2 ^ (n.toNat - 8) - 1]
theorem ten {n : Int} (h0 : 1 ≤ n) (h1 : n ≤ 10) (p : Int → Prop) (h : p 1 ∧ p 2 ∧ p 3 ∧ p 4 ∧ p 5 ∧ p 6 ∧ p 7 ∧ p 8 ∧ p 9 ∧ p 10) : p n := by
  obtain ⟨a1, a2, a3, a4, a5, a6, a7, a8, a9, a10⟩ := h
  have : n = 1 ∨ n = 2 ∨ n = 3 ∨ n = 4 ∨ n = 5 ∨ n = 6 ∨ n = 7 ∨ n = 8 ∨ n = 9 ∨ n = 10 := by omega
  rcases this with rfl | rfl | rfl | rfl | rfl | rfl | rfl | rfl | rfl | rfl <;> assumption
theorem full_ok {n : Int} (h0 : 1 ≤ n) (h1 : n ≤ 10) : bitsOk (fullB n) n = true := ten h0 h1 (fun n => bitsOk (fullB n) n = true) (by decide +kernel)
theorem full_list {n : Int} (h0 : 1 ≤ n) (h1 : n ≤ 10) : bitsL (fullB n) = (List.range n.toNat).map Int.ofNat := ten h0 h1 (fun n => bitsL (fullB n) = (List.range n.toNat).map Int.ofNat) (by decide +kernel)
theorem full_bytes {n : Int} (h0 : 1 ≤ n) (h1 : n ≤ 10) : Bytes (fullB n) := by
  have : (fullB n).all (fun x => decide (0 ≤ x ∧ x ≤ 255)) = true := ten h0 h1 (fun n => (fullB n).all (fun x => decide (0 ≤ x ∧ x ≤ 255)) = true) (by decide +kernel)
  intro x hx
  simpa using List.all_eq_true.1 this x hx
theorem sl30Full_Y {n : Int} (h0 : 1 ≤ n) (h1 : n ≤ 10) : Y (fun k => sl30Full k n) (fullB n) := by
  refine ⟨4, fun k hk => ?_⟩
  obtain ⟨j, rfl⟩ : ∃ j, k = j + 4 := ⟨k - 4, by omega⟩
  exact ten h0 h1 (fun n => sl30Full (j + 4) n = some (fullB n)) ⟨rfl, rfl, rfl, rfl, rfl, rfl, rfl, rfl, rfl, rfl⟩
def zeroB (n : Int) : List Int := List.replicate (bitsSize n).toNat 0
theorem zero_ok {n : Int} (h0 : 1 ≤ n) (h1 : n ≤ 10) : bitsOk (zeroB n) n = true ∧ bitsCount (zeroB n) = 0 := ten h0 h1 (fun n => bitsOk (zeroB n) n = true ∧ bitsCount (zeroB n) = 0) (by decide +kernel)
theorem zero_bytes (n : Int) : Bytes (zeroB n) := zeros_bytes _
/-! ### Weights -/
def wOf (t : DTable) (who : Int) : Int := (t.1.getD who.toNat (0, [], ())).1
def total (t : DTable) : Int := (t.1.map fun p => p.1).sum
section
variable {l : DLimits} {t : DTable} (hn : Net l t)
include hn
theorem iWeightOf_Y {bits : List Int} (h5 : bitsOk bits l.1 = true) (h6 : Bytes bits) : Y (fun k => iWeightOf k t bits) (((bitsL bits).map (wOf t)).sum) := by
  have hb := bitsOk_len h5
  have hc := bitsOk_count h5
  have hbl := bitsL_len bits
  unfold bitsCount at hc
  unfold iWeightOf
  refine Y.bind (iTableOk_Y hn.tlen) ?_
  rw [hn.tab, hn.size]
  simp only [Bool.not_true, cond_false]
  refine Y.bind (iBitsOk_Y h6) ?_
  rw [h5]
  simp only [Bool.not_true, cond_false]
  refine Y.bind (iBitsList_Y h6 (by omega)) ?_
  have := Y.loop (σ := Int) (xs := bitsL bits) (by omega) (fun k s i => iWeightOf_l0 k t s (bitsL bits) (len (bitsL bits)) i) (fun s post => 0 ≤ s ∧ s + 1099511627776 * post.length ≤ 10995116277760 ∧ ∀ w ∈ post, 0 ≤ w ∧ w < l.1) (fun s post => s + (post.map (wOf t)).sum) (fun s _ => ?_) (fun s w post i hi h0 h1 hrd had ih => ?_) 0 ⟨by omega, by omega, fun w hw => ⟨(bitsL_mem hw).1, hb.2.2.1 w hw⟩⟩
  · refine Y.bind this ?_
    rw [Int.zero_add]
    exact Y.pure _
  · simp only [iWeightOf_l0]
    rw [show decide (len (bitsL bits) < len (bitsL bits)) = false by simp]
    simp only [cond_false, List.map_nil, List.sum_nil, Int.add_zero]
    exact Y.pure _
  · simp only [iWeightOf_l0]
    obtain ⟨hs, hs', hw⟩ := hi
    simp only [List.length_cons] at hs'
    have hwx := hw w (by simp)
    have hk := hn.key hwx.1 hwx.2
    have hm : t.1.getD w.toNat (0, [], ()) ∈ t.1 := getD_mem _ (by have := hn.n; omega)
    have hp := hn.push hm
    rw [show decide (i < len (bitsL bits)) = true by simpa using h1, hrd, had]
    simp only [cond_true, Option.bind_some]
    rw [hk.1]
    simp only [Option.bind_some]
    rw [ad_ok (by omega) (by omega)]
    have := ih (s + wOf t w) ⟨by unfold wOf; omega, by unfold wOf; omega, fun y hy => hw y (by simp [hy])⟩
    rw [List.map_cons, List.sum_cons, ← Int.add_assoc]
    exact this
theorem iTotalOf_Y : Y (fun k => iTotalOf k t) (total t) := by
  have hl := hn.n
  unfold iTotalOf
  have := Y.loop (σ := Int) (xs := t.1) (by omega) (fun k s i => iTotalOf_l0 k t s t.1 (len t.1) i) (fun s post => 0 ≤ s ∧ s + 1099511627776 * post.length ≤ 10995116277760 ∧ ∀ p ∈ post, 1 ≤ p.1 ∧ p.1 ≤ 1099511627776) (fun s post => s + (post.map fun p => p.1).sum) (fun s _ => ?_) (fun s p post i hi h0 h1 hrd had ih => ?_) 0 ⟨by omega, by omega, fun p hp => by have := hn.push hp; omega⟩
  · refine Y.bind this ?_
    rw [Int.zero_add]
    exact Y.pure _
  · simp only [iTotalOf_l0]
    rw [show decide (len t.1 < len t.1) = false by simp]
    simp only [cond_false, List.map_nil, List.sum_nil, Int.add_zero]
    exact Y.pure _
  · simp only [iTotalOf_l0]
    obtain ⟨hs, hs', hw⟩ := hi
    simp only [List.length_cons] at hs'
    have hp := hw p (by simp)
    rw [show decide (i < len t.1) = true by simpa using h1, hrd, had]
    simp only [cond_true, Option.bind_some]
    refine Y.bind (iTableOk_Y hn.tlen) ?_
    rw [hn.tab]
    simp only [cond_true]
    rw [ad_ok (by omega) (by omega)]
    have := ih (s + p.1) ⟨by omega, by omega, fun y hy => hw y (by simp [hy])⟩
    rw [List.map_cons, List.sum_cons, ← Int.add_assoc]
    exact this
theorem sum_full : ((bitsL (fullB l.1)).map (wOf t)).sum = total t := by
  have hl := hn.n
  rw [full_list hl.1 hl.2.1]
  unfold total
  congr 1
  apply List.ext_getElem
  · simp; omega
  · intro i h1 h2
    simp only [List.length_map] at h2
    simp only [List.getElem_map, List.getElem_range]
    unfold wOf
    rw [show (Int.ofNat i).toNat = i from rfl, List.getD_eq_getElem?_getD, List.getElem?_eq_getElem h2]
    rfl
theorem total_pos : 1 ≤ total t ∧ total t ≤ 10995116277760 := by
  have hl := hn.n
  have key : ∀ (ps : List DPush), (∀ p ∈ ps, 1 ≤ p.1 ∧ p.1 ≤ 1099511627776) → (ps.length : Int) ≤ (ps.map fun p => p.1).sum ∧ (ps.map fun p => p.1).sum ≤ 1099511627776 * ps.length := by
    intro ps
    induction ps with
    | nil => intro _; simp
    | cons p ps ih =>
      intro h
      have h1 := h p (by simp)
      have h2 := ih fun q hq => h q (by simp [hq])
      simp only [List.map_cons, List.sum_cons, List.length_cons]
      omega
  have := key t.1 fun p hp => by have := hn.push hp; omega
  unfold total
  omega
theorem iIsQuorum_Y : Y (fun k => iIsQuorum k t (fullB l.1)) true := by
  have hl := hn.n
  have hp := total_pos hn
  unfold iIsQuorum
  refine Y.bind (iTableOk_Y hn.tlen) ?_
  rw [hn.tab]
  simp only [cond_true]
  refine Y.bind (iWeightOf_Y hn (full_ok hl.1 hl.2.1) (full_bytes hl.1 hl.2.1)) (Y.bind (iTotalOf_Y hn) ?_)
  rw [sum_full hn, mu_ok (by omega) (by omega), mu_ok (by omega) (by omega), decide_eq_true (by omega)]
  exact Y.pure _
end
theorem rd_map {α β : Type} {xs : List α} {i : Int} {x : α} (f : α → β) (h : rd xs i = some x) : rd (xs.map f) i = some (f x) := by
  unfold rd at *
  by_cases hi : i < 0
  · rw [if_pos hi] at h; cases h
  · rw [if_neg hi] at h ⊢
    rw [List.getElem?_map, h]
    rfl
section
variable {l : DLimits} {t : DTable} (hn : Net l t) {view height : Int} {block : List Int} (h1 : isNum view = true) (h2 : isNum height = true) (h3 : block.length = 32) (h4 : Bytes block)
def voteOf (t : DTable) (view height : Int) (block : List Int) (who : Int) : DVote := (view, height, block, who, tagOf t view height block who, ())
theorem iQcVotes_Y {bits : List Int} (h3 : block.length = 32) (h6 : Bytes bits) (h7 : bits.length < 100) : Y (fun k => iQcVotes k (qcOf t view height block bits)) ((bitsL bits).map (voteOf t view height block)) := by
  have hbl := bitsL_len bits
  have hbn := bitsN_len bits
  unfold iQcVotes
  refine Y.bind (iBitsCount_Y (b := bits) h6 (by omega)) ?_
  rw [show (len (qcOf t view height block bits).2.2.2.2.1 != bitsCount bits) = false by
    have : len (qcOf t view height block bits).2.2.2.2.1 = bitsCount bits := by
      show len ((bitsL bits).map _) = _
      unfold len bitsCount
      rw [List.length_map, bitsL_len]
    rw [this]
    simp]
  simp only [cond_false]
  refine Y.bind (iBitsList_Y (b := bits) h6 (by omega)) ?_
  have := Y.mapG (xs := bitsL bits) (by omega) (voteOf t view height block) (fun _ => True) (fun _ _ => trivial) (fun k out i => iQcVotes_l0 k (qcOf t view height block bits) out (bitsL bits) (len (bitsL bits)) i) id (fun k w out i => _) (fun k out i => rfl) (fun w out i R _ hrd ho hR => ?_)
  · exact Y.bind this (Y.pure _)
  · rw [hrd]
    simp only [Option.bind_some]
    rw [show (qcOf t view height block bits).2.2.1 = block from rfl, icopyBytes_eq (by omega), show (qcOf t view height block bits).2.2.2.2.1 = (bitsL bits).map (tagOf t view height block) from rfl, rd_map _ hrd]
    simp only [Option.bind_some]
    rw [icopyBytes_eq (by rw [tagOf, mac_length]; omega)]
    simp only [Option.bind_some]
    rw [app_ok (by simp; omega)]
    exact hR
include hn h1 h2 h3 h4
theorem iVoteGood_Y {who : Int} (hw0 : 0 ≤ who) (hw1 : who < l.1) : Y (fun k => iVoteGood k t (voteOf t view height block who)) true := by
  unfold iVoteGood
  refine Y.bind (iSignVote_Y hn h1 h2 h3 h4 hw0 hw1) ?_
  simp only [cond_true]
  refine Y.bind (Y.of (iVoteSame_self _)) (Y.pure _)
theorem iQcCode_Y : Y (fun k => iQcCode k l t (qcOf t view height block (fullB l.1))) 0 := by
  have hl := hn.n
  have hf := full_ok hl.1 hl.2.1
  have hb := bitsOk_len hf
  have hbl := bitsL_len (fullB l.1)
  have hbn := bitsN_len (fullB l.1)
  unfold iQcCode
  refine Y.bind hn.belongs ?_
  simp only [Bool.not_true, cond_false]
  refine Y.bind (iQcOk_Y (qcOf_fit hn h1 h2 h3 h4 hf (full_bytes hl.1 hl.2.1))) ?_
  rw [qcOk_iff.2 (qcOf_is hn h1 h2 h3 hf)]
  simp only [Bool.not_true, cond_false]
  refine Y.bind (iQcVotes_Y h3 (full_bytes hl.1 hl.2.1) (by omega)) ?_
  refine Y.bind (Y.all (xs := (bitsL (fullB l.1)).map (voteOf t view height block)) (by rw [List.length_map]; omega) (fun _ => true) (Sum.inl (t, qcOf t view height block (fullB l.1))) (Sum.inr 2) (fun v => ∃ w, 0 ≤ w ∧ w < l.1 ∧ v = voteOf t view height block w) (fun v hv => ?_) (fun k i => iQcCode_l0 k t (qcOf t view height block (fullB l.1)) ((bitsL (fullB l.1)).map (voteOf t view height block)) (len ((bitsL (fullB l.1)).map (voteOf t view height block))) i) (fun k v => iVoteGood k t v) (fun v hv => ?_) (fun k i => ?_)) ?_
  · obtain ⟨w, hw, rfl⟩ := List.mem_map.1 hv
    exact ⟨w, (bitsL_mem hw).1, hb.2.2.1 w hw, rfl⟩
  · obtain ⟨w, hw0, hw1, rfl⟩ := hv
    exact iVoteGood_Y hn h1 h2 h3 h4 hw0 hw1
  · simp only [iQcCode_l0]
    cases rd ((bitsL (fullB l.1)).map (voteOf t view height block)) i <;> rfl
  · rw [show (((bitsL (fullB l.1)).map (voteOf t view height block)).all fun _ => true) = true by simp]
    simp only [cond_true, sumE]
    refine Y.bind (iIsQuorum_Y hn) ?_
    exact Y.pure _
end
end Go.Ev.G
/- First and next headers. -/
namespace Go.Ev.G
open Go.Ev
def z32 : List Int := List.replicate 32 0
theorem mk_z32 : mk 32 (0 : Int) = some z32 := mk_ok (by omega) (by omega)
theorem z32_len : z32.length = 32 := List.length_replicate ..
theorem z32_bytes : Bytes z32 := zeros_bytes _
def firstH (l : DLimits) (view : Int) (root : List Int) : DHead := (view, 1, 0, z32, root, (0, 0, z32, zeroB l.1, [], ()), ())
structure Root (r : List Int) : Prop where
  len : r.length = 32
  bytes : Bytes r
theorem iBitsNew_eq {n : Int} (h0 : 1 ≤ n) (h1 : n ≤ 10) : iBitsNew n = some (zeroB n) := by
  unfold iBitsNew
  have hs := bitsSize_small (within_iff.2 ⟨h0, h1⟩)
  rw [iwithin_eq, within_iff.2 ⟨h0, h1⟩]
  simp only [Option.bind_some, Bool.not_true, cond_false]
  rw [bitsSize_i (by omega)]
  simp only [Option.bind_some]
  rw [mk_ok (by omega) (by omega)]
  rfl
theorem sBitsNew_eq {n : Int} (h0 : 1 ≤ n) (h1 : n ≤ 10) : sBitsNew n = some (zeroB n) := by
  unfold sBitsNew sl02Signers
  have hs := bitsSize_small (within_iff.2 ⟨h0, h1⟩)
  rw [sl01In_eq, within_iff.2 ⟨h0, h1⟩]
  simp only [Option.bind_some, Bool.not_true, cond_false]
  rw [bitsSize_s (by omega)]
  simp only [Option.bind_some]
  rw [mk_ok (by omega) (by omega)]
  rfl
section
variable {l : DLimits} {t : DTable} (hn : Net l t)
include hn
theorem firstH_fit {view : Int} {root : List Int} (hr : Root root) : fitHead (firstH l view root) := by
  have hl := hn.n
  have hb := bitsOk_len (zero_ok hl.1 hl.2.1).1
  exact ⟨by show z32.length < _; rw [z32_len]; omega, by show root.length < _; rw [hr.len]; omega, z32_bytes, hr.bytes, by show z32.length < _; rw [z32_len]; omega, by show (zeroB l.1).length < _; omega, by show 0 < 1000000000; omega, ⟨fun x hx => absurd hx (List.not_mem_nil), z32_bytes, zero_bytes _⟩⟩
theorem firstH_is {view : Int} {root : List Int} (h0 : 1 ≤ view) (h1 : view ≤ 1152921504606846975) (hr : Root root) : HeadIs l (firstH l view root) := by
  have hl := hn.n
  have hz := zero_ok hl.1 hl.2.1
  exact ⟨⟨hn.lim, isNum_iff.2 ⟨by show (0 : Int) ≤ 0; omega, by show (0 : Int) ≤ _; omega⟩, isNum_iff.2 ⟨by show (0 : Int) ≤ 0; omega, by show (0 : Int) ≤ _; omega⟩, z32_len, hz.1, hz.2.symm, fun x hx => absurd hx (List.not_mem_nil)⟩, isNum_iff.2 ⟨by show 0 ≤ view; omega, h1⟩, ⟨by show (1 : Int) ≤ 1; omega, by show (1 : Int) ≤ _; omega⟩, ⟨by show (0 : Int) ≤ 0; omega, by show 0 < l.1; omega⟩, z32_len, hr.len, by show 0 < view; omega, by show (0 : Int) = 1 - 1; omega, rfl⟩
theorem iFirstHead_Y {view : Int} {root : List Int} (h0 : 1 ≤ view) (h1 : view ≤ 1152921504606846975) (hr : Root root) : Y (fun k => iFirstHead k l t view root) (firstH l view root, true) := by
  have hl := hn.n
  unfold iFirstHead
  rw [mk_z32, icopyBytes_eq (by have := hr.len; omega), iBitsNew_eq hl.1 hl.2.1]
  simp only [Option.bind_some]
  rw [icopyBytes_eq (by rw [z32_len]; omega)]
  simp only [Option.bind_some]
  refine Y.bind hn.belongs (Y.bind (iHeadOk_Y (h := firstH l view root) (firstH_fit hn hr)) ?_)
  rw [headOk_iff.2 (firstH_is hn h0 h1 hr)]
  exact Y.pure _
theorem sFirstHead_Y {view : Int} {root : List Int} (h0 : 1 ≤ view) (h1 : view ≤ 1152921504606846975) (hr : Root root) : Y (fun k => sFirstHead k l t view root) (firstH l view root, true) := by
  have hl := hn.n
  unfold sFirstHead
  rw [mk_z32, sl01Copy_eq (by have := hr.len; omega), sBitsNew_eq hl.1 hl.2.1]
  simp only [Option.bind_some]
  refine Y.bind hn.goes (Y.bind (sHeadOk_Y (h := firstH l view root) (firstH_fit hn hr)) ?_)
  rw [headOk_iff.2 (firstH_is hn h0 h1 hr)]
  exact Y.pure _
end
def nextH (l : DLimits) (t : DTable) (a : DHead) (view prop : Int) (root : List Int) : DHead := (view, a.2.1 + 1, prop, headHash l a, root, qcOf t a.1 a.2.1 (headHash l a) (fullB l.1), ())
section
variable {l : DLimits} {t : DTable} (hn : Net l t) {a : DHead} (ha : HeadIs l a) (hf : fitHead a) (hh : a.2.1 < 1152921504606846975) {view prop : Int} {root : List Int} (hv : a.1 < view) (hv' : view ≤ 1152921504606846975) (hp0 : 0 ≤ prop) (hp1 : prop < l.1) (hr : Root root)
include hn ha hf
theorem hash_root : Root (headHash l a) := ⟨headHash_len (headOk_iff.2 ha), headHash_bytes l a⟩
include hh hv hv' hp0 hp1 hr
theorem nextH_is : HeadIs l (nextH l t a view prop root) := by
  have hl := hn.n
  have hr' := hash_root hn ha hf
  have hvn := isNum_iff.1 ha.view
  exact ⟨qcOf_is hn ha.view ha.heightNum hr'.len (full_ok hl.1 hl.2.1), isNum_iff.2 ⟨by show 0 ≤ view; omega, hv'⟩, ⟨by show 1 ≤ a.2.1 + 1; have := ha.height; omega, by show a.2.1 + 1 ≤ _; omega⟩, ⟨hp0, hp1⟩, hr'.len, hr.len, hv, by show a.2.1 = a.2.1 + 1 - 1; omega, rfl⟩
theorem nextH_fit : fitHead (nextH l t a view prop root) := by
  have hl := hn.n
  have hr' := hash_root hn ha hf
  exact ⟨by show (headHash l a).length < _; have := hr'.len; omega, by show root.length < _; have := hr.len; omega, hr'.bytes, hr.bytes, qcOf_fit hn ha.view ha.heightNum hr'.len hr'.bytes (full_ok hl.1 hl.2.1) (full_bytes hl.1 hl.2.1)⟩
theorem nextH_links : links l a (nextH l t a view prop root) = true := by
  unfold links
  rw [headOk_iff.2 ha, headOk_iff.2 (nextH_is hn ha hf hh hv hv' hp0 hp1 hr)]
  show (true && (true && ((headHash l a == headHash l a) && ((a.1 == a.1) && (a.2.1 == a.2.1))))) = true
  simp
theorem iNextHead_Y : Y (fun k => iNextHead k l t a view prop root (fullB l.1)) (nextH l t a view prop root, true) := by
  have hl := hn.n
  have hr' := hash_root hn ha hf
  have hN := nextH_fit hn ha hf hh hv hv' hp0 hp1 hr
  have hhp := ha.height
  unfold iNextHead
  refine Y.bind (iHeadHash_Y hf) ?_
  refine Y.bind (iBuildQc_Y hn ha.view ha.heightNum hr'.len hr'.bytes (full_ok hl.1 hl.2.1) (full_bytes hl.1 hl.2.1)) ?_
  rw [icopyBytes_eq (by have := hr.len; omega), ad_ok (by omega) (by omega)]
  simp only [Option.bind_some, Bool.not_true, cond_false]
  refine Y.bind (iLinks_Y (b := nextH l t a view prop root) hf hN) ?_
  rw [nextH_links hn ha hf hh hv hv' hp0 hp1 hr]
  simp only [Bool.not_true, cond_false]
  exact Y.bind (iHead_copied_Y (h := nextH l t a view prop root) hN) (Y.pure _)
theorem sNextHead_Y : Y (fun k => sNextHead k l t a view prop root (fullB l.1)) (nextH l t a view prop root, true) := by
  have hl := hn.n
  have hr' := hash_root hn ha hf
  have hN := nextH_fit hn ha hf hh hv hv' hp0 hp1 hr
  have hhp := ha.height
  unfold sNextHead
  refine Y.bind (sHeadHash_Y hf) ?_
  rw [sl01Copy_eq (by have := hr.len; omega), ad_ok (by omega) (by omega)]
  simp only [Option.bind_some]
  refine Y.bind (sBuildQc_Y hn ha.view ha.heightNum hr'.len hr'.bytes (full_ok hl.1 hl.2.1) (full_bytes hl.1 hl.2.1)) ?_
  simp only [Bool.not_true, cond_false]
  refine Y.bind (sLinks_Y (b := nextH l t a view prop root) hf hN) ?_
  rw [nextH_links hn ha hf hh hv hv' hp0 hp1 hr]
  exact Y.pure _
end
end Go.Ev.G
/- Proofs of commits. -/
namespace Go.Ev.G
open Go.Ev
def h0 : DHead := (0, 0, 0, [], [], (0, 0, [], [], [], ()), ())
def lastH (p : DProof) : DHead := p.1.getD (p.1.length - 1) h0
def closes (p : DProof) : Bool := (p.2.1.1 == (lastH p).1) && (p.2.1.2.1 == (lastH p).2.1)
def proofOk (l : DLimits) (p : DProof) : Bool := within (len p.1) 3 l.2.2.2.2.1 && (p.1.all (headOk l) && (qcOk l p.2.1 && closes p))
theorem iareHeads_Y {l : DLimits} {hs : List DHead} (h : fitHeads hs) : Y (fun k => iareHeads k l hs) (hs.all (headOk l)) := by
  unfold iareHeads
  refine Y.bind (Y.all (xs := hs) (by have := h.1; omega) (headOk l) (Sum.inl ()) (Sum.inr false) fitHead h.2 (fun k i => iareHeads_l0 k l hs (len hs) i) (fun k x => iHeadOk k l x) (fun x hx => iHeadOk_Y hx) (fun k i => rfl)) ?_
  cases hs.all (headOk l) <;> exact Y.pure _
theorem last_rd {p : DProof} (h : 1 ≤ p.1.length) (hf : p.1.length < 1000000000) : rd p.1 (su .i64 (len p.1) 1) = some (lastH p) := by
  rw [su_ok (by unfold len; omega) (by unfold len; omega), rd_getD h0 (by unfold len; omega) (by omega)]
  unfold lastH len
  congr 2
  omega
theorem iProofOk_Y {l : DLimits} {p : DProof} (h : fitProof p) : Y (fun k => iProofOk k l p) (proofOk l p) := by
  unfold iProofOk proofOk
  rw [iwithin_eq]
  simp only [Option.bind_some]
  refine Y.and fun hw => Y.bind (iareHeads_Y h.1) (Y.and fun _ => Y.bind (iQcOk_Y h.2) (Y.and fun _ => ?_))
  rw [within_iff] at hw
  unfold iProof_closes
  rw [last_rd (by unfold len at hw; omega) h.1.1]
  unfold closes
  simp only [Option.bind_some]
  cases p.2.1.1 == (lastH p).1 <;> exact Y.pure _
def proofB (p : DProof) : List Int := numB (len p.1) ++ ((p.1.map headB).flatten ++ qcB p.2.1)
structure ProofIs (l : DLimits) (p : DProof) : Prop where
  size : 3 ≤ p.1.length ∧ (p.1.length : Int) ≤ l.2.2.2.2.1
  heads : ∀ h ∈ p.1, HeadIs l h
  qc : QcIs l p.2.1
  closes : closes p = true
theorem limitsOk_chain {l : DLimits} (h : limitsOk l = true) : 3 ≤ l.2.2.2.2.1 ∧ l.2.2.2.2.1 ≤ 5 := by
  simp only [limitsOk, Bool.and_eq_true, within_iff] at h
  omega
theorem proofOk_iff {l : DLimits} {p : DProof} : proofOk l p = true ↔ ProofIs l p := by
  simp only [proofOk, Bool.and_eq_true, within_iff, List.all_eq_true, headOk_iff, qcOk_iff, len]
  constructor
  · rintro ⟨a, b, c, d⟩; exact ⟨by omega, b, c, d⟩
  · rintro ⟨a, b, c, d⟩; exact ⟨by omega, b, c, d⟩
theorem ProofIs.small {l : DLimits} {p : DProof} (h : ProofIs l p) : p.1.length ≤ 5 := by
  have := limitsOk_chain h.qc.lim
  have := h.size
  omega
theorem iPutProof_Y {l : DLimits} {p : DProof} {b : List Int} (hf : fitProof p) (h : ProofIs l p) (hb : b.length < 8000000) : Y (fun k => iPutProof k l b p) (b ++ proofB p, true) := by
  have hs := h.small
  have hz := h.size
  have hN : isNum (len p.1) = true := isNum_iff.2 ⟨len_nonneg _, by unfold len; omega⟩
  have h9 := numB_len hN
  unfold numB at h9
  unfold iPutProof
  refine Y.bind (iProofOk_Y hf) ?_
  rw [proofOk_iff.2 h]
  simp only [Bool.not_true, cond_false]
  rw [icopyBytes_eq (by omega)]
  simp only [Option.bind_some]
  refine Y.bind (iwriter_num_Y (by omega) hN) ?_
  have := Y.loop (σ := List Int) (xs := p.1) (by omega) (fun k s i => iPutProof_l0 k p (s, ()) p.1 (len p.1) i) (fun s post => s.length + 500 * post.length < 8900000 ∧ ∀ x ∈ post, HeadIs l x) (fun s post => (p, ((s ++ (post.map headB).flatten, ()) : Dwriter))) (fun s _ => ?_) (fun s x post i hi h0 h1' hrd had ih => ?_)
    (b ++ varB (len p.1).toNat) ⟨by simp only [List.length_append]; omega, h.heads⟩
  · refine Y.bind this ?_
    simp only
    have hl : ((p.1.map headB).flatten).length ≤ 500 * p.1.length := by
      have : ∀ hs : List DHead, (∀ h ∈ hs, HeadIs l h) → ((hs.map headB).flatten).length ≤ 500 * hs.length := by
        intro hs
        induction hs with
        | nil => intro _; simp
        | cons x hs ih =>
          intro hx
          have := headB_len (hx x (by simp))
          have := ih fun y hy => hx y (by simp [hy])
          simp only [List.map_cons, List.flatten_cons, List.length_append, List.length_cons]
          omega
      exact this _ h.heads
    refine Y.bind (iwriter_qc_Y h.qc (by simp only [List.length_append]; omega)) ?_
    unfold proofB numB
    simp only [List.append_assoc]
    exact Y.pure _
  · simp only [iPutProof_l0]
    rw [show decide (len p.1 < len p.1) = false by simp]
    simp only [cond_false, List.map_nil, List.flatten_nil, List.append_nil]
    exact Y.pure _
  · simp only [iPutProof_l0]
    have hx := hi.2 x (by simp)
    have hl := headB_len hx
    simp only [List.length_cons] at hi
    rw [show decide (i < len p.1) = true by simpa using h1', hrd, had]
    simp only [cond_true, Option.bind_some]
    refine Y.bind (iwriter_head_Y hx (by omega)) ?_
    have := ih (s ++ headB x) ⟨by simp only [List.length_append]; omega, fun y hy => hi.2 y (by simp [hy])⟩
    rw [List.append_assoc] at this
    exact this
/-- A header that follows another with the certificate of all signers. -/
structure Next (l : DLimits) (t : DTable) (a b : DHead) : Prop where
  is : HeadIs l b
  fit : fitHead b
  view : b.1 = a.1 + 1
  link : links l a b = true
  qc : b.2.2.2.2.2.1 = qcOf t a.1 a.2.1 (headHash l a) (fullB l.1)
theorem nextH_next {l : DLimits} {t : DTable} (hn : Net l t) {a : DHead} (ha : HeadIs l a) (hf : fitHead a) (hh : a.2.1 < 1152921504606846975) (hv : a.1 < 1152921504606846975) {prop : Int} {root : List Int} (hp0 : 0 ≤ prop) (hp1 : prop < l.1) (hr : Root root) : Next l t a (nextH l t a (a.1 + 1) prop root) :=
  ⟨nextH_is hn ha hf hh (by omega) (by omega) hp0 hp1 hr, nextH_fit hn ha hf hh (by omega) (by omega) hp0 hp1 hr, rfl, nextH_links hn ha hf hh (by omega) (by omega) hp0 hp1 hr, rfl⟩
def proofOf (l : DLimits) (t : DTable) (a b c : DHead) : DProof := ([a, b, c], qcOf t c.1 c.2.1 (headHash l c) (fullB l.1), ())
section
variable {l : DLimits} {t : DTable} (hn : Net l t) {a b c : DHead} (ha : HeadIs l a) (hf : fitHead a) (hb : Next l t a b) (hc : Next l t b c)
include hn ha hf hb hc
theorem proofOf_fit : fitProof (proofOf l t a b c) := by
  have hl := hn.n
  have hr := hash_root hn hc.is hc.fit
  refine ⟨⟨by show 3 < _; omega, fun h hh => ?_⟩, qcOf_fit hn hc.is.view hc.is.heightNum hr.len hr.bytes (full_ok hl.1 hl.2.1) (full_bytes hl.1 hl.2.1)⟩
  simp only [proofOf, List.mem_cons, List.not_mem_nil, or_false] at hh
  rcases hh with rfl | rfl | rfl
  · exact hf
  · exact hb.fit
  · exact hc.fit
theorem proofOf_is : ProofIs l (proofOf l t a b c) := by
  have hl := hn.n
  have hr := hash_root hn hc.is hc.fit
  have h3 := limitsOk_chain hn.lim
  refine ⟨⟨by show 3 ≤ 3; omega, by show (3 : Int) ≤ _; omega⟩, fun h hh => ?_, qcOf_is hn hc.is.view hc.is.heightNum hr.len (full_ok hl.1 hl.2.1), ?_⟩
  · simp only [proofOf, List.mem_cons, List.not_mem_nil, or_false] at hh
    rcases hh with rfl | rfl | rfl
    · exact ha
    · exact hb.is
    · exact hc.is
  · show ((c.1 == c.1) && (c.2.1 == c.2.1)) = true
    simp
theorem iBuildProof_Y : Y (fun k => iBuildProof k l t [a, b, c] (fullB l.1)) (proofOf l t a b c, true) := by
  have hl := hn.n
  have hr := hash_root hn hc.is hc.fit
  have hpf := proofOf_fit hn ha hf hb hc
  unfold iBuildProof
  rw [show (len [a, b, c] == 0) = false from rfl, show rd [a, b, c] (su .i64 (len [a, b, c]) 1) = some c from rfl]
  simp only [cond_false, Option.bind_some]
  refine Y.bind (iHeadHash_Y hc.fit) ?_
  refine Y.bind (iBuildQc_Y hn hc.is.view hc.is.heightNum hr.len hr.bytes (full_ok hl.1 hl.2.1) (full_bytes hl.1 hl.2.1)) ?_
  refine Y.bind (icopyHeads_Y hpf.1) ?_
  simp only [Bool.not_true, cond_false]
  refine Y.bind (iProofOk_Y (p := proofOf l t a b c) hpf) ?_
  rw [proofOk_iff.2 (proofOf_is hn ha hf hb hc)]
  exact Y.pure _
theorem iChainCode_Y : Y (fun k => iChainCode k l [a, b, c]) 0 := by
  have hpf := proofOf_fit hn ha hf hb hc
  have hpi := proofOf_is hn ha hf hb hc
  unfold iChainCode
  rw [show (len [a, b, c] == 0) = false from rfl]
  simp only [cond_false]
  refine Y.bind (iareHeads_Y hpf.1) ?_
  rw [show ([a, b, c].all (headOk l)) = true from List.all_eq_true.2 fun x hx => headOk_iff.2 (hpi.heads x hx)]
  simp only [Bool.not_true, cond_false]
  refine Y.bind (a := Sum.inl ()) ?_ (Y.pure _)
  refine Y.step ?_
  simp only [iChainCode_l0]
  rw [show decide ((1 : Int) < len [a, b, c]) = true from rfl, show rd [a, b, c] (su .i64 1 1) = some a from rfl, show rd [a, b, c] 1 = some b from rfl, show ad .i64 1 1 = 2 from rfl]
  simp only [cond_true, Option.bind_some]
  refine Y.bind (iLinks_Y hf hb.fit) ?_
  rw [hb.link]
  simp only [Bool.not_true, cond_false]
  refine Y.step ?_
  simp only [iChainCode_l0]
  rw [show decide ((2 : Int) < len [a, b, c]) = true from rfl, show rd [a, b, c] (su .i64 2 1) = some b from rfl, show rd [a, b, c] 2 = some c from rfl, show ad .i64 2 1 = 3 from rfl]
  simp only [cond_true, Option.bind_some]
  refine Y.bind (iLinks_Y hb.fit hc.fit) ?_
  rw [hc.link]
  simp only [Bool.not_true, cond_false]
  refine Y.step ?_
  simp only [iChainCode_l0]
  rw [show decide ((3 : Int) < len [a, b, c]) = false from rfl]
  exact Y.pure _
theorem iProofCode_Y : Y (fun k => iProofCode k l t (proofOf l t a b c)) 0 := by
  have hl := hn.n
  have hpf := proofOf_fit hn ha hf hb hc
  have hpi := proofOf_is hn ha hf hb hc
  have hra := hash_root hn ha hf
  have hrb := hash_root hn hb.is hb.fit
  have hrc := hash_root hn hc.is hc.fit
  have hva := isNum_iff.1 ha.view
  have hvb := isNum_iff.1 hb.is.view
  have e1 : (b.1 != ad .i64 a.1 1) = false := by rw [ad_ok (by omega) (by omega), hb.view]; simp
  have e2 : (c.1 != ad .i64 b.1 1) = false := by rw [ad_ok (by omega) (by omega), hc.view]; simp
  unfold iProofCode
  refine Y.bind hn.belongs ?_
  simp only [Bool.not_true, cond_false]
  refine Y.bind (iProofOk_Y hpf) ?_
  rw [proofOk_iff.2 hpi, show (proofOf l t a b c).1 = [a, b, c] from rfl]
  simp only [Bool.not_true, cond_false]
  refine Y.bind (iChainCode_Y hn ha hf hb hc) ?_
  rw [show ((0 : Int) != 0) = false from rfl, show rd [a, b, c] (su .i64 (len [a, b, c]) 1) = some c from rfl, show rd [a, b, c] (su .i64 (len [a, b, c]) 2) = some b from rfl, show rd [a, b, c] (su .i64 (len [a, b, c]) 3) = some a from rfl, show sub [a, b, c] 1 (len [a, b, c]) = some [b, c] from rfl]
  simp only [cond_false, Option.bind_some, e1, e2]
  refine Y.bind (iHeadHash_Y hc.fit) ?_
  rw [iSameBytes_eq, show (proofOf l t a b c).2.1.2.2.1 = headHash l c from rfl, show (headHash l c == headHash l c) = true by simp]
  simp only [Option.bind_some, Bool.not_true, cond_false]
  refine Y.bind (a := Sum.inl (l, t, proofOf l t a b c)) ?_ ?_
  · refine Y.step ?_
    simp only [iProofCode_l0]
    rw [show decide ((0 : Int) < len [b, c]) = true from rfl, show rd [b, c] 0 = some b from rfl, show ad .i64 0 1 = 1 from rfl]
    simp only [cond_true, Option.bind_some, hb.qc]
    refine Y.bind (iQcCode_Y hn ha.view ha.heightNum hra.len hra.bytes) ?_
    rw [show ((0 : Int) != 0) = false from rfl]
    simp only [cond_false]
    refine Y.step ?_
    simp only [iProofCode_l0]
    rw [show decide ((1 : Int) < len [b, c]) = true from rfl, show rd [b, c] 1 = some c from rfl, show ad .i64 1 1 = 2 from rfl]
    simp only [cond_true, Option.bind_some, hc.qc]
    refine Y.bind (iQcCode_Y hn hb.is.view hb.is.heightNum hrb.len hrb.bytes) ?_
    rw [show ((0 : Int) != 0) = false from rfl]
    simp only [cond_false]
    refine Y.step ?_
    simp only [iProofCode_l0]
    rw [show decide ((2 : Int) < len [b, c]) = false from rfl]
    exact Y.pure _
  · exact Y.bind (iQcCode_Y hn hc.is.view hc.is.heightNum hrc.len hrc.bytes) (Y.pure _)
theorem iCommits_Y : Y (fun k => iCommits k l (proofOf l t a b c)) (a, true) := by
  have hpf := proofOf_fit hn ha hf hb hc
  have hpi := proofOf_is hn ha hf hb hc
  unfold iCommits
  refine Y.bind (iProofOk_Y hpf) ?_
  rw [proofOk_iff.2 hpi, show (proofOf l t a b c).1 = [a, b, c] from rfl, show rd [a, b, c] (su .i64 (len [a, b, c]) 3) = some a from rfl]
  simp only [Bool.not_true, cond_false, Option.bind_some]
  exact Y.bind (iHead_copied_Y hf) (Y.pure _)
end
end Go.Ev.G
/- Messages that hold a proof, and what the light client makes of them. -/
namespace Go.Ev.G
open Go.Ev
def q0 : DQc := (0, 0, [], [], [], ())
def msg6 (p : DProof) : DMsg := (6, (0, 0, [], 0, [], ()), q0, h0, (h0, [], ()), (0, [], ()), p, (0, 0, 0, [], [], ()), ())
theorem q0_fit : fitQc q0 := ⟨by show 0 < _; omega, by show 0 < _; omega, by show 0 < _; omega, fun x hx => absurd hx (List.not_mem_nil), Bytes.nil, Bytes.nil⟩
theorem h0_fit : fitHead h0 := ⟨by show 0 < _; omega, by show 0 < _; omega, Bytes.nil, Bytes.nil, q0_fit⟩
theorem iOfProof_Y {p : DProof} (h : fitProof p) : Y (fun k => iOfProof k p) (msg6 p) := by
  unfold iOfProof
  exact Y.bind (iProof_copied_Y h) (Y.pure _)
theorem iMsgSame6 {p : DProof} (h : fitProof p) : Y (fun k => iMsgSame k (msg6 p) (msg6 p)) true := by
  unfold iMsgSame
  rw [show ((msg6 p).1 == (msg6 p).1) = true from rfl, iVoteSame_self]
  simp only [cond_true, Option.bind_some]
  refine Y.bind (iQcSame_Y (a := q0) (b := q0) q0_fit) ?_
  rw [same_true rfl]
  simp only [cond_true]
  refine Y.bind (iHeadSame_Y (a := h0) (b := h0) h0_fit) ?_
  rw [same_true rfl]
  simp only [cond_true]
  refine Y.bind (a := true) ?_ ?_
  · show Y (fun k => iBlockSame k (h0, [], ()) (h0, [], ())) true
    unfold iBlockSame
    refine Y.bind (iHeadSame_Y (a := h0) (b := h0) h0_fit) ?_
    rw [same_true rfl]
    simp only [cond_true]
    refine Y.bind (iTreeSame_Y (by simp)) ?_
    rw [same_true rfl]
    exact Y.pure _
  simp only [cond_true]
  refine Y.bind (a := true) ?_ ?_
  · show Y (fun k => iTcSame k (0, [], ()) (0, [], ())) true
    unfold iTcSame
    rw [show ((0 : Int) != 0) = false from rfl, show (len ([] : List DEntry) != len ([] : List DEntry)) = false from rfl]
    simp only [cond_false]
    refine Y.bind (a := Sum.inl ()) (Y.step ?_) (Y.pure _)
    simp only [iTcSame_l0]
    rw [show decide ((0 : Int) < len ([] : List DEntry)) = false from rfl]
    exact Y.pure _
  simp only [cond_true]
  refine Y.bind (a := true) ?_ ?_
  · show Y (fun k => iProofSame k p p) true
    unfold iProofSame
    refine Y.bind (iheadsSame_Y h.1) ?_
    rw [same_true rfl]
    simp only [cond_true]
    refine Y.bind (iQcSame_Y h.2) ?_
    rw [same_true rfl]
    exact Y.pure _
  simp only [cond_true]
  refine Y.bind (a := true) ?_ (Y.pure _)
  show Y (fun k => iInclSame k (0, 0, 0, [], [], ()) (0, 0, 0, [], [], ())) true
  unfold iInclSame
  rw [show ((0 : Int) == 0) = true from rfl, iSameBytes_eq, show (([] : List Int) == []) = true from rfl]
  simp only [cond_true, Option.bind_some]
  refine Y.bind (iTreeSame_Y (by simp)) ?_
  rw [same_true rfl]
  exact Y.pure _
theorem iMsgOk6 {l : DLimits} {p : DProof} (h : fitProof p) (hi : ProofIs l p) : Y (fun k => iMsgOk k l (msg6 p)) true := by
  unfold iMsgOk
  refine Y.bind (a := ([] ++ proofB p, true)) ?_ ?_
  · unfold iMsg_put
    rw [show ((msg6 p).1 == 1) = false from rfl, show ((msg6 p).1 == 2) = false from rfl, show ((msg6 p).1 == 3) = false from rfl, show ((msg6 p).1 == 4) = false from rfl, show ((msg6 p).1 == 5) = false from rfl, show ((msg6 p).1 == 6) = true from rfl]
    simp only [cond_true, cond_false]
    exact Y.bind (iPutProof_Y (p := p) h hi (by simp)) (Y.pure _)
  simp only [cond_true]
  refine Y.bind (a := msg6 p) ?_ (Y.bind (iMsgSame6 h) (Y.pure _))
  unfold iMsg_alone
  rw [show ((msg6 p).1 == 1) = false from rfl, show ((msg6 p).1 == 2) = false from rfl, show ((msg6 p).1 == 3) = false from rfl, show ((msg6 p).1 == 4) = false from rfl, show ((msg6 p).1 == 5) = false from rfl, show ((msg6 p).1 == 6) = true from rfl]
  simp only [cond_true, cond_false]
  exact Y.bind (iOfProof_Y (p := p) h) (Y.pure _)
/-- A light client with nothing pending. -/
def lightOf (l : DLimits) (t : DTable) (hs : List DHead) : DLight := (l, t, (0, [], ()), hs, ())
section
variable {l : DLimits} {t : DTable} (hn : Net l t)
include hn
theorem lightOf_fit {hs : List DHead} (h : fitHeads hs) : fitLight (lightOf l t hs) := ⟨hn.fitT, by show 0 < _; omega, h⟩
theorem iPushOk_Y : Y (fun k => iPushOk k l (0, [], ())) true := by
  unfold iPushOk
  refine Y.bind (a := (0, 0)) ?_ ?_
  · unfold iFrameAt
    rw [iLimitsOk_eq, hn.lim, iwithin_eq, show within 0 0 (su .i64 (len ([] : List Int)) 1) = false from rfl]
    exact Y.pure _
  · rw [iLimitsOk_eq, hn.lim, iisNum_eq, show isNum 0 = true from rfl]
    exact Y.pure _
theorem lightOk_end {hs : List DHead} (h8 : hs.length ≤ 8) (h : Y (fun k => iLightOk_l0 k (lightOf l t hs) hs (len hs) 0) (Sum.inl (lightOf l t hs))) : Y (fun k => iLightOk k (lightOf l t hs)) true := by
  unfold iLightOk
  refine Y.bind h ?_
  simp only [sumE]
  refine Y.bind (Net.belongs hn) ?_
  simp only [cond_true]
  refine Y.bind (iPushOk_Y hn) ?_
  rw [show decide (len (lightOf l t hs).2.2.2.1 ≤ 8) = true from decide_eq_true (by show len hs ≤ 8; unfold len; omega)]
  exact Y.pure _
theorem iLightOk0 : Y (fun k => iLightOk k (lightOf l t [])) true := by
  refine lightOk_end hn (by simp) (Y.step ?_)
  simp only [iLightOk_l0]
  rw [show decide ((0 : Int) < len ([] : List DHead)) = false from rfl]
  exact Y.pure _
theorem iLightOk1 {h : DHead} (hf : fitHead h) (hi : HeadIs l h) : Y (fun k => iLightOk k (lightOf l t [h])) true := by
  refine lightOk_end hn (by simp) (Y.step ?_)
  simp only [iLightOk_l0]
  rw [show decide ((0 : Int) < len [h]) = true from rfl, show rd [h] 0 = some h from rfl, show ad .i64 0 1 = 1 from rfl, show decide ((0 : Int) > 0) = false from rfl]
  simp only [cond_true, cond_false, Option.bind_some]
  refine Y.bind (iHeadOk_Y (l := l) hf) ?_
  rw [headOk_iff.2 hi]
  simp only [Bool.not_true, cond_false]
  refine Y.step ?_
  simp only [iLightOk_l0]
  rw [show decide ((1 : Int) < len [h]) = false from rfl]
  exact Y.pure _
theorem iLightNew_Y : Y (fun k => iLightNew k l t) (lightOf l t [], true) := by
  unfold iLightNew
  refine Y.bind hn.belongs ?_
  simp only [Bool.not_true, cond_false]
  exact Y.bind (iTable_copied_Y hn.fitT) (Y.pure _)
theorem iKnown0 (n : Int) : Y (fun k => iKnown k (lightOf l t []) n) (h0, false) := by
  unfold iKnown
  refine Y.bind (a := Sum.inl h0) (Y.step ?_) (Y.pure _)
  rw [show (lightOf l t []).2.2.2.1 = [] from rfl]
  simp only [iKnown_l0]
  rw [show decide ((0 : Int) < len ([] : List DHead)) = false from rfl]
  exact Y.pure _
theorem iKnown1 {h : DHead} (hf : fitHead h) (hi : HeadIs l h) : Y (fun k => iKnown k (lightOf l t [h]) h.2.1) (h, true) := by
  unfold iKnown
  refine Y.bind (a := Sum.inr (h, true)) (Y.step ?_) (Y.pure _)
  rw [show (lightOf l t [h]).2.2.2.1 = [h] from rfl]
  simp only [iKnown_l0]
  rw [show decide ((0 : Int) < len [h]) = true from rfl, show rd [h] 0 = some h from rfl]
  simp only [cond_true, Option.bind_some, beq_self_eq_true]
  refine Y.bind (iLightOk1 hn hf hi) ?_
  simp only [cond_true]
  exact Y.bind (iHead_copied_Y hf) (Y.pure _)
variable {a b c : DHead} (ha : HeadIs l a) (hf : fitHead a) (hb : Next l t a b) (hc : Next l t b c)
include ha hf hb hc
theorem one_fit : fitHeads [a] := ⟨by show 1 < _; omega, fun h hh => by simp only [List.mem_cons, List.not_mem_nil, or_false] at hh; rw [hh]; exact hf⟩
/-- The first commit is taken. -/
theorem iJudge0 : Y (fun k => iJudge k (lightOf l t []) (msg6 (proofOf l t a b c))) (lightOf l t [a], 1) := by
  have hpf := proofOf_fit hn ha hf hb hc
  have hpi := proofOf_is hn ha hf hb hc
  have hnil : fitHeads [] := ⟨by show 0 < _; omega, fun h hh => absurd hh (List.not_mem_nil)⟩
  unfold iJudge
  refine Y.bind (iLight_copied_Y (lightOf_fit hn hnil)) (Y.bind (iLightOk0 hn) ?_)
  simp only [Bool.not_true, cond_false]
  refine Y.bind (iMsgOk6 (l := l) hpf hpi) ?_
  rw [show ((msg6 (proofOf l t a b c)).1 == 2) = false from rfl, show ((msg6 (proofOf l t a b c)).1 == 5) = false from rfl, show ((msg6 (proofOf l t a b c)).1 == 6) = true from rfl]
  simp only [Bool.not_true, cond_true, cond_false]
  refine Y.bind ?_ (Y.pure _)
  show Y (fun k => iLight_commit k (lightOf l t []) (proofOf l t a b c)) _
  unfold iLight_commit
  refine Y.bind (iLight_copied_Y (lightOf_fit hn hnil)) (Y.bind (iProofCode_Y hn ha hf hb hc) ?_)
  rw [show ((0 : Int) != 0) = false from rfl]
  simp only [cond_false]
  refine Y.bind (iCommits_Y hn ha hf hb hc) (Y.bind (iKnown0 hn _) ?_)
  rw [show (lightOf l t []).2.2.2.1 = [] from rfl, show decide (len ([] : List DHead) > 0) = false from rfl, show (len ([] : List DHead) == 8) = false from rfl]
  simp only [cond_false]
  refine Y.bind (a := (lightOf l t [], ((0, 0, 0, 0, 0, ()), ([], ()), (0, [], ()), [], ()), lightOf l t [], a, 0)) (Y.step ?_) ?_
  · simp only [iLight_commit_l0]
    rw [show decide ((0 : Int) < len ([] : List DHead)) = false from rfl]
    exact Y.pure _
  simp only
  rw [show sub (lightOf l t []).2.2.2.1 0 0 = some [] from rfl, show sub (lightOf l t []).2.2.2.1 0 (len (lightOf l t []).2.2.2.1) = some [] from rfl]
  simp only [Option.bind_some]
  refine Y.bind (icopyHeads_Y hnil) ?_
  rw [show app [] [a] = some [a] from app_nil (by simp)]
  simp only [Option.bind_some]
  refine Y.bind (icopyHeads_Y hnil) ?_
  rw [show app [a] [] = some [a] from app_ok (by simp)]
  simp only [Option.bind_some]
  rw [show decide (len [a] > 8) = false from rfl]
  exact Y.pure _
end
/-- A second commit of one height: the same header is known, another clashes; the state stays. -/
theorem iJudge1 {l : DLimits} {t : DTable} (hn : Net l t) {a b c h : DHead} (ha : HeadIs l a) (hf : fitHead a) (hb : Next l t a b) (hc : Next l t b c) (hh : HeadIs l h) (hhf : fitHead h) (he : a.2.1 = h.2.1) :
    Y (fun k => iJudge k (lightOf l t [h]) (msg6 (proofOf l t a b c))) (lightOf l t [h], cond (same h a) 2 4) := by
  have hpf := proofOf_fit hn ha hf hb hc
  have hpi := proofOf_is hn ha hf hb hc
  have hone : fitHeads [h] := ⟨by show 1 < _; omega, fun x hx => by simp only [List.mem_cons, List.not_mem_nil, or_false] at hx; rw [hx]; exact hhf⟩
  unfold iJudge
  refine Y.bind (iLight_copied_Y (lightOf_fit hn hone)) (Y.bind (iLightOk1 hn hhf hh) ?_)
  simp only [Bool.not_true, cond_false]
  refine Y.bind (iMsgOk6 (l := l) hpf hpi) ?_
  rw [show ((msg6 (proofOf l t a b c)).1 == 2) = false from rfl, show ((msg6 (proofOf l t a b c)).1 == 5) = false from rfl, show ((msg6 (proofOf l t a b c)).1 == 6) = true from rfl]
  simp only [Bool.not_true, cond_true, cond_false]
  refine Y.bind ?_ (Y.pure _)
  show Y (fun k => iLight_commit k (lightOf l t [h]) (proofOf l t a b c)) _
  unfold iLight_commit
  refine Y.bind (iLight_copied_Y (lightOf_fit hn hone)) (Y.bind (iProofCode_Y hn ha hf hb hc) ?_)
  rw [show ((0 : Int) != 0) = false from rfl]
  simp only [cond_false]
  refine Y.bind (iCommits_Y hn ha hf hb hc) ?_
  simp only [he]
  refine Y.bind (iKnown1 hn hhf hh) ?_
  simp only [cond_true]
  refine Y.bind (iHeadSame_Y hhf) ?_
  cases same h a <;> exact Y.pure _
end Go.Ev.G
/- What is drawn from the code. -/
namespace Go.Ev.G
open Go.Ev
theorem an_255 (x : Int) : 0 ≤ an .i64 x 255 ∧ an .i64 x 255 ≤ 255 := by
  unfold an
  have h : (BitVec.ofInt 64 x &&& BitVec.ofInt 64 255).toNat ≤ 255 := by
    rw [BitVec.toNat_and, show (BitVec.ofInt 64 255).toNat = 255 from rfl]
    exact Nat.and_le_right
  show 0 ≤ IntKind.wrap .i64 (((BitVec.ofInt 64 x &&& BitVec.ofInt 64 255).toNat : Nat) : Int) ∧ IntKind.wrap .i64 (((BitVec.ofInt 64 x &&& BitVec.ofInt 64 255).toNat : Nat) : Int) ≤ 255
  rw [wrap_i64 (by omega) (by omega)]
  omega
/-- A reading place within its text. -/
def CurOk (c : Dl01Cur) : Prop := 0 ≤ c.2.1 ∧ c.2.1 ≤ len c.1 ∧ c.1.length < 1000000000
theorem byte_ok {c : Dl01Cur} (h : CurOk c) : ∃ v c', sl01Byte c = some (v, c') ∧ 0 ≤ v ∧ v ≤ 255 ∧ CurOk c' := by
  unfold sl01Byte
  by_cases hl : c.2.1 < len c.1
  · rw [decide_eq_true hl, rd_ok h.1 hl]
    simp only [cond_true, Option.bind_some]
    refine ⟨_, _, rfl, (an_255 _).1, (an_255 _).2, ?_, ?_, h.2.2⟩
    · show 0 ≤ ad .i64 c.2.1 1
      have := h.1
      have := h.2.2
      rw [ad_ok (by omega) (by unfold len at hl; omega)]
      omega
    · show ad .i64 c.2.1 1 ≤ len c.1
      have := h.1
      have := h.2.2
      rw [ad_ok (by omega) (by unfold len at hl; omega)]
      omega
  · rw [decide_eq_false hl]
    simp only [cond_false]
    exact ⟨_, _, rfl, (an_255 _).1, (an_255 _).2, h.1, h.2.1, h.2.2⟩
theorem below_ok {c : Dl01Cur} (h : CurOk c) {n : Int} (hn : 0 < n) : ∃ v c', sl01Below c n = some (v, c') ∧ 0 ≤ v ∧ v < n ∧ CurOk c' := by
  unfold sl01Below
  rw [decide_eq_false (show ¬ n ≤ 0 by omega), show (n == 0) = false by simp; omega]
  simp only [cond_false]
  by_cases h2 : n ≤ 256
  · rw [decide_eq_true h2]
    simp only [cond_true]
    obtain ⟨v, c', e, h0, h1, hc⟩ := byte_ok h
    rw [e]
    simp only [Option.bind_some]
    rw [re_ok h0]
    exact ⟨_, _, rfl, Int.emod_nonneg _ (by omega), Int.emod_lt_of_pos _ hn, hc⟩
  · rw [decide_eq_false h2]
    simp only [cond_false]
    obtain ⟨v1, c1, e1, a1, b1, hc1⟩ := byte_ok h
    rw [e1]
    simp only [Option.bind_some]
    obtain ⟨v2, c2, e2, a2, b2, hc2⟩ := byte_ok hc1
    rw [e2]
    simp only [Option.bind_some]
    obtain ⟨v3, c3, e3, a3, b3, hc3⟩ := byte_ok hc2
    rw [e3]
    simp only [Option.bind_some]
    obtain ⟨v4, c4, e4, a4, b4, hc4⟩ := byte_ok hc3
    rw [e4]
    simp only [Option.bind_some]
    rw [mu_ok (by omega) (by omega), mu_ok (by omega) (by omega), mu_ok (by omega) (by omega), ad_ok (a := v1 * 16777216) (by omega) (by omega), ad_ok (a := v1 * 16777216 + v2 * 65536) (by omega) (by omega), ad_ok (a := v1 * 16777216 + v2 * 65536 + v3 * 256) (by omega) (by omega), re_ok (by omega)]
    exact ⟨_, _, rfl, Int.emod_nonneg _ (by omega), Int.emod_lt_of_pos _ hn, hc4⟩
theorem pick_ok {c : Dl01Cur} (h : CurOk c) {l : List Int} (hl : 0 < l.length) : ∃ v c', sl01Pick c l = some (v, c') ∧ v ∈ l ∧ CurOk c' := by
  unfold sl01Pick
  obtain ⟨i, c', e, h0, h1, hc⟩ := below_ok h (n := len l) (by unfold len; omega)
  rw [e]
  simp only [Option.bind_some]
  rw [rd_ok h0 h1]
  exact ⟨_, _, rfl, List.getElem_mem _, hc⟩
theorem Bytes.set {b : List Int} (h : Bytes b) (i : Nat) {x : Int} (h0 : 0 ≤ x) (h1 : x ≤ 255) : Bytes (b.set i x) := fun y hy => by
  rcases List.mem_or_eq_of_mem_set hy with hy | rfl
  · exact h y hy
  · exact ⟨h0, h1⟩
theorem cv_byte (n : Int) : 0 ≤ cv .u8 n ∧ cv .u8 n ≤ 255 := by rw [cv_u8]; omega
theorem hash_ok {c : Dl01Cur} (h : CurOk c) : ∃ v c', sl11Hash c = some (v, c') ∧ Root v ∧ CurOk c' := by
  unfold sl11Hash
  rw [mk_z32]
  simp only [Option.bind_some]
  obtain ⟨a, c1, e1, _, _, hc1⟩ := below_ok h (n := 3) (by omega)
  rw [e1]
  simp only [Option.bind_some]
  rw [rd_getD 0 (xs := z32) (i := 0) (by omega) (by unfold len; rw [z32_len]; omega), st_ok (xs := z32) (i := 0) (by omega) (by unfold len; rw [z32_len]; omega)]
  simp only [Option.bind_some]
  obtain ⟨b, c2, e2, _, _, hc2⟩ := byte_ok hc1
  rw [e2]
  simp only [Option.bind_some]
  have hl : (z32.set (0 : Int).toNat (cv .u8 a)).length = 32 := by rw [List.length_set, z32_len]
  rw [rd_getD 0 (i := 31) (by omega) (by unfold len; rw [hl]; omega), st_ok (i := 31) (by omega) (by unfold len; rw [hl]; omega)]
  exact ⟨_, _, rfl, ⟨by rw [List.length_set, hl], (z32_bytes.set _ (cv_byte a).1 (cv_byte a).2).set _ (cv_byte b).1 (cv_byte b).2⟩, hc2⟩
theorem draw_ok {c : Dl01Cur} (h : CurOk c) : ∃ l c', sl10Draw c = some (l, c') ∧ (0 ≤ l.2.1 ∧ l.2.1 ≤ 40) ∧ (0 ≤ l.2.2.1 ∧ l.2.2.1 ≤ 8) ∧ (3 ≤ l.2.2.2.2.1 ∧ l.2.2.2.2.1 ≤ 5) ∧ CurOk c' := by
  unfold sl10Draw
  obtain ⟨a, c1, e1, m1, hc1⟩ := pick_ok h (l := [1, 3, 4, 4, 7, 9, 10]) (by simp)
  rw [e1]
  simp only [Option.bind_some]
  obtain ⟨b, c2, e2, m2, hc2⟩ := pick_ok hc1 (l := [0, 4, 8, 40]) (by simp)
  rw [e2]
  simp only [Option.bind_some]
  obtain ⟨d, c3, e3, m3, hc3⟩ := pick_ok hc2 (l := [0, 3, 8]) (by simp)
  rw [e3]
  simp only [Option.bind_some]
  obtain ⟨f, c4, e4, m4, hc4⟩ := pick_ok hc3 (l := [4000, 4000, 300, 60]) (by simp)
  rw [e4]
  simp only [Option.bind_some]
  obtain ⟨g, c5, e5, g0, g1, hc5⟩ := below_ok hc4 (n := 3) (by omega)
  rw [e5]
  simp only [Option.bind_some]
  simp only [List.mem_cons, List.not_mem_nil, or_false] at m2 m3
  have hg : ad .i64 3 g = 3 + g := ad_ok (by omega) (by omega)
  exact ⟨_, _, rfl, by show 0 ≤ b ∧ b ≤ 40; omega, by show 0 ≤ d ∧ d ≤ 8; omega, by show 3 ≤ ad .i64 3 g ∧ ad .i64 3 g ≤ 5; rw [hg]; omega, hc5⟩
def TabOk (ps : List DPush) : Prop := ∀ p ∈ ps, (1 ≤ p.1 ∧ p.1 ≤ 1099511627776) ∧ p.2.1.length = 3 ∧ Bytes p.2.1
theorem table_loop {n : Int} (hn : n ≤ 10) : ∀ (z : Nat) (i : Int) (ps : List DPush) (c : Dl01Cur), i + z = n → 0 ≤ i → len ps = i → TabOk ps → CurOk c → ∃ ps' c', len ps' = n ∧ TabOk ps' ∧ CurOk c' ∧ Y (fun k => sl21Draw_l0 k c n ([], ()) (ps, ()) i) (c', ([], ()), (ps', ())) := by
  intro z
  induction z with
  | zero =>
    intro i ps c hi h0 hl ht hc
    refine ⟨ps, c, by omega, ht, hc, Y.step ?_⟩
    simp only [sl21Draw_l0]
    rw [decide_eq_false (show ¬ i < n by omega)]
    exact Y.pure _
  | succ z ih =>
    intro i ps c hi h0 hl ht hc
    obtain ⟨a, c1, e1, a0, a1, hc1⟩ := below_ok hc (n := 9) (by omega)
    have ha : ad .i64 1 a = 1 + a := ad_ok (by omega) (by omega)
    obtain ⟨w, c2, e2, m2, hc2⟩ := pick_ok hc1 (l := [1, 1, 1, 2, 5, 1099511627776, ad .i64 1 a]) (by simp)
    obtain ⟨b, c3, e3, b0, b1, hc3⟩ := below_ok hc2 (n := 9) (by omega)
    simp only [List.mem_cons, List.not_mem_nil, or_false, ha] at m2
    have hi1 : ad .i64 i 1 = i + 1 := ad_ok (by omega) (by omega)
    have hlp : ps.length + 1 < 100 := by unfold len at hl; omega
    obtain ⟨ps', c', r1, r2, r3, r4⟩ := ih (i + 1) (ps ++ [(w, [cv .u8 i, cv .u8 b, 1], ())]) c3 (by omega) (by omega) (by rw [len_append, hl]; rfl) (fun p hp => by
      rcases List.mem_append.1 hp with hp | hp
      · exact ht p hp
      · simp only [List.mem_cons, List.not_mem_nil, or_false] at hp
        rw [hp]
        exact ⟨by show 1 ≤ w ∧ w ≤ _; omega, rfl, Bytes.cons (cv_byte i).1 (cv_byte i).2 (Bytes.cons (cv_byte b).1 (cv_byte b).2 (Bytes.cons (by omega) (by omega) Bytes.nil))⟩) hc3
    refine ⟨ps', c', r1, r2, r3, Y.step ?_⟩
    simp only [sl21Draw_l0]
    rw [decide_eq_true (show i < n by omega), e1]
    simp only [cond_true, Option.bind_some]
    rw [e2]
    simp only [Option.bind_some]
    rw [e3]
    simp only [Option.bind_some]
    rw [app_ok (by simp; omega), hi1]
    exact r4
theorem pair_ok {c : Dl01Cur} (h : CurOk c) : ∃ l t c', Net l t ∧ l.1 ≤ 5 ∧ CurOk c' ∧ Y (fun k => sl23Pair k c) (l, t, c') := by
  obtain ⟨l, c1, e1, l1, l2, l3, hc1⟩ := draw_ok h
  obtain ⟨a, c2, e2, a0, a1, hc2⟩ := below_ok hc1 (n := 5) (by omega)
  have ha : ad .i64 1 a = 1 + a := ad_ok (by omega) (by omega)
  obtain ⟨ps, c3, p1, p2, hc3, p3⟩ := table_loop (n := 1 + a) (by omega) (1 + a).toNat 0 [] c2 (by omega) (by omega) rfl (fun p hp => absurd hp (List.not_mem_nil)) hc2
  refine ⟨(1 + a, l.2.1, l.2.2.1, 4000, l.2.2.2.2), (ps, ()), c3, ⟨?_, ?_, p1, fun p hp => (p2 p hp).2.2⟩, by show 1 + a ≤ 5; omega, hc3, ?_⟩
  · simp only [limitsOk, Bool.and_eq_true, within_iff]
    omega
  · simp only [tableOk, Bool.and_eq_true, within_iff, List.all_eq_true, pushGood]
    refine ⟨fun p hp => ?_, by rw [p1]; omega⟩
    have := p2 p hp
    unfold len
    omega
  · unfold sl23Pair
    rw [e1]
    simp only [Option.bind_some]
    rw [e2]
    simp only [Option.bind_some, ha]
    refine Y.bind (a := ((ps, ()), c3)) ?_ (Y.pure _)
    unfold sl21Draw
    exact Y.bind p3 (Y.pure _)
theorem new_loop {code : List Int} (hl : code.length < 1000000000) : ∀ (z : Nat) (i h : Int), i + z = len code → 0 ≤ i → ∃ h', Y (fun k => sl01New_l0 k code h i) (code, h') := by
  intro z
  induction z with
  | zero =>
    intro i h hi h0
    refine ⟨h, Y.step ?_⟩
    simp only [sl01New_l0]
    rw [decide_eq_false (show ¬ i < len code by omega)]
    exact Y.pure _
  | succ z ih =>
    intro i h hi h0
    have hi1 : ad .i64 i 1 = i + 1 := ad_ok (by omega) (by unfold len at hi; omega)
    by_cases h4 : i < 4000
    · obtain ⟨h', r⟩ := ih (i + 1) (an .i64 (ad .i64 (ad .i64 (mu .i64 h 37) (cv .i64 (code.getD i.toNat 0))) 7) 1073741823) (by omega) (by omega)
      refine ⟨h', Y.step ?_⟩
      simp only [sl01New_l0]
      rw [decide_eq_true (show i < len code by omega), decide_eq_true h4, rd_getD 0 h0 (by omega), hi1]
      exact r
    · refine ⟨h, Y.step ?_⟩
      simp only [sl01New_l0]
      rw [decide_eq_true (show i < len code by omega), decide_eq_false h4]
      exact Y.pure _
theorem new_ok {code : List Int} (hl : code.length < 1000000000) : ∃ c, CurOk c ∧ c.1 = code ∧ c.2.1 = 0 ∧ Y (fun k => sl01New k code) c := by
  obtain ⟨h', r⟩ := new_loop hl code.length 0 (ad .i64 1611 (len code)) (by unfold len; omega) (by omega)
  refine ⟨(code, 0, h', ()), ⟨by show (0 : Int) ≤ 0; omega, by show 0 ≤ len code; unfold len; omega, hl⟩, rfl, rfl, ?_⟩
  unfold sl01New
  exact Y.bind r (Y.pure _)
theorem makeHash_ok {code : List Int} (hl : code.length < 1000000000) (turn : Int) : ∃ v, Root v ∧ Y (fun k => sMakeHash k code turn) v := by
  obtain ⟨c, hc, h1, h2, hy⟩ := new_ok hl
  obtain ⟨v, c', e, hr, _⟩ := hash_ok (c := (c.1, c.2.1, ad .i64 c.2.2.1 turn, c.2.2.2)) hc
  refine ⟨v.set 7 (cv .u8 turn), ⟨by rw [List.length_set, hr.len], hr.bytes.set _ (cv_byte _).1 (cv_byte _).2⟩, ?_⟩
  unfold sMakeHash
  refine Y.bind hy ?_
  rw [e]
  simp only [Option.bind_some]
  rw [rd_getD 0 (i := 7) (by omega) (by unfold len; rw [hr.len]; omega), st_ok (i := 7) (by omega) (by unfold len; rw [hr.len]; omega)]
  exact Y.pure _
end Go.Ev.G
/- The chain that is drawn; the law of clashes. -/
namespace Go.Ev.G
open Go.Ev
structure Chain (l : DLimits) (t : DTable) (hs : List DHead) : Prop where
  pos : 0 < hs.length
  all : ∀ h ∈ hs, HeadIs l h ∧ fitHead h
  next : ∀ i (h : i + 1 < hs.length), Next l t (hs[i]'(by omega)) hs[i + 1]
  bound : ∀ i (h : i < hs.length), hs[i].1 ≤ 3 + i ∧ hs[i].2.1 = i + 1
theorem Chain.one {l : DLimits} {t : DTable} {h : DHead} (hi : HeadIs l h) (hf : fitHead h) (hv : h.1 ≤ 3) (hh : h.2.1 = 1) : Chain l t [h] := by
  refine ⟨by simp, fun x hx => ?_, fun i g => ?_, fun i g => ?_⟩
  · simp only [List.mem_cons, List.not_mem_nil, or_false] at hx
    rw [hx]
    exact ⟨hi, hf⟩
  · simp only [List.length_cons, List.length_nil] at g
    omega
  · simp only [List.length_cons, List.length_nil] at g
    obtain rfl : i = 0 := by omega
    exact ⟨by show h.1 ≤ 3 + ((0 : Nat) : Int); omega, by show h.2.1 = ((0 : Nat) : Int) + 1; omega⟩
theorem Chain.snoc {l : DLimits} {t : DTable} {hs : List DHead} (hc : Chain l t hs) {x : DHead} (hn : Next l t (hs[hs.length - 1]'(by have := hc.pos; omega)) x) (hh : x.2.1 = hs.length + 1) : Chain l t (hs ++ [x]) := by
  have hp := hc.pos
  refine ⟨by simp, fun y hy => ?_, fun i h => ?_, fun i h => ?_⟩
  · rcases List.mem_append.1 hy with hy | hy
    · exact hc.all y hy
    · simp only [List.mem_cons, List.not_mem_nil, or_false] at hy
      rw [hy]
      exact ⟨hn.is, hn.fit⟩
  · simp only [List.length_append, List.length_cons, List.length_nil] at h
    by_cases hi : i + 1 < hs.length
    · rw [List.getElem_append_left (by omega), List.getElem_append_left hi]
      exact hc.next i hi
    · rw [List.getElem_append_left (by omega), List.getElem_append_right (by omega)]
      have hi' : i = hs.length - 1 := by omega
      subst hi'
      simpa using hn
  · simp only [List.length_append, List.length_cons, List.length_nil] at h
    by_cases hi : i < hs.length
    · rw [List.getElem_append_left hi]
      exact hc.bound i hi
    · rw [List.getElem_append_right (by omega)]
      have hi' : i = hs.length := by omega
      have hb := hc.bound (hs.length - 1) (by omega)
      have hv := hn.view
      simp only [show i - hs.length = 0 by omega, List.getElem_cons_zero]
      omega
theorem chain_loop {l : DLimits} {t : DTable} (hn : Net l t) {n : Int} (hN : n ≤ 1000) : ∀ (z : Nat) (hs : List DHead) (c : Dl01Cur), len hs + z = n → Chain l t hs → CurOk c → ∃ hs', len hs' = n ∧ Chain l t hs' ∧ Y (fun k => sMakeChain_l0 k n (0, 0, 0, 0, 0, ()) ([], ()) c l t hs) ((0, 0, 0, 0, 0, ()), ([], ()), l, t, hs') := by
  intro z
  have hl := hn.n
  induction z with
  | zero =>
    intro hs c hi hc hcur
    refine ⟨hs, by omega, hc, Y.step ?_⟩
    simp only [sMakeChain_l0]
    rw [decide_eq_false (show ¬ len hs < n by omega)]
    exact Y.pure _
  | succ z ih =>
    intro hs c hi hc hcur
    have hp := hc.pos
    obtain ⟨p, c1, e1, p0, p1, hc1⟩ := below_ok hcur (n := l.1) (by omega)
    obtain ⟨r, c2, e2, hr, hc2⟩ := hash_ok hc1
    have hlast : rd hs (su .i64 (len hs) 1) = some (hs[hs.length - 1]'(by omega)) := by
      rw [su_ok (by unfold len; omega) (by unfold len at hi ⊢; omega), show len hs - 1 = ((hs.length - 1 : Nat) : Int) by unfold len; omega, rd_nat (by omega)]
    have hb := hc.bound (hs.length - 1) (by omega)
    have ha := hc.all _ (List.getElem_mem (show hs.length - 1 < hs.length by omega))
    have hls : (hs.length : Int) + (z + 1 : Nat) = n := hi
    have hnx := nextH_next hn ha.1 ha.2 (by omega) (by omega) p0 p1 hr
    have hv0 := isNum_iff.1 ha.1.view
    obtain ⟨hs', h1, h2, h3⟩ := ih (hs ++ [nextH l t (hs[hs.length - 1]'(by omega)) ((hs[hs.length - 1]'(by omega)).1 + 1) p r]) c2 (by rw [len_append]; show len hs + 1 + _ = n; omega) (hc.snoc hnx (by show (hs[hs.length - 1]'(by omega)).2.1 + 1 = _; omega)) hc2
    refine ⟨hs', h1, h2, Y.step ?_⟩
    simp only [sMakeChain_l0]
    rw [decide_eq_true (show len hs < n by omega), hlast, e1]
    simp only [cond_true, Option.bind_some]
    rw [e2]
    simp only [Option.bind_some]
    refine Y.bind (sl30Full_Y hl.1 hl.2.1) ?_
    rw [ad_ok (by omega) (by omega)]
    refine Y.bind (sNextHead_Y hn ha.1 ha.2 (by omega) (by omega) (by omega) p0 p1 hr) ?_
    rw [app_ok (by simp only [List.length_append, List.length_cons, List.length_nil]; omega)]
    exact h3
theorem makeChain_ok {code : List Int} (hl : code.length < 1000000000) {n : Int} (h1 : 1 ≤ n) (hN : n ≤ 1000) : ∃ l t hs, Net l t ∧ l.1 ≤ 5 ∧ len hs = n ∧ Chain l t hs ∧ Y (fun k => sMakeChain k code n) (l, t, hs) := by
  obtain ⟨c, hc, _, _, hy⟩ := new_ok hl
  obtain ⟨l, t, c1, hn, h5, hc1, hy1⟩ := pair_ok hc
  obtain ⟨v, c2, e2, v0, v1, hc2⟩ := below_ok hc1 (n := 3) (by omega)
  obtain ⟨r, c3, e3, hr, hc3⟩ := hash_ok hc2
  have hv : ad .i64 1 v = 1 + v := ad_ok (by omega) (by omega)
  have hfi := firstH_is hn (view := 1 + v) (by omega) (by omega) hr
  have hff := firstH_fit hn (view := 1 + v) hr
  obtain ⟨hs, g1, g2, g3⟩ := chain_loop hn hN (n.toNat - 1) [firstH l (1 + v) r] c3 (by show (1 : Int) + _ = n; omega) (Chain.one hfi hff (by show 1 + v ≤ 3; omega) rfl) hc3
  refine ⟨l, t, hs, hn, h5, g1, g2, ?_⟩
  unfold sMakeChain
  refine Y.bind hy (Y.bind hy1 ?_)
  rw [e2]
  simp only [Option.bind_some]
  rw [e3, hv]
  simp only [Option.bind_some]
  refine Y.bind (sFirstHead_Y hn (by omega) (by omega) hr) (Y.bind g3 (Y.pure _))
theorem makeFull_ok {n : Int} (h0 : 1 ≤ n) (h1 : n ≤ 10) : Y (fun k => sMakeFull k n) (fullB n) := by
  unfold sMakeFull
  exact Y.bind (sl30Full_Y h0 h1) (Y.pure _)
theorem fnClash_Y (code : List Int) : Y (fun k => wFnClash k code) true := by
  unfold wFnClash
  refine Y.cnd' (fun _ => Y.pure _) (fun hlen => ?_)
  have hlen' : code.length < 1000000000 := by
    have := of_decide_eq_false hlen
    unfold len at this
    omega
  obtain ⟨l, t, hs, hn, h5, hl3, hc, hy⟩ := makeChain_ok hlen' (n := 3) (by omega) (by omega)
  have hl := hn.n
  obtain ⟨a, b, c, rfl⟩ : ∃ a b c, hs = [a, b, c] := by
    unfold len at hl3
    match hs, hl3 with
    | [a, b, c], _ => exact ⟨a, b, c, rfl⟩
    | [], h => simp at h
    | [_], h => simp at h
    | [_, _], h => simp at h
    | _ :: _ :: _ :: _ :: _, h => simp at h; omega
  have ha := hc.all a (by simp)
  have hab : Next l t a b := hc.next 0 (by simp)
  have hbc : Next l t b c := hc.next 1 (by simp)
  have hba := hc.bound 0 (by simp)
  have hba' : a.1 ≤ 3 ∧ a.2.1 = 1 := by simpa using hba
  have hav := isNum_iff.1 ha.1.view
  have hpf := proofOf_fit hn ha.1 ha.2 hab hbc
  refine Y.bind hy ?_
  simp only
  refine Y.bind (makeFull_ok hl.1 hl.2.1) (Y.bind (iLightNew_Y hn) (Y.bind (iBuildProof_Y hn ha.1 ha.2 hab hbc) (Y.bind (iOfProof_Y hpf) (Y.bind (iJudge0 hn ha.1 ha.2 hab hbc) ?_))))
  rw [show rd [a, b, c] 0 = some a from rfl]
  simp only [Option.bind_some]
  obtain ⟨r, hr, hyr⟩ := makeHash_ok hlen' 99
  have hap : 1 ≤ a.1 := by have := ha.1.qview; have := isNum_iff.1 ha.1.qc.view; omega
  have hA := firstH_is hn hap (by omega) hr
  have hAf := firstH_fit hn (view := a.1) hr
  have hAB := nextH_next hn hA hAf (by show (1 : Int) < _; omega) (by show a.1 < _; omega) (prop := 0) (by omega) (by omega) hr
  have hBC := nextH_next hn hAB.is hAB.fit (by show (1 : Int) + 1 < _; omega) (by show a.1 + 1 < _; omega) (prop := 0) (by omega) (by omega) hr
  have hpf' := proofOf_fit hn hA hAf hAB hBC
  refine Y.bind hyr (Y.bind (iFirstHead_Y hn hap (by omega) hr) ?_)
  rw [show (firstH l a.1 r).2.2.2.2.1 = r from rfl, ad_ok (a := (firstH l a.1 r).1) (by show _ ≤ a.1 + 1; omega) (by show a.1 + 1 ≤ _; omega)]
  refine Y.bind (iNextHead_Y hn hA hAf (by show (1 : Int) < _; omega) (by show a.1 < a.1 + 1; omega) (by show a.1 + 1 ≤ _; omega) (by omega) (by omega) hr) ?_
  simp only
  rw [ad_ok (a := (nextH l t (firstH l a.1 r) ((firstH l a.1 r).1 + 1) 0 r).1) (by show _ ≤ a.1 + 1 + 1; omega) (by show a.1 + 1 + 1 ≤ _; omega)]
  refine Y.bind (iNextHead_Y hn hAB.is hAB.fit (by show (1 : Int) + 1 < _; omega) (by show a.1 + 1 < a.1 + 1 + 1; omega) (by show a.1 + 1 + 1 ≤ _; omega) (by omega) (by omega) hr) ?_
  simp only
  refine Y.bind (iBuildProof_Y hn hA hAf hAB hBC) (Y.bind (iOfProof_Y hpf') (Y.bind (iJudge1 hn hA hAf hAB hBC ha.1 ha.2 (by show (1 : Int) = a.2.1; omega)) (Y.bind (iHeadSame_Y hAf) ?_)))
  have hone : fitHeads [a] := ⟨by show 1 < _; omega, fun x hx => by simp only [List.mem_cons, List.not_mem_nil, or_false] at hx; rw [hx]; exact ha.2⟩
  have hsame := iLightSame_self (lightOf_fit hn hone)
  by_cases e : a = firstH l a.1 r
  · rw [same_true e, same_true e.symm]
    simp only [cond_true]
    rw [show ((2 : Int) == 2) = true from rfl]
    simp only [cond_true]
    exact Y.bind hsame (Y.pure _)
  · rw [same_false e, same_false (fun e' => e e'.symm)]
    simp only [cond_true, cond_false]
    rw [show ((4 : Int) == 4) = true from rfl]
    simp only [cond_true]
    exact Y.bind hsame (Y.pure _)
end Go.Ev.G
/- Trees of hashes. -/
namespace Go.Ev.G
open Go.Ev
def dbl : Nat → Nat → Nat → Nat
  | 0, _, k => k
  | f + 1, n, k => if 2 * k < n then dbl f n (2 * k) else k
def split (n : Nat) : Nat := dbl n n 1
theorem dbl_pos : ∀ (f n k : Nat), 1 ≤ k → 1 ≤ dbl f n k := by
  intro f
  induction f with
  | zero => intro n k h; exact h
  | succ f ih =>
    intro n k h
    unfold dbl
    split
    · exact ih n (2 * k) (by omega)
    · exact h
theorem dbl_lt : ∀ (f n k : Nat), k < n → dbl f n k < n := by
  intro f
  induction f with
  | zero => intro n k h; exact h
  | succ f ih =>
    intro n k h
    unfold dbl
    split
    · exact ih n (2 * k) (by omega)
    · exact h
theorem split_pos (n : Nat) : 1 ≤ split n := dbl_pos n n 1 (by omega)
theorem split_lt {n : Nat} (h : 2 ≤ n) : split n < n := dbl_lt n n 1 (by omega)
theorem dbl_loop (L : Nat → Int → Option Int) {n : Nat} (hn : n < 1000000000) (hL : ∀ k (c : Nat), c < 1000000000 → L (k + 1) c = cond (decide (c < (n : Int) - c)) (L k (2 * c : Nat)) (some c)) : ∀ (f c : Nat), 1 ≤ c → c < 1000000000 → n ≤ f + 2 * c → Y (fun k => L k c) (dbl f n c) := by
  intro f
  induction f with
  | zero =>
    intro c h1 h2 h3
    refine Y.step ?_
    simp only [hL _ c h2]
    rw [decide_eq_false (show ¬ (c : Int) < (n : Int) - c by omega)]
    exact Y.pure _
  | succ f ih =>
    intro c h1 h2 h3
    refine Y.step ?_
    simp only [hL _ c h2]
    unfold dbl
    by_cases h : 2 * c < n
    · rw [decide_eq_true (show (c : Int) < (n : Int) - c by omega), if_pos h]
      exact ih (2 * c) (by omega) (by omega) (by omega)
    · rw [decide_eq_false (show ¬ (c : Int) < (n : Int) - c by omega), if_neg h]
      exact Y.pure _
theorem iSplitAt_Y {n : Nat} (h : 2 ≤ n) (hn : n < 1000000000) : Y (fun k => iSplitAt k n) (split n) := by
  unfold iSplitAt
  rw [decide_eq_false (show ¬ (n : Int) < 2 by omega)]
  simp only [cond_false]
  refine Y.bind (dbl_loop (fun k c => iSplitAt_l0 k n c) hn (fun k c hc => ?_) n 1 (by omega) (by omega) (by omega)) (Y.pure _)
  simp only [iSplitAt_l0]
  rw [su_ok (by omega) (by omega), mu_ok (by omega) (by omega), show (c : Int) * 2 = ((2 * c : Nat) : Int) by omega]
theorem sSplitAt_Y {n : Nat} (h : 2 ≤ n) (hn : n < 1000000000) : Y (fun k => sSplitAt k n) (split n) := by
  unfold sSplitAt
  rw [decide_eq_false (show ¬ (n : Int) < 2 by omega)]
  simp only [cond_false]
  refine Y.bind (dbl_loop (fun k c => sSplitAt_l0 k n c) hn (fun k c hc => ?_) n 1 (by omega) (by omega) (by omega)) (Y.pure _)
  simp only [sSplitAt_l0]
  rw [su_ok (by omega) (by omega), mu_ok (by omega) (by omega), show 2 * (c : Int) = ((2 * c : Nat) : Int) by omega]
def treeRoot : Nat → List (List Int) → List Int
  | 0, _ => []
  | f + 1, l => match l with
    | [] => sha []
    | [x] => leafHash x
    | x :: y :: r => nodeHash (treeRoot f ((x :: y :: r).take (split (r.length + 2)))) (treeRoot f ((x :: y :: r).drop (split (r.length + 2))))
def root (l : List (List Int)) : List Int := treeRoot (l.length + 1) l
def okL (l : List (List Int)) : Prop := l.length < 1000000000 ∧ ∀ x ∈ l, x.length < 1000000000 ∧ Bytes x
theorem okL.fit {l : List (List Int)} (h : okL l) : fitL l := ⟨h.1, fun x hx => (h.2 x hx).1⟩
theorem treeRoot_bytes : ∀ f l, Bytes (treeRoot f l) := by
  intro f
  cases f with
  | zero => intro l; exact Bytes.nil
  | succ f =>
    intro l
    unfold treeRoot
    split
    · exact sha_bytes _
    · exact sha_bytes _
    · exact sha_bytes _
theorem treeRoot_len : ∀ f l, (treeRoot f l).length ≤ 32 := by
  intro f
  cases f with
  | zero => intro l; exact Nat.zero_le _
  | succ f =>
    intro l
    unfold treeRoot
    split
    · exact Nat.le_of_eq (sha_length _)
    · exact Nat.le_of_eq (sha_length _)
    · exact Nat.le_of_eq (sha_length _)
theorem cut_pre {α : Type} {l : List α} {n : Nat} : cut l 0 (n : Int) = l.take n := by
  unfold cut
  simp
theorem cut_post {α : Type} {l : List α} {n : Nat} : cut l (n : Int) (len l) = l.drop n := by
  unfold cut
  rw [len_toNat, List.take_of_length_le (Nat.le_refl _)]
  rfl
theorem okL.take {l : List (List Int)} (h : okL l) (n : Nat) : okL (l.take n) := ⟨by rw [List.length_take]; have := h.1; omega, fun x hx => h.2 x (List.mem_of_mem_take hx)⟩
theorem okL.drop {l : List (List Int)} (h : okL l) (n : Nat) : okL (l.drop n) := ⟨by rw [List.length_drop]; have := h.1; omega, fun x hx => h.2 x (List.mem_of_mem_drop hx)⟩
theorem sLeafHash_Y {x : List Int} (hx : Bytes x) (h : x.length < 68719474000) : Y (fun k => sLeafHash k x) (leafHash x) := by
  unfold sLeafHash leafHash
  rw [app_ok (by simp; omega)]
  simp only [Option.bind_some]
  exact Y.bind (sSha_Y (Bytes.append (Bytes.cons (by omega) (by omega) Bytes.nil) hx) (by simp; omega)) (Y.pure _)
theorem sNodeHash_Y {a b : List Int} (ha : Bytes a) (hb : Bytes b) (h : a.length + b.length < 68719474000) : Y (fun k => sNodeHash k a b) (nodeHash a b) := by
  unfold sNodeHash nodeHash
  rw [app_ok (by simp; omega)]
  simp only [Option.bind_some]
  rw [app_ok (by simp; omega)]
  simp only [Option.bind_some]
  exact Y.bind (sSha_Y (Bytes.append (Bytes.append (Bytes.cons (by omega) (by omega) Bytes.nil) ha) hb) (by simp; omega)) (Y.pure _)
theorem iTreeRoot_Y : ∀ (f : Nat) (l : List (List Int)), okL l → l.length < f → Y (fun k => iTreeRoot k l) (treeRoot f l) := by
  intro f
  induction f with
  | zero => intro l _ h; omega
  | succ f ih =>
    intro l hl hf
    refine Y.step ?_
    simp only [iTreeRoot]
    match l, hl, hf with
    | [], _, _ =>
      rw [show (len ([] : List (List Int)) == 0) = true from rfl]
      exact Y.bind (iSha_Y Bytes.nil (by simp)) (Y.pure _)
    | [x], hl, _ =>
      have hx := hl.2 x (by simp)
      rw [show (len [x] == 0) = false from rfl, show (len [x] == 1) = true from rfl, show rd [x] 0 = some x from rfl]
      exact Y.bind (iLeafHash_Y hx.2 (by omega)) (Y.pure _)
    | x :: y :: r, hl, hf =>
      have h0 : (len (x :: y :: r) == 0) = false := by unfold len; rw [beq_eq_false_iff_ne]; simp only [List.length_cons]; omega
      have h1 : (len (x :: y :: r) == 1) = false := by unfold len; rw [beq_eq_false_iff_ne]; simp only [List.length_cons]; omega
      have hn : len (x :: y :: r) = ((r.length + 2 : Nat) : Int) := rfl
      have hlen := hl.1
      simp only [List.length_cons] at hlen hf
      have hs := split_lt (n := r.length + 2) (by omega)
      have hp := split_pos (r.length + 2)
      rw [h0, h1]
      simp only [cond_false]
      rw [hn]
      refine Y.bind (iSplitAt_Y (by omega) (by omega)) ?_
      rw [← hn, sub_ok (by omega) (by omega) (by rw [hn]; omega), sub_ok (by omega) (by rw [hn]; omega) (by omega), cut_pre, cut_post]
      simp only [Option.bind_some]
      refine Y.bind (ih _ (hl.take _) (by rw [List.length_take]; simp only [List.length_cons]; omega)) ?_
      refine Y.bind (ih _ (hl.drop _) (by rw [List.length_drop]; simp only [List.length_cons]; omega)) ?_
      have t1 := treeRoot_len f ((x :: y :: r).take (split (r.length + 2)))
      have t2 := treeRoot_len f ((x :: y :: r).drop (split (r.length + 2)))
      exact Y.bind (iNodeHash_Y (treeRoot_bytes _ _) (treeRoot_bytes _ _) (by omega)) (Y.pure _)
theorem sTreeRoot_Y : ∀ (f : Nat) (l : List (List Int)), okL l → l.length < f → Y (fun k => sTreeRoot k l) (treeRoot f l) := by
  intro f
  induction f with
  | zero => intro l _ h; omega
  | succ f ih =>
    intro l hl hf
    refine Y.step ?_
    simp only [sTreeRoot]
    match l, hl, hf with
    | [], _, _ =>
      rw [show (len ([] : List (List Int)) == 0) = true from rfl]
      exact Y.bind (sSha_Y Bytes.nil (by simp)) (Y.pure _)
    | [x], hl, _ =>
      have hx := hl.2 x (by simp)
      rw [show (len [x] == 0) = false from rfl, show (len [x] == 1) = true from rfl, show rd [x] 0 = some x from rfl]
      exact Y.bind (sLeafHash_Y hx.2 (by omega)) (Y.pure _)
    | x :: y :: r, hl, hf =>
      have h0 : (len (x :: y :: r) == 0) = false := by unfold len; rw [beq_eq_false_iff_ne]; simp only [List.length_cons]; omega
      have h1 : (len (x :: y :: r) == 1) = false := by unfold len; rw [beq_eq_false_iff_ne]; simp only [List.length_cons]; omega
      have hn : len (x :: y :: r) = ((r.length + 2 : Nat) : Int) := rfl
      have hlen := hl.1
      simp only [List.length_cons] at hlen hf
      have hs := split_lt (n := r.length + 2) (by omega)
      have hp := split_pos (r.length + 2)
      rw [h0, h1]
      simp only [cond_false]
      rw [hn]
      refine Y.bind (sSplitAt_Y (by omega) (by omega)) ?_
      rw [← hn, sub_ok (by omega) (by omega) (by rw [hn]; omega), sub_ok (by omega) (by rw [hn]; omega) (by omega), cut_pre, cut_post]
      simp only [Option.bind_some]
      refine Y.bind (ih _ (hl.take _) (by rw [List.length_take]; simp only [List.length_cons]; omega)) ?_
      refine Y.bind (ih _ (hl.drop _) (by rw [List.length_drop]; simp only [List.length_cons]; omega)) ?_
      have t1 := treeRoot_len f ((x :: y :: r).take (split (r.length + 2)))
      have t2 := treeRoot_len f ((x :: y :: r).drop (split (r.length + 2)))
      exact Y.bind (sNodeHash_Y (treeRoot_bytes _ _) (treeRoot_bytes _ _) (by omega)) (Y.pure _)
theorem iRoot_Y {l : List (List Int)} (h : okL l) : Y (fun k => iTreeRoot k l) (root l) := iTreeRoot_Y _ l h (Nat.lt_succ_self _)
theorem sRoot_Y {l : List (List Int)} (h : okL l) : Y (fun k => sTreeRoot k l) (root l) := sTreeRoot_Y _ l h (Nat.lt_succ_self _)
/-! ### The length of a path -/
def pathN : Nat → Nat → Nat → Nat
  | 0, _, _ => 0
  | f + 1, i, n => if n < 2 then 0 else if i < split n then 1 + pathN f i (split n) else 1 + pathN f (i - split n) (n - split n)
def pathLen (i n : Int) : Int := pathN (n.toNat + 1) i.toNat n.toNat
theorem pathN_le : ∀ (f i n : Nat), pathN f i n ≤ f := by
  intro f
  induction f with
  | zero => intro i n; exact Nat.le_refl _
  | succ f ih =>
    intro i n
    unfold pathN
    have h1 := ih i (split n)
    have h2 := ih (i - split n) (n - split n)
    split
    · omega
    · split <;> omega
theorem iPathLen_nat : ∀ (f i n : Nat), i < n → n ≤ 1048576 → n < f → f ≤ 1048577 → Y (fun k => iPathLen k i n) (pathN f i n) := by
  intro f
  induction f with
  | zero => intro i n _ _ h; omega
  | succ f ih =>
    intro i n hi hn hf hF
    refine Y.step ?_
    simp only [iPathLen]
    unfold pathN
    by_cases h2 : n < 2
    · rw [decide_eq_true (show (n : Int) < 2 by omega), if_pos h2]
      exact Y.pure _
    · have hs := split_lt (n := n) (by omega)
      have hp := split_pos n
      rw [decide_eq_false (show ¬ (n : Int) < 2 by omega), decide_eq_false (show ¬ (n : Int) > 1048576 by omega), if_neg h2, iwithin_eq, su_ok (a := n) (b := 1) (by omega) (by omega), within_iff.2 ⟨by omega, by omega⟩]
      simp only [cond_false, Option.bind_some, Bool.not_true]
      refine Y.bind (iSplitAt_Y (by omega) (by omega)) ?_
      by_cases h3 : i < split n
      · rw [decide_eq_true (show (i : Int) < (split n : Int) by omega), if_pos h3]
        simp only [cond_true]
        refine Y.bind (ih i (split n) h3 (by omega) (by omega) (by omega)) ?_
        have := pathN_le f i (split n)
        rw [ad_ok (by omega) (by omega)]
        exact Y.of (by congr 1 <;> omega)
      · rw [decide_eq_false (show ¬ (i : Int) < (split n : Int) by omega), if_neg h3]
        simp only [cond_false]
        rw [su_ok (by omega) (by omega), su_ok (by omega) (by omega), show (i : Int) - (split n : Int) = ((i - split n : Nat) : Int) by omega, show (n : Int) - (split n : Int) = ((n - split n : Nat) : Int) by omega]
        refine Y.bind (ih (i - split n) (n - split n) (by omega) (by omega) (by omega) (by omega)) ?_
        have := pathN_le f (i - split n) (n - split n)
        rw [ad_ok (by omega) (by omega)]
        exact Y.of (by congr 1 <;> omega)
theorem sl08In_eq (i n : Int) : sl08In i n = some (within n 1 1048576 && within i 0 (n - 1)) := by
  unfold sl08In
  simp only [sl01In_eq, Option.bind_some]
  cases hw : within n 1 1048576 with
  | false => rfl
  | true =>
    have := within_iff.1 hw
    rw [su_ok (by omega) (by omega)]
    rfl
theorem sPathLen_nat : ∀ (f i n : Nat), i < n → n ≤ 1048576 → n < f → f ≤ 1048577 → Y (fun k => sPathLen k i n) (pathN f i n) := by
  intro f
  induction f with
  | zero => intro i n _ _ h; omega
  | succ f ih =>
    intro i n hi hn hf hF
    refine Y.step ?_
    simp only [sPathLen]
    unfold pathN
    rw [sl08In_eq, within_iff.2 ⟨by omega, by omega⟩, within_iff.2 ⟨by omega, by omega⟩]
    simp only [Option.bind_some, Bool.and_true, Bool.not_true, cond_false]
    by_cases h2 : n < 2
    · obtain rfl : n = 1 := by omega
      exact Y.pure _
    · have hs := split_lt (n := n) (by omega)
      have hp := split_pos n
      rw [show ((n : Int) == 1) = false by rw [beq_eq_false_iff_ne]; omega, if_neg h2]
      simp only [cond_false]
      refine Y.bind (sSplitAt_Y (by omega) (by omega)) ?_
      by_cases h3 : i < split n
      · rw [decide_eq_true (show (i : Int) < (split n : Int) by omega), if_pos h3]
        simp only [cond_true]
        refine Y.bind (ih i (split n) h3 (by omega) (by omega) (by omega)) ?_
        have := pathN_le f i (split n)
        rw [ad_ok (by omega) (by omega)]
        exact Y.of (by congr 1 <;> omega)
      · rw [decide_eq_false (show ¬ (i : Int) < (split n : Int) by omega), if_neg h3]
        simp only [cond_false]
        rw [su_ok (by omega) (by omega), su_ok (by omega) (by omega), show (i : Int) - (split n : Int) = ((i - split n : Nat) : Int) by omega, show (n : Int) - (split n : Int) = ((n - split n : Nat) : Int) by omega]
        refine Y.bind (ih (i - split n) (n - split n) (by omega) (by omega) (by omega) (by omega)) ?_
        have := pathN_le f (i - split n) (n - split n)
        rw [ad_ok (by omega) (by omega)]
        exact Y.of (by congr 1 <;> omega)
theorem iPathLen_Y {i n : Int} (h0 : 0 ≤ i) (h1 : i < n) (h2 : n ≤ 1048576) : Y (fun k => iPathLen k i n) (pathLen i n) := by
  have := iPathLen_nat (n.toNat + 1) i.toNat n.toNat (by omega) (by omega) (by omega) (by omega)
  rw [show ((i.toNat : Nat) : Int) = i by omega, show ((n.toNat : Nat) : Int) = n by omega] at this
  exact this
theorem sPathLen_Y {i n : Int} (h0 : 0 ≤ i) (h1 : i < n) (h2 : n ≤ 1048576) : Y (fun k => sPathLen k i n) (pathLen i n) := by
  have := sPathLen_nat (n.toNat + 1) i.toNat n.toNat (by omega) (by omega) (by omega) (by omega)
  rw [show ((i.toNat : Nat) : Int) = i by omega, show ((n.toNat : Nat) : Int) = n by omega] at this
  exact this
theorem pathLen_le {i n : Int} (h : 0 ≤ n) : 0 ≤ pathLen i n ∧ pathLen i n ≤ n + 1 := by
  have := pathN_le (n.toNat + 1) i.toNat n.toNat
  unfold pathLen
  omega
end Go.Ev.G
/- Which votes, blocks, timeout certificates, proofs of transactions are right. -/
namespace Go.Ev.G
open Go.Ev
section
variable {α β σ : Type}
/-- A loop over a list, with what lies before. -/
theorem Y.loopP {xs : List α} (hx : xs.length < 4611686018427387904) (L : Nat → σ → Int → Option β) (inv : σ → List α → List α → Prop) (R : σ → List α → List α → β)
    (h0 : ∀ s, inv s xs [] → Y (fun k => L (k + 1) s (len xs)) (R s xs []))
    (h1 : ∀ s pre x post, xs = pre ++ x :: post → inv s pre (x :: post) → rd xs (len pre) = some x → ad .i64 (len pre) 1 = len (pre ++ [x]) → (∀ s', inv s' (pre ++ [x]) post → Y (fun k => L k s' (len (pre ++ [x]))) (R s' (pre ++ [x]) post)) → Y (fun k => L (k + 1) s (len pre)) (R s pre (x :: post))) :
    ∀ s, inv s [] xs → Y (fun k => L k s 0) (R s [] xs) := by
  have key : ∀ post pre, xs = pre ++ post → ∀ s, inv s pre post → Y (fun k => L k s (len pre)) (R s pre post) := by
    intro post
    induction post with
    | nil =>
      intro pre e s hi
      have e' : pre = xs := by rw [e]; simp
      subst e'
      exact Y.step (h0 s hi)
    | cons x post ih =>
      intro pre e s hi
      have hl : pre.length < xs.length := by rw [e]; simp
      have hrd : rd xs (len pre) = some x := rd_some (len_nonneg pre) (by rw [len_toNat, e]; simp)
      have had : ad .i64 (len pre) 1 = len (pre ++ [x]) := by rw [len_append]; exact ad_ok (by unfold len; omega) (by unfold len; omega)
      exact Y.step (h1 s pre x post e hi hrd had fun s' hs' => ih (pre ++ [x]) (by rw [e]; simp) s' hs')
  intro s hi
  exact key xs [] rfl s hi
theorem lt_len {xs pre post : List α} {x : α} (e : xs = pre ++ x :: post) : decide (len pre < len xs) = true := decide_eq_true (by rw [e]; unfold len; simp; omega)
theorem not_lt_len (xs : List α) : decide (len xs < len xs) = false := by simp
theorem rd_prev {xs pre post : List α} {y : α} (e : xs = (pre ++ [y]) ++ post) (hx : xs.length < 4611686018427387904) : rd xs (su .i64 (len (pre ++ [y])) 1) = some y := by
  have hl : (pre ++ [y]).length ≤ xs.length := by rw [e]; simp
  rw [su_ok (by unfold len; omega) (by unfold len; omega)]
  refine rd_some (by unfold len; simp) ?_
  rw [show (len (pre ++ [y]) - 1).toNat = pre.length by unfold len; simp, e]
  simp
end
def fitVote (v : DVote) : Prop := (v.2.2.1.length < 1000000000 ∧ Bytes v.2.2.1) ∧ (v.2.2.2.2.1.length < 1000000000 ∧ Bytes v.2.2.2.2.1)
def voteOk (l : DLimits) (v : DVote) : Bool := limitsOk l && (isNum v.1 && (isNum v.2.1 && ([v.2.2.1, v.2.2.2.2.1].all hashB && within v.2.2.2.1 0 (su .i64 l.1 1))))
theorem iVoteOk_Y {l : DLimits} {v : DVote} : Y (fun k => iVoteOk k l v) (voteOk l v) := by
  unfold iVoteOk voteOk
  simp only [iLimitsOk_eq, iisNum_eq, iwithin_eq, Option.bind_some]
  exact Y.and fun _ => Y.and fun _ => Y.and fun _ => Y.bind (iareHashes_Y (by simp)) (Y.and fun _ => Y.pure _)
theorem sVoteOk_eq (l : DLimits) (v : DVote) : sVoteOk l v = some (voteOk l v) := by
  unfold sVoteOk voteOk
  simp only [sLimitsOk_eq, sl01Num_eq, sl01In_eq, sl07Hash_eq, Option.bind_some, List.all_cons, List.all_nil, Bool.and_true]
  cases limitsOk l <;> cases isNum v.1 <;> cases isNum v.2.1 <;> cases hashB v.2.2.1 <;> cases hashB v.2.2.2.2.1 <;> rfl
def fitBlock (x : DBlock) : Prop := fitHead x.1 ∧ okL x.2.1
def blockOk (l : DLimits) (x : DBlock) : Bool := (x.2.1.all fun t => decide (len t ≤ l.2.1)) && (headOk l x.1 && (decide (len x.2.1 ≤ l.2.2.1) && (x.1.2.2.2.2.1 == root x.2.1)))
theorem gt_not {a b : Int} : decide (a > b) = !decide (a ≤ b) := by
  by_cases h : a ≤ b
  · rw [decide_eq_true h, decide_eq_false (by omega)]; rfl
  · rw [decide_eq_false h, decide_eq_true (by omega)]; rfl
theorem iBlockOk_Y {l : DLimits} {x : DBlock} (h : fitBlock x) : Y (fun k => iBlockOk k l x) (blockOk l x) := by
  unfold iBlockOk blockOk
  refine Y.bind (Y.all (xs := x.2.1) (by have := h.2.1; omega) (fun t => decide (len t ≤ l.2.1)) (Sum.inl (l, x)) (Sum.inr false) (fun _ => True) (fun _ _ => trivial) (fun k i => iBlockOk_l0 k l x x.2.1 (len x.2.1) i) (fun _ t => some (decide (len t ≤ l.2.1))) (fun t _ => Y.pure _) (fun k i => ?_)) ?_
  · simp only [iBlockOk_l0, gt_not, Option.bind_some]
  · cases x.2.1.all fun t => decide (len t ≤ l.2.1) with
    | false => exact Y.pure _
    | true =>
      simp only [cond_true, sumE, Bool.true_and]
      refine Y.bind (iHeadOk_Y h.1) (Y.and fun _ => Y.and fun _ => Y.bind (iRoot_Y h.2) ?_)
      rw [iSameBytes_eq]
      exact Y.pure _
theorem sBlockOk_Y {l : DLimits} {x : DBlock} (h : fitBlock x) : Y (fun k => sBlockOk k l x) (blockOk l x) := by
  have e : blockOk l x = (headOk l x.1 && (decide (len x.2.1 ≤ l.2.2.1) && ((x.2.1.all fun t => decide (len t ≤ l.2.1)) && (x.1.2.2.2.2.1 == root x.2.1)))) := by
    unfold blockOk
    cases x.2.1.all (fun t => decide (len t ≤ l.2.1)) <;> cases headOk l x.1 <;> cases decide (len x.2.1 ≤ l.2.2.1) <;> rfl
  rw [e]
  unfold sBlockOk
  simp only [gt_not]
  refine Y.bind (sHeadOk_Y h.1) (Y.andN fun _ => Y.andN fun _ => ?_)
  refine Y.bind (Y.all (xs := x.2.1) (by have := h.2.1; omega) (fun t => decide (len t ≤ l.2.1)) (Sum.inl x) (Sum.inr false) (fun _ => True) (fun _ _ => trivial) (fun k i => sBlockOk_l0 k l x x.2.1 (len x.2.1) i) (fun _ t => some (decide (len t ≤ l.2.1))) (fun t _ => Y.pure _) (fun k i => ?_)) ?_
  · simp only [sBlockOk_l0, gt_not, Option.bind_some]
  · cases x.2.1.all fun t => decide (len t ≤ l.2.1) with
    | false => exact Y.pure _
    | true =>
      simp only [cond_true, sumE, Bool.true_and]
      refine Y.bind (sRoot_Y h.2) ?_
      rw [sSameBytes_eq]
      exact Y.pure _
def fitTc (t : DTc) : Prop := t.2.1.length < 1000000000 ∧ ∀ e ∈ t.2.1, e.2.2.1.length < 1000000000 ∧ Bytes e.2.2.1
def entOk (n view : Int) (e : DEntry) : Bool := within e.1 0 n && (within e.2.1 0 view && hashB e.2.2.1)
def entsOk (n view : Int) : Option DEntry → List DEntry → Bool
  | _, [] => true
  | p, e :: r => (entOk n view e && (match p with | none => true | some q => decide (q.1 < e.1))) && entsOk n view (some e) r
def tcOk (l : DLimits) (t : DTc) : Bool := limitsOk l && (isNum t.1 && (decide (len t.2.1 ≤ l.1) && entsOk (l.1 - 1) (t.1 - 1) none t.2.1))
def lastO {α : Type} (l : List α) : Option α := l.getLast?
theorem lastO_snoc {α : Type} (l : List α) (x : α) : lastO (l ++ [x]) = some x := by simp [lastO]
theorem one_hash (x : List Int) : [x].all hashB = hashB x := by simp
theorem pre_cases {α : Type} (l : List α) : l = [] ∨ ∃ p y, l = p ++ [y] := by
  by_cases h : l = []
  · exact .inl h
  · exact .inr ⟨l.dropLast, l.getLast h, (List.dropLast_concat_getLast h).symm⟩
theorem iTc_loop {l : DLimits} {t : DTc} (h : t.2.1.length < 1000000000) : Y (fun k => iTcOk_l0 k l t t.2.1 (len t.2.1) 0) (cond (entsOk (su .i64 l.1 1) (su .i64 t.1 1) none t.2.1) (Sum.inl (l, t)) (Sum.inr false)) := by
  refine Y.loopP (σ := Unit) (xs := t.2.1) (by omega) (fun k _ i => iTcOk_l0 k l t t.2.1 (len t.2.1) i) (fun _ _ _ => True) (fun _ pre post => cond (entsOk (su .i64 l.1 1) (su .i64 t.1 1) (lastO pre) post) (Sum.inl (l, t)) (Sum.inr false)) (fun s _ => ?_) (fun s pre x post e _ hrd had ih => ?_) () trivial
  · simp only [iTcOk_l0, not_lt_len]
    exact Y.pure _
  · simp only [iTcOk_l0, lt_len e, hrd, had, iwithin_eq, cond_true, Option.bind_some]
    have ih' := ih () trivial
    rw [lastO_snoc] at ih'
    simp only [entsOk, entOk]
    cases hw : within x.1 0 (su .i64 l.1 1) with
    | false => exact Y.pure _
    | true =>
      simp only [Bool.not_true, cond_false, Bool.true_and]
      rcases pre_cases pre with rfl | ⟨p, y, rfl⟩
      · simp only [show decide (len ([] : List DEntry) > 0) = false from rfl, cond_false, lastO, List.getLast?_nil]
        cases hv : within x.2.1 0 (su .i64 t.1 1) with
        | false => exact Y.pure _
        | true =>
          simp only [Bool.not_true, cond_false, Bool.true_and]
          refine Y.bind (iareHashes_Y (by simp)) ?_
          rw [one_hash]
          cases hh : hashB x.2.2.1 with
          | false => exact Y.pure _
          | true => exact ih'
      · have hp : decide (len (p ++ [y]) > 0) = true := decide_eq_true (by rw [len_append]; have := len_nonneg p; show 0 < len p + 1; omega)
        rw [lastO_snoc]
        simp only [hp, cond_true, rd_prev e (by omega), Option.bind_some]
        by_cases hy : y.1 < x.1
        · rw [decide_eq_false (show ¬ x.1 ≤ y.1 by omega), decide_eq_true hy]
          simp only [cond_false]
          cases hv : within x.2.1 0 (su .i64 t.1 1) with
          | false => exact Y.pure _
          | true =>
            simp only [Bool.not_true, cond_false, Bool.true_and]
            refine Y.bind (iareHashes_Y (by simp)) ?_
            rw [one_hash]
            cases hh : hashB x.2.2.1 with
            | false => exact Y.pure _
            | true => exact ih'
        · rw [decide_eq_true (show x.1 ≤ y.1 by omega), decide_eq_false hy]
          simp only [cond_true, Bool.and_false, Bool.false_and, cond_false]
          exact Y.pure _
theorem iTcOk_Y {l : DLimits} {t : DTc} (h : fitTc t) : Y (fun k => iTcOk k l t) (tcOk l t) := by
  unfold iTcOk
  refine Y.bind (iTc_loop h.1) ?_
  unfold tcOk
  by_cases hg : limitsOk l = true ∧ isNum t.1 = true
  · have hn := limitsOk_N hg.1
    have hv := isNum_iff.1 hg.2
    rw [hg.1, hg.2, su_ok (by omega) (by omega), su_ok (by omega) (by omega)]
    simp only [Bool.true_and]
    cases he : entsOk (l.1 - 1) (t.1 - 1) none t.2.1 with
    | false => rw [Bool.and_false]; exact Y.pure _
    | true =>
      simp only [cond_true, sumE, iLimitsOk_eq, hg.1, iisNum_eq, hg.2, Option.bind_some, Bool.and_true]
      exact Y.pure _
  · have hf : (limitsOk l && (isNum t.1 && (decide (len t.2.1 ≤ l.1) && entsOk (l.1 - 1) (t.1 - 1) none t.2.1))) = false := by
      rw [Bool.eq_false_iff]
      intro e
      simp only [Bool.and_eq_true] at e
      exact hg ⟨e.1, e.2.1⟩
    rw [hf]
    cases entsOk (su .i64 l.1 1) (su .i64 t.1 1) none t.2.1 with
    | false => exact Y.pure _
    | true =>
      simp only [cond_true, sumE, iLimitsOk_eq, iisNum_eq, Option.bind_some]
      cases hl : limitsOk l with
      | false => exact Y.pure _
      | true =>
        cases hv : isNum t.1 with
        | false => exact Y.pure _
        | true => exact absurd ⟨hl, hv⟩ hg
theorem sTcOk_Y {l : DLimits} {t : DTc} (h : fitTc t) : Y (fun k => sTcOk k l t) (tcOk l t) := by
  unfold sTcOk tcOk
  simp only [sLimitsOk_eq, sl01Num_eq, gt_not, Option.bind_some]
  refine Y.andN fun hl => Y.andN fun hv => Y.andN fun _ => ?_
  have hn := limitsOk_N hl
  have hv' := isNum_iff.1 hv
  have hlen := h.1
  refine Y.bind (a := cond (entsOk (l.1 - 1) (t.1 - 1) none t.2.1) (Sum.inl ()) (Sum.inr false)) ?_ ?_
  · refine Y.loopP (σ := Unit) (xs := t.2.1) (by omega) (fun k _ i => sTcOk_l0 k l t t.2.1 (len t.2.1) i) (fun _ _ _ => True) (fun _ pre post => cond (entsOk (l.1 - 1) (t.1 - 1) (lastO pre) post) (Sum.inl ()) (Sum.inr false)) (fun s _ => ?_) (fun s pre x post e _ hrd had ih => ?_) () trivial
    · simp only [sTcOk_l0, not_lt_len]
      exact Y.pure _
    · simp only [sTcOk_l0, lt_len e, hrd, had, sl01In_eq, sl07Hash_eq, cond_true, Option.bind_some]
      have ih' := ih () trivial
      rw [lastO_snoc] at ih'
      rw [su_ok (a := l.1) (b := 1) (by omega) (by omega)]
      simp only [entsOk, entOk]
      cases hw : within x.1 0 (l.1 - 1) with
      | false => exact Y.pure _
      | true =>
        simp only [Bool.not_true, cond_false, Bool.true_and]
        by_cases h1 : x.2.1 < 0
        · rw [decide_eq_true h1, show within x.2.1 0 (t.1 - 1) = false by rw [Bool.eq_false_iff]; intro e; have := within_iff.1 e; omega]
          exact Y.pure _
        · by_cases h2 : x.2.1 ≥ t.1
          · rw [decide_eq_false h1, decide_eq_true h2, show within x.2.1 0 (t.1 - 1) = false by rw [Bool.eq_false_iff]; intro e; have := within_iff.1 e; omega]
            exact Y.pure _
          · rw [decide_eq_false h1, decide_eq_false h2, within_iff.2 ⟨by omega, by omega⟩]
            simp only [cond_false, Bool.true_and]
            cases hh : hashB x.2.2.1 with
            | false => exact Y.pure _
            | true =>
              simp only [Bool.not_true, cond_false, Bool.true_and]
              rcases pre_cases pre with rfl | ⟨p, y, rfl⟩
              · simp only [show decide (len ([] : List DEntry) > 0) = false from rfl, cond_false, lastO, List.getLast?_nil, Bool.true_and]
                exact ih'
              · have hp : decide (len (p ++ [y]) > 0) = true := decide_eq_true (by rw [len_append]; have := len_nonneg p; show 0 < len p + 1; omega)
                rw [lastO_snoc]
                simp only [hp, cond_true, rd_prev e (by omega), Option.bind_some]
                by_cases hy : y.1 < x.1
                · rw [decide_eq_false (show ¬ y.1 ≥ x.1 by omega), decide_eq_true hy]
                  simp only [cond_false, Bool.true_and]
                  exact ih'
                · rw [decide_eq_true (show y.1 ≥ x.1 by omega), decide_eq_false hy]
                  exact Y.pure _
  · cases entsOk (l.1 - 1) (t.1 - 1) none t.2.1 <;> exact Y.pure _
theorem sProofOk_Y {l : DLimits} {p : DProof} (h : fitProof p) : Y (fun k => sProofOk k l p) (proofOk l p) := by
  have e : proofOk l p = (limitsOk l && (within (len p.1) 3 l.2.2.2.2.1 && (p.1.all (headOk l) && (qcOk l p.2.1 && closes p)))) := by
    unfold proofOk
    have hl : qcOk l p.2.1 = (limitsOk l && qcOk l p.2.1) := by unfold qcOk; cases limitsOk l <;> simp
    rw [hl]
    cases limitsOk l <;> simp
  rw [e]
  unfold sProofOk
  simp only [sLimitsOk_eq, sl01In_eq, Option.bind_some]
  refine Y.andN fun _ => Y.andN fun hw => ?_
  refine Y.bind (Y.all (xs := p.1) (by have := h.1.1; omega) (headOk l) (Sum.inl (l, p)) (Sum.inr false) fitHead h.1.2 (fun k i => sProofOk_l0 k l p p.1 (len p.1) i) (fun k x => sHeadOk k l x) (fun x hx => sHeadOk_Y hx) (fun k i => rfl)) ?_
  cases p.1.all (headOk l) with
  | false => exact Y.pure _
  | true =>
    simp only [cond_true, sumE, Bool.true_and]
    refine Y.bind (sQcOk_Y h.2) (Y.and fun _ => ?_)
    rw [within_iff] at hw
    unfold sl16Fits
    rw [last_rd (by unfold len at hw; omega) h.1.1]
    unfold closes
    simp only [Option.bind_some]
    cases p.2.1.1 == (lastH p).1 <;> exact Y.pure _
def fitIncl (x : DIncl) : Prop := (x.2.2.2.1.length < 1000000000 ∧ Bytes x.2.2.2.1) ∧ okL x.2.2.2.2.1
def inclOk (l : DLimits) (x : DIncl) : Bool := limitsOk l && (isNum x.1 && (within x.2.1 1 l.2.2.1 && (within x.2.2.1 0 (su .i64 x.2.1 1) && (decide (len x.2.2.2.1 ≤ l.2.1) && ((len x.2.2.2.2.1 == pathLen x.2.2.1 x.2.1) && x.2.2.2.2.1.all hashB)))))
theorem limitsOk_txs {l : DLimits} (h : limitsOk l = true) : 0 ≤ l.2.1 ∧ l.2.1 ≤ 40 ∧ 0 ≤ l.2.2.1 ∧ l.2.2.1 ≤ 8 ∧ 1 ≤ l.2.2.2.1 ∧ l.2.2.2.1 ≤ 4000 := by
  simp only [limitsOk, Bool.and_eq_true, within_iff] at h
  omega
theorem iInclOk_Y {l : DLimits} {x : DIncl} (h : fitIncl x) : Y (fun k => iInclOk k l x) (inclOk l x) := by
  unfold iInclOk inclOk
  simp only [iLimitsOk_eq, iisNum_eq, iwithin_eq, Option.bind_some]
  refine Y.and fun hl => Y.and fun _ => Y.and fun h1 => Y.and fun h2 => Y.and fun _ => ?_
  have ht := limitsOk_txs hl
  rw [within_iff] at h1
  rw [su_ok (by omega) (by omega), within_iff] at h2
  refine Y.bind (iPathLen_Y (by omega) (by omega) (by omega)) (Y.and fun _ => Y.bind (iareHashes_Y (by have := h.2.1; omega)) (Y.pure _))
theorem sInclOk_Y {l : DLimits} {x : DIncl} (h : fitIncl x) : Y (fun k => sInclOk k l x) (inclOk l x) := by
  unfold sInclOk inclOk
  simp only [sLimitsOk_eq, sl01Num_eq, sl01In_eq, Option.bind_some]
  refine Y.and fun hl => Y.and fun _ => Y.and fun h1 => Y.and fun h2 => Y.and fun _ => ?_
  have ht := limitsOk_txs hl
  rw [within_iff] at h1
  rw [su_ok (by omega) (by omega), within_iff] at h2
  refine Y.bind (sPathLen_Y (by omega) (by omega) (by omega)) (Y.and fun _ => Y.bind (sl08Hashes_Y (by have := h.2.1; omega)) (Y.pure _))
end Go.Ev.G
/- More copies, more sameness. -/
namespace Go.Ev.G
open Go.Ev
theorem sl06Copy_Y {l : List (List Int)} (h : fitL l) : Y (fun k => sl06Copy k l) l := by
  unfold sl06Copy
  have := Y.mapG (xs := l) (by have := h.1; omega) id (fun x => x.length < 1000000000) h.2 (fun k out i => sl06Copy_l0 k out l (len l) i) id (fun k x out i => (sl01Copy x).bind fun v_2 => (app out [v_2]).bind fun v_3 => sl06Copy_l0 k v_3 l (len l) (ad .i64 i 1)) (fun k out i => rfl) (fun x out i R hx _ ho hR => ?_)
  · rw [List.map_id] at this
    exact Y.bind this (Y.pure _)
  · rw [sl01Copy_eq (by omega)]
    simp only [Option.bind_some]
    rw [app_ok (by simp; omega)]
    exact hR
theorem sl12Copy_Y {q : DQc} (h : fitQc q) : Y (fun k => sl12Copy k q) q := by
  unfold sl12Copy
  rw [sl01Copy_eq (by have := h.1; omega), sl01Copy_eq (by have := h.2.1; omega)]
  simp only [Option.bind_some]
  exact Y.bind (sl06Copy_Y h.tagsL) (Y.pure _)
theorem sl13Copy_Y {h : DHead} (hf : fitHead h) : Y (fun k => sl13Copy k h) h := by
  unfold sl13Copy
  rw [sl01Copy_eq (by have := hf.1; omega), sl01Copy_eq (by have := hf.2.1; omega)]
  simp only [Option.bind_some]
  exact Y.bind (sl12Copy_Y hf.2.2.2.2) (Y.pure _)
theorem sl16Heads_Y {l : List DHead} (h : fitHeads l) : Y (fun k => sl16Heads k l) l := by
  unfold sl16Heads
  have := Y.mapG (xs := l) (by have := h.1; omega) id fitHead h.2 (fun k out i => sl16Heads_l0 k out l (len l) i) id (fun k x out i => (sl13Copy k x).bind fun v_2 => (app out [v_2]).bind fun v_3 => sl16Heads_l0 k v_3 l (len l) (ad .i64 i 1)) (fun k out i => rfl) (fun x out i R hx _ ho hR => ?_)
  · rw [List.map_id] at this
    exact Y.bind this (Y.pure _)
  · refine Y.bind (sl13Copy_Y hx) ?_
    rw [app_ok (by simp; omega)]
    exact hR
theorem sl16Copy_Y {p : DProof} (h : fitProof p) : Y (fun k => sl16Copy k p) p := by
  unfold sl16Copy
  exact Y.bind (sl16Heads_Y h.1) (Y.bind (sl12Copy_Y h.2) (Y.pure _))
theorem iBlock_copied_Y {x : DBlock} (h : fitBlock x) : Y (fun k => iBlock_copied k x) x := by
  unfold iBlock_copied
  exact Y.bind (iHead_copied_Y h.1) (Y.bind (icopyList_Y h.2.fit) (Y.pure _))
theorem sl14Copy_Y {x : DBlock} (h : fitBlock x) : Y (fun k => sl14Copy k x) x := by
  unfold sl14Copy
  exact Y.bind (sl13Copy_Y h.1) (Y.bind (sl06Copy_Y h.2.fit) (Y.pure _))
theorem iIncl_copied_Y {x : DIncl} (h : fitIncl x) : Y (fun k => iIncl_copied k x) x := by
  unfold iIncl_copied
  rw [icopyBytes_eq (by have := h.1.1; omega)]
  simp only [Option.bind_some]
  exact Y.bind (icopyList_Y h.2.fit) (Y.pure _)
theorem sl16Incl_Y {x : DIncl} (h : fitIncl x) : Y (fun k => sl16Incl k x) x := by
  unfold sl16Incl
  rw [sl01Copy_eq (by have := h.1.1; omega)]
  simp only [Option.bind_some]
  exact Y.bind (sl06Copy_Y h.2.fit) (Y.pure _)
theorem iTc_copied_Y {t : DTc} (h : fitTc t) : Y (fun k => iTc_copied k t) t := by
  unfold iTc_copied
  have := Y.mapG (xs := t.2.1) (by have := h.1; omega) id (fun e => e.2.2.1.length < 1000000000 ∧ Bytes e.2.2.1) h.2 (fun k out i => iTc_copied_l0 k (0, [], ()) (t.1, out, ()) t.2.1 (len t.2.1) i) (fun out => (((0, [], ()) : DTc), ((t.1, out, ()) : DTc))) (fun k x out i => (icopyBytes x.2.2.1).bind fun v_2 => (app out [(x.1, x.2.1, v_2, ())]).bind fun v_3 => iTc_copied_l0 k (0, [], ()) (t.1, v_3, ()) t.2.1 (len t.2.1) (ad .i64 i 1)) (fun k out i => rfl) (fun x out i R hx _ ho hR => ?_)
  · rw [List.map_id] at this
    exact Y.bind this (Y.pure _)
  · rw [icopyBytes_eq (by have := hx.1; omega)]
    simp only [Option.bind_some]
    rw [app_ok (by simp; omega)]
    exact hR
theorem sl15Copy_Y {t : DTc} (h : fitTc t) : Y (fun k => sl15Copy k t) t := by
  unfold sl15Copy
  have := Y.mapG (xs := t.2.1) (by have := h.1; omega) id (fun e => e.2.2.1.length < 1000000000 ∧ Bytes e.2.2.1) h.2 (fun k out i => sl15Copy_l0 k (0, [], ()) (t.1, out, ()) t.2.1 (len t.2.1) i) (fun out => (((0, [], ()) : DTc), ((t.1, out, ()) : DTc))) (fun k x out i => (sl01Copy x.2.2.1).bind fun v_2 => (app out [(x.1, x.2.1, v_2, ())]).bind fun v_3 => sl15Copy_l0 k (0, [], ()) (t.1, v_3, ()) t.2.1 (len t.2.1) (ad .i64 i 1)) (fun k out i => rfl) (fun x out i R hx _ ho hR => ?_)
  · rw [List.map_id] at this
    exact Y.bind this (Y.pure _)
  · rw [sl01Copy_eq (by have := hx.1; omega)]
    simp only [Option.bind_some]
    rw [app_ok (by simp; omega)]
    exact hR
/-! ### Sameness -/
theorem Y.andC {c : Bool} {f : Nat → Option Bool} {r : Bool} (h : c = true → Y f r) : Y (fun k => cond c (f k) (some false)) (c && r) := Y.and h
theorem same_pair {α β : Type} (a b : α × β) : same a b = (same a.1 b.1 && same a.2 b.2) := by
  rw [Bool.eq_iff_iff]
  simp only [Bool.and_eq_true, same_iff]
  exact Prod.ext_iff
theorem same_unit (a b : Unit) : same a b = true := same_true rfl
theorem and_swap (a b c : Bool) : (a && (b && c)) = (b && (a && c)) := by cases a <;> cases b <;> rfl
theorem iVoteSame_eq (a b : DVote) : iVoteSame a b = some (same a b) := by
  unfold iVoteSame
  simp only [iSameBytes_eq, same_bytes, int_beq, Option.bind_some, same_pair, same_unit, Bool.and_true]
  cases same a.1 b.1 <;> cases same a.2.1 b.2.1 <;> cases same a.2.2.1 b.2.2.1 <;> cases same a.2.2.2.1 b.2.2.2.1 <;> rfl
theorem sVoteSame_eq (a b : DVote) : sVoteSame a b = some (same a b) := by
  unfold sVoteSame
  simp only [sSameBytes_eq, same_bytes, int_beq, Option.bind_some, same_pair, same_unit, Bool.and_true]
  cases same a.1 b.1 <;> cases same a.2.1 b.2.1 <;> cases same a.2.2.1 b.2.2.1 <;> cases same a.2.2.2.1 b.2.2.2.1 <;> rfl
theorem sTreeSame_Y {a b : List (List Int)} (h : a.length < 1000000000) : Y (fun k => sTreeSame k a b) (same a b) := by
  unfold sTreeSame
  refine Y.cnd' (fun hl => ?_) (fun hl => ?_)
  · rw [same_false (lens' hl)]
    exact Y.pure _
  · refine Y.bind (Y.sameG (lens hl) (by omega) (Sum.inl ()) (Sum.inr false) (fun _ _ => True) (fun _ _ => trivial) (fun k i => sTreeSame_l0 k a b (len a) i)
      (fun k i => (rd a i).bind fun v_1 => (rd b i).bind fun v_2 => (sSameBytes v_1 v_2).bind fun v_3 => cond (!v_3) (some (Sum.inr false)) (sTreeSame_l0 k a b (len a) (ad .i64 i 1))) (fun k i => rfl) (fun x y i R _ e1 e2 h1 h2 => ?_)) ?_
    · rw [e1, e2]
      simp only [Option.bind_some, sSameBytes_eq, same_bytes]
      by_cases e : x = y
      · rw [same_true e]; exact h1 e
      · rw [same_false e, h2 e]; exact Y.pure _
    · cases same a b <;> exact Y.pure _
theorem sQcSame_Y {a b : DQc} (h : fitQc a) : Y (fun k => sQcSame k a b) (same a b) := by
  simp only [same_pair, same_unit, Bool.and_true]
  unfold sQcSame
  simp only [sSameBytes_eq, same_bytes, int_beq, Option.bind_some]
  exact Y.and fun _ => Y.and fun _ => Y.and fun _ => Y.and fun _ => Y.bind (sTreeSame_Y h.2.2.1) (Y.pure _)
theorem same_head (a b : DHead) : same a b = (same a.1 b.1 && (same a.2.1 b.2.1 && (same a.2.2.1 b.2.2.1 && (same a.2.2.2.1 b.2.2.2.1 && (same a.2.2.2.2.1 b.2.2.2.2.1 && same a.2.2.2.2.2.1 b.2.2.2.2.2.1))))) := by
  rw [same_pair, same_pair a.2, same_pair a.2.2, same_pair a.2.2.2, same_pair a.2.2.2.2, same_pair a.2.2.2.2.2, same_unit, Bool.and_true]
theorem sHeadSame_Y {a b : DHead} (h : fitHead a) : Y (fun k => sHeadSame k a b) (same a b) := by
  rw [same_head]
  unfold sHeadSame
  simp only [sSameBytes_eq, same_bytes, int_beq, Option.bind_some]
  exact Y.and fun _ => Y.and fun _ => Y.and fun _ => Y.and fun _ => Y.and fun _ => Y.bind (sQcSame_Y h.2.2.2.2) (Y.pure _)
theorem same_block (a b : DBlock) : same a b = (same a.1 b.1 && same a.2.1 b.2.1) := by
  rw [same_pair, same_pair a.2, same_unit, Bool.and_true]
theorem iBlockSame_Y {a b : DBlock} (h : fitBlock a) : Y (fun k => iBlockSame k a b) (same a b) := by
  rw [same_block]
  unfold iBlockSame
  exact Y.bind (iHeadSame_Y h.1) (Y.and fun _ => Y.bind (iTreeSame_Y h.2.1) (Y.pure _))
theorem sBlockSame_Y {a b : DBlock} (h : fitBlock a) : Y (fun k => sBlockSame k a b) (same a b) := by
  rw [same_block]
  unfold sBlockSame
  exact Y.bind (sHeadSame_Y h.1) (Y.and fun _ => Y.bind (sTreeSame_Y h.2.1) (Y.pure _))
theorem ientrySame_eq (a b : DEntry) : ientrySame a b = some (same a b) := by
  unfold ientrySame
  simp only [iSameBytes_eq, same_bytes, int_beq, Option.bind_some, same_pair, same_unit, Bool.and_true]
  cases same a.1 b.1 <;> cases same a.2.1 b.2.1 <;> rfl
theorem same_tc (a b : DTc) : same a b = (same a.1 b.1 && same a.2.1 b.2.1) := by
  rw [same_pair, same_pair a.2, same_unit, Bool.and_true]
theorem bne_same (a b : Int) : (a != b) = !same a b := by rw [bne, int_beq]
theorem iTcSame_Y {a b : DTc} (h : fitTc a) : Y (fun k => iTcSame k a b) (same a b) := by
  rw [same_tc]
  unfold iTcSame
  rw [bne_same]
  refine Y.andN fun _ => ?_
  refine Y.cnd' (fun hl => ?_) (fun hl => ?_)
  · rw [same_false (lens' hl)]
    exact Y.pure _
  · refine Y.bind (Y.sameG (lens hl) (by have := h.1; omega) (Sum.inl ()) (Sum.inr false) (fun _ _ => True) (fun _ _ => trivial) (fun k i => iTcSame_l0 k a b (len a.2.1) i) (fun k i => _) (fun k i => rfl) (fun x y i R _ e1 e2 h1 h2 => ?_)) ?_
    · rw [e1, e2]
      simp only [Option.bind_some, ientrySame_eq]
      by_cases e : x = y
      · rw [same_true e]; exact h1 e
      · rw [same_false e, h2 e]; exact Y.pure _
    · cases same a.2.1 b.2.1 <;> exact Y.pure _
theorem same_entry (x y : DEntry) : same x y = (same x.1 y.1 && (same x.2.1 y.2.1 && same x.2.2.1 y.2.2.1)) := by
  rw [same_pair, same_pair x.2, same_pair x.2.2, same_unit, Bool.and_true]
theorem sTcSame_Y {a b : DTc} (h : fitTc a) : Y (fun k => sTcSame k a b) (same a b) := by
  rw [same_tc]
  unfold sTcSame
  rw [bne_same]
  refine Y.andN fun _ => ?_
  refine Y.cnd' (fun hl => ?_) (fun hl => ?_)
  · rw [same_false (lens' hl)]
    exact Y.pure _
  · refine Y.bind (Y.sameG (lens hl) (by have := h.1; omega) (Sum.inl ()) (Sum.inr false) (fun _ _ => True) (fun _ _ => trivial) (fun k i => sTcSame_l0 k b a.2.1 (len a.2.1) i) (fun k i => _) (fun k i => rfl) (fun x y i R _ e1 e2 h1 h2 => ?_)) ?_
    · rw [e1, e2]
      simp only [Option.bind_some, sSameBytes_eq, same_bytes, bne_same]
      by_cases e : x = y
      · rw [e] at h1 ⊢
        simp only [same_true rfl, Bool.not_true, cond_false]
        exact h1 rfl
      · rw [h2 e]
        have hs := same_false e
        rw [same_entry] at hs
        cases h1 : same x.1 y.1 with
        | false => exact Y.pure _
        | true =>
          cases h2 : same x.2.1 y.2.1 with
          | false => exact Y.pure _
          | true =>
            rw [h1, h2] at hs
            simp only [Bool.true_and] at hs
            rw [hs]
            exact Y.pure _
    · cases same a.2.1 b.2.1 <;> exact Y.pure _
theorem same_proof (a b : DProof) : same a b = (same a.1 b.1 && same a.2.1 b.2.1) := by
  rw [same_pair, same_pair a.2, same_unit, Bool.and_true]
theorem iProofSame_Y {a b : DProof} (h : fitProof a) : Y (fun k => iProofSame k a b) (same a b) := by
  rw [same_proof]
  unfold iProofSame
  exact Y.bind (iheadsSame_Y h.1) (Y.and fun _ => Y.bind (iQcSame_Y h.2) (Y.pure _))
theorem sProofSame_Y {a b : DProof} (h : fitProof a) : Y (fun k => sProofSame k a b) (same a b) := by
  rw [same_proof]
  unfold sProofSame
  refine Y.cnd' (fun hl => ?_) (fun hl => ?_)
  · rw [same_false (lens' hl)]
    exact Y.pure _
  · refine Y.bind (Y.sameG (lens hl) (by have := h.1.1; omega) (Sum.inl (a, b)) (Sum.inr false) (fun x _ => fitHead x) (fun z hz => h.1.2 _ (List.of_mem_zip hz).1) (fun k i => sProofSame_l0 k a b (len a.1) i) (fun k i => _) (fun k i => rfl) (fun x y i R hx e1 e2 h1 h2 => ?_)) ?_
    · rw [e1, e2]
      simp only [Option.bind_some]
      refine Y.bind (sHeadSame_Y hx) ?_
      by_cases e : x = y
      · rw [same_true e]; exact h1 e
      · rw [same_false e, h2 e]; exact Y.pure _
    · cases same a.1 b.1 with
      | false => exact Y.pure _
      | true => exact Y.bind (sQcSame_Y h.2) (Y.pure _)
theorem same_incl (a b : DIncl) : same a b = (same a.1 b.1 && (same a.2.1 b.2.1 && (same a.2.2.1 b.2.2.1 && (same a.2.2.2.1 b.2.2.2.1 && same a.2.2.2.2.1 b.2.2.2.2.1)))) := by
  rw [same_pair, same_pair a.2, same_pair a.2.2, same_pair a.2.2.2, same_pair a.2.2.2.2, same_unit, Bool.and_true]
theorem iInclSame_Y {a b : DIncl} (h : fitIncl a) : Y (fun k => iInclSame k a b) (same a b) := by
  rw [same_incl]
  unfold iInclSame
  simp only [iSameBytes_eq, same_bytes, int_beq, Option.bind_some]
  exact Y.and fun _ => Y.and fun _ => Y.and fun _ => Y.and fun _ => Y.bind (iTreeSame_Y h.2.1) (Y.pure _)
theorem sInclSame_Y {a b : DIncl} (h : fitIncl a) : Y (fun k => sInclSame k a b) (same a b) := by
  rw [same_incl]
  unfold sInclSame
  simp only [sSameBytes_eq, same_bytes, int_beq, Option.bind_some]
  exact Y.and fun _ => Y.and fun _ => Y.and fun _ => Y.and fun _ => Y.bind (sTreeSame_Y h.2.1) (Y.pure _)
/-! ### Messages -/
structure FitMsg (m : DMsg) : Prop where
  vote : fitVote m.2.1
  qc : fitQc m.2.2.1
  head : fitHead m.2.2.2.1
  block : fitBlock m.2.2.2.2.1
  tc : fitTc m.2.2.2.2.2.1
  proof : fitProof m.2.2.2.2.2.2.1
  incl : fitIncl m.2.2.2.2.2.2.2.1
theorem same_msg (a b : DMsg) : same a b = (same a.1 b.1 && (same a.2.1 b.2.1 && (same a.2.2.1 b.2.2.1 && (same a.2.2.2.1 b.2.2.2.1 && (same a.2.2.2.2.1 b.2.2.2.2.1 && (same a.2.2.2.2.2.1 b.2.2.2.2.2.1 && (same a.2.2.2.2.2.2.1 b.2.2.2.2.2.2.1 && same a.2.2.2.2.2.2.2.1 b.2.2.2.2.2.2.2.1))))))) := by
  rw [same_pair, same_pair a.2, same_pair a.2.2, same_pair a.2.2.2, same_pair a.2.2.2.2, same_pair a.2.2.2.2.2, same_pair a.2.2.2.2.2.2, same_pair a.2.2.2.2.2.2.2, same_unit, Bool.and_true]
theorem iMsgSame_Y {a b : DMsg} (h : FitMsg a) : Y (fun k => iMsgSame k a b) (same a b) := by
  rw [same_msg]
  unfold iMsgSame
  simp only [int_beq, iVoteSame_eq, Option.bind_some]
  exact Y.and fun _ => Y.and fun _ => Y.bind (iQcSame_Y h.qc) (Y.and fun _ => Y.bind (iHeadSame_Y h.head) (Y.and fun _ => Y.bind (iBlockSame_Y h.block) (Y.and fun _ => Y.bind (iTcSame_Y h.tc) (Y.and fun _ => Y.bind (iProofSame_Y h.proof) (Y.and fun _ => Y.bind (iInclSame_Y h.incl) (Y.pure _))))))
theorem sMsgSame_Y {a b : DMsg} (h : FitMsg a) : Y (fun k => sMsgSame k a b) (same a b) := by
  rw [same_msg]
  unfold sMsgSame
  simp only [int_beq, sVoteSame_eq, Option.bind_some]
  exact Y.and fun _ => Y.and fun _ => Y.bind (sQcSame_Y h.qc) (Y.and fun _ => Y.bind (sHeadSame_Y h.head) (Y.and fun _ => Y.bind (sBlockSame_Y h.block) (Y.and fun _ => Y.bind (sTcSame_Y h.tc) (Y.and fun _ => Y.bind (sProofSame_Y h.proof) (Y.and fun _ => Y.bind (sInclSame_Y h.incl) (Y.pure _))))))
end Go.Ev.G
