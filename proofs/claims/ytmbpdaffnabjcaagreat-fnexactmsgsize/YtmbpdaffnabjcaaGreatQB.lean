/- Plain laws of the plain functions. No condition. -/
import Derived.Test.YtmbpdaffnabjcaaGreatQA
import Derived.Test.YtmbpdaffnabjcaaGreatEH
set_option linter.unusedVariables false
set_option linter.unusedSimpArgs false
set_option linter.unusedSectionVars false
/- The bytes of votes, blocks, timeout certificates, proofs. -/
namespace Go.Ev.G
open Go.Ev
def textB (x : List Int) : List Int := numB (len x) ++ x
theorem len_num {α : Type} {x : List α} (h : x.length < 1000000000) : isNum (len x) = true := isNum_iff.2 ⟨len_nonneg x, by unfold len; omega⟩
theorem textB_len {x : List Int} (h : x.length < 1000000000) : (textB x).length ≤ 9 + x.length := by
  have := numB_len (len_num h)
  simp only [textB, List.length_append]
  omega
theorem iPutText_Y {b x : List Int} (hb : b.length < 50000000) (hx : x.length < 1000000000) : Y (fun k => iPutText k b x) (b ++ textB x) := by
  have h9 := numB_len (len_num hx)
  unfold iPutText
  refine Y.bind (iPutVar_Y (by omega)) ?_
  rw [if_pos (len_num hx)]
  simp only [optE]
  unfold numB at h9
  rw [app_ok (by simp only [List.length_append]; omega)]
  unfold textB numB
  rw [← List.append_assoc]
  exact Y.pure _
theorem sPutText_Y {b x : List Int} (hb : b.length < 50000000) (hx : x.length < 1000000000) : Y (fun k => sPutText k b x) (b ++ textB x) := by
  have h9 := numB_len (len_num hx)
  unfold sPutText
  refine Y.bind (sPutVar_Y (by omega)) ?_
  rw [if_pos (len_num hx)]
  unfold numB at h9
  simp only
  rw [app_ok (by simp only [List.length_append]; omega)]
  unfold textB numB
  rw [← List.append_assoc]
  exact Y.pure _
/-! ### Votes -/
def vB (v : DVote) : List Int := numB v.1 ++ (numB v.2.1 ++ (v.2.2.1 ++ (numB v.2.2.2.1 ++ v.2.2.2.2.1)))
structure VoteIs (l : DLimits) (v : DVote) : Prop where
  lim : limitsOk l = true
  view : isNum v.1 = true
  height : isNum v.2.1 = true
  block : v.2.2.1.length = 32
  tag : v.2.2.2.2.1.length = 32
  who : 0 ≤ v.2.2.2.1 ∧ v.2.2.2.1 < l.1
theorem voteOk_iff {l : DLimits} {v : DVote} : voteOk l v = true ↔ VoteIs l v := by
  simp only [voteOk, Bool.and_eq_true, List.all_cons, List.all_nil, Bool.and_true, hashB_iff, within_iff]
  constructor
  · rintro ⟨a, b, c, ⟨d, e⟩, f⟩
    have := limitsOk_N a
    rw [su_ok (by omega) (by omega)] at f
    exact ⟨a, b, c, d, e, by omega⟩
  · rintro ⟨a, b, c, d, e, f⟩
    have := limitsOk_N a
    rw [su_ok (by omega) (by omega)]
    exact ⟨a, b, c, ⟨d, e⟩, by omega⟩
theorem VoteIs.whoNum {l : DLimits} {v : DVote} (h : VoteIs l v) : isNum v.2.2.2.1 = true := by
  have := limitsOk_N h.lim
  have := h.who
  rw [isNum_iff]
  omega
theorem vB_len {l : DLimits} {v : DVote} (h : VoteIs l v) : (vB v).length ≤ 100 := by
  have h1 := numB_len h.view
  have h2 := numB_len h.height
  have h3 := numB_len h.whoNum
  have h4 := h.block
  have h5 := h.tag
  simp only [vB, List.length_append]
  omega
theorem iPutVote_Y {l : DLimits} {v : DVote} {b : List Int} (hb : b.length < 8000000) : Y (fun k => iPutVote k l b v) (cond (voteOk l v) (b ++ vB v, true) ([], false)) := by
  unfold iPutVote
  refine Y.bind iVoteOk_Y ?_
  cases ho : voteOk l v with
  | false => exact Y.pure _
  | true =>
    have h := voteOk_iff.1 ho
    have h1 := numB_len h.view
    have h2 := numB_len h.height
    have h3 := numB_len h.whoNum
    have h4 := h.block
    have h5 := h.tag
    unfold numB at h1 h2 h3
    simp only [Bool.not_true, cond_false, cond_true]
    rw [icopyBytes_eq (by omega)]
    simp only [Option.bind_some]
    refine Y.bind (iwriter_num_Y (by omega) h.view) (Y.bind (iwriter_num_Y (by simp; omega) h.height) ?_)
    rw [iwriter_raw_eq (by simp; omega)]
    simp only [Option.bind_some]
    refine Y.bind (iwriter_num_Y (by simp; omega) h.whoNum) ?_
    rw [iwriter_raw_eq (by simp; omega)]
    unfold vB numB
    simp only [List.append_assoc]
    exact Y.pure _
theorem sPutVote_Y {l : DLimits} {v : DVote} {b : List Int} (hb : b.length < 8000000) : Y (fun k => sPutVote k l b v) (cond (voteOk l v) (b ++ vB v, true) ([], false)) := by
  unfold sPutVote
  rw [sVoteOk_eq]
  simp only [Option.bind_some]
  cases ho : voteOk l v with
  | false => exact Y.pure _
  | true =>
    have h := voteOk_iff.1 ho
    have h1 := numB_len h.view
    have h2 := numB_len h.height
    have h3 := numB_len h.whoNum
    have h4 := h.block
    have h5 := h.tag
    unfold numB at h1 h2 h3
    simp only [Bool.not_true, cond_false, cond_true]
    refine Y.bind (sl11Num_Y (by omega) h.view) (Y.bind (sl11Num_Y (by simp; omega) h.height) ?_)
    rw [app_ok (by simp; omega)]
    simp only [Option.bind_some]
    refine Y.bind (sl11Num_Y (by simp; omega) h.whoNum) ?_
    rw [app_ok (by simp; omega)]
    unfold vB numB
    simp only [List.append_assoc]
    exact Y.pure _
/-! ### Certificates -/
theorem iPutQc_Y {l : DLimits} {q : DQc} {b : List Int} (hf : fitQc q) (hb : b.length < 8000000) : Y (fun k => iPutQc k l b q) (cond (qcOk l q) (b ++ qcB q, true) ([], false)) := by
  unfold iPutQc
  refine Y.bind (iQcOk_Y hf) ?_
  cases ho : qcOk l q with
  | false => exact Y.pure _
  | true =>
    simp only [Bool.not_true, cond_false, cond_true]
    rw [icopyBytes_eq (by omega)]
    simp only [Option.bind_some]
    exact Y.bind (iwriter_qc_Y (qcOk_iff.1 ho) (by omega)) (Y.pure _)
theorem sPutQcC_Y {l : DLimits} {q : DQc} {b : List Int} (hf : fitQc q) (hb : b.length < 8000000) : Y (fun k => sPutQc k l b q) (cond (qcOk l q) (b ++ qcB q, true) ([], false)) := by
  cases ho : qcOk l q with
  | true => exact sPutQc_Y hf (qcOk_iff.1 ho) (by omega)
  | false =>
    unfold sPutQc
    refine Y.bind (sQcOk_Y hf) ?_
    rw [ho]
    exact Y.pure _
/-! ### Blocks -/
theorem flatten_le {α : Type} {f : α → List Int} {m : Nat} : ∀ {t : List α}, (∀ x ∈ t, (f x).length ≤ m) → ((t.map f).flatten).length ≤ m * t.length := by
  intro t
  induction t with
  | nil => intro _; simp
  | cons x t ih =>
    intro h
    have h1 := h x (by simp)
    have h2 := ih fun y hy => h y (by simp [hy])
    simp only [List.map_cons, List.flatten_cons, List.length_append, List.length_cons, Nat.mul_add, Nat.mul_one]
    omega
/-- A loop that puts one item after the other. -/
theorem Y.putG {α β : Type} {xs : List α} (f : α → List Int) (m : Nat) (Q : α → Prop) (hQ : ∀ x ∈ xs, Q x) (hm : ∀ x, Q x → (f x).length ≤ m) (hx : m * xs.length < 20000000) (hxl : xs.length < 1000000000) (L : Nat → List Int → Int → Option β) (fin : List Int → β) (G : Nat → α → List Int → Int → Option β)
    (hL : ∀ k out i, L (k + 1) out i = cond (decide (i < len xs)) ((rd xs i).bind fun x => G k x out i) (some (fin out)))
    (hG : ∀ x out i R, Q x → out.length < 40000000 → Y (fun k => L k (out ++ f x) (ad .i64 i 1)) R → Y (fun k => G k x out i) R) (b : List Int) (hb : b.length < 20000000) : Y (fun k => L k b 0) (fin (b ++ (xs.map f).flatten)) := by
  refine Y.loop (σ := List Int) (xs := xs) (by omega) L (fun s post => s.length + m * post.length < 40000000 ∧ ∀ x ∈ post, Q x) (fun s post => fin (s ++ (post.map f).flatten)) (fun s _ => ?_) (fun s x post i hi h0 h1 hrd had ih => ?_) b ⟨by omega, hQ⟩
  · simp only [hL]
    rw [show decide (len xs < len xs) = false by simp]
    simp only [cond_false, List.map_nil, List.flatten_nil, List.append_nil]
    exact Y.pure _
  · simp only [hL]
    have hq := hi.2 x (by simp)
    have hl := hm x hq
    simp only [List.length_cons, Nat.mul_add, Nat.mul_one] at hi
    rw [show decide (i < len xs) = true by simpa using h1, hrd]
    simp only [cond_true, Option.bind_some]
    refine hG x s i _ hq (by omega) ?_
    rw [had]
    have := ih (s ++ f x) ⟨by simp only [List.length_append]; omega, fun y hy => hi.2 y (by simp [hy])⟩
    rw [List.append_assoc] at this
    exact this
def blockB (x : DBlock) : List Int := headB x.1 ++ (numB (len x.2.1) ++ (x.2.1.map textB).flatten)
structure BlockIs (l : DLimits) (x : DBlock) : Prop where
  head : HeadIs l x.1
  txs : (x.2.1.length : Int) ≤ l.2.2.1
  tx : ∀ t ∈ x.2.1, (t.length : Int) ≤ l.2.1
  root : x.1.2.2.2.2.1 = root x.2.1
theorem blockOk_iff {l : DLimits} {x : DBlock} : blockOk l x = true ↔ BlockIs l x := by
  simp only [blockOk, Bool.and_eq_true, List.all_eq_true, decide_eq_true_eq, headOk_iff, beq_iff_eq]
  simp only [len]
  constructor
  · rintro ⟨a, b, c, d⟩; exact ⟨b, c, a, d⟩
  · rintro ⟨a, b, c, d⟩; exact ⟨c, a, b, d⟩
theorem BlockIs.small {l : DLimits} {x : DBlock} (h : BlockIs l x) : x.2.1.length ≤ 8 ∧ ∀ t ∈ x.2.1, t.length ≤ 40 := by
  have := limitsOk_txs h.head.qc.lim
  have := h.txs
  exact ⟨by omega, fun t ht => by have := h.tx t ht; omega⟩
theorem blockB_len {l : DLimits} {x : DBlock} (h : BlockIs l x) : (blockB x).length ≤ 1000 := by
  have h1 := headB_len h.head
  have hs := h.small
  have h2 := numB_len (len_num (x := x.2.1) (by omega))
  have h3 := flatten_le (f := textB) (m := 49) (t := x.2.1) fun t ht => by have := hs.2 t ht; have := textB_len (x := t) (by omega); omega
  simp only [blockB, List.length_append]
  omega
theorem iPutBlock_Y {l : DLimits} {x : DBlock} {b : List Int} (hf : fitBlock x) (hb : b.length < 8000000) : Y (fun k => iPutBlock k l b x) (cond (blockOk l x) (b ++ blockB x, true) ([], false)) := by
  unfold iPutBlock
  refine Y.bind (iBlockOk_Y hf) ?_
  cases ho : blockOk l x with
  | false => exact Y.pure _
  | true =>
    have h := blockOk_iff.1 ho
    have hs := h.small
    have h1 := headB_len h.head
    have h2 := numB_len (len_num (x := x.2.1) (by omega))
    unfold numB at h2
    simp only [Bool.not_true, cond_false, cond_true]
    rw [icopyBytes_eq (by omega)]
    simp only [Option.bind_some]
    refine Y.bind (iwriter_head_Y h.head (by omega)) (Y.bind (iwriter_num_Y (by simp; omega) (len_num (by omega))) ?_)
    refine Y.bind (Y.putG (xs := x.2.1) textB 49 (fun t => t.length ≤ 40) hs.2 (fun t ht => by have := textB_len (x := t) (by omega); omega) (by omega) (by omega) (fun k out i => iPutBlock_l0 k (out, ()) x.2.1 (len x.2.1) i) (fun out => ((out, ()) : Dwriter)) (fun k t out i => _) (fun k out i => rfl) (fun t out i R ht ho hR => ?_) _ (by simp; omega)) ?_
    · exact Y.bind (iPutText_Y (b := out) (by omega) (by omega)) hR
    · unfold blockB numB
      simp only [List.append_assoc]
      exact Y.pure _
theorem sPutBlock_Y {l : DLimits} {x : DBlock} {b : List Int} (hf : fitBlock x) (hb : b.length < 8000000) : Y (fun k => sPutBlock k l b x) (cond (blockOk l x) (b ++ blockB x, true) ([], false)) := by
  unfold sPutBlock
  refine Y.bind (sBlockOk_Y hf) ?_
  cases ho : blockOk l x with
  | false => exact Y.pure _
  | true =>
    have h := blockOk_iff.1 ho
    have hs := h.small
    have h1 := headB_len h.head
    have h2 := numB_len (len_num (x := x.2.1) (by omega))
    unfold numB at h2
    simp only [Bool.not_true, cond_false, cond_true]
    refine Y.bind (sPutHead_Y hf.1 hb) ?_
    unfold putHead
    rw [headOk_iff.2 h.head]
    simp only [cond_true]
    refine Y.bind (sl11Num_Y (by simp; omega) (len_num (by omega))) ?_
    refine Y.bind (Y.putG (xs := x.2.1) textB 49 (fun t => t.length ≤ 40) hs.2 (fun t ht => by have := textB_len (x := t) (by omega); omega) (by omega) (by omega) (fun k out i => sPutBlock_l0 k out x.2.1 (len x.2.1) i) id (fun k t out i => _) (fun k out i => rfl) (fun t out i R ht ho hR => ?_) _ (by simp; omega)) ?_
    · exact Y.bind (sPutText_Y (by omega) (by omega)) hR
    · unfold blockB numB
      simp only [List.append_assoc, id]
      exact Y.pure _
/-! ### Timeout certificates -/
def entB (e : DEntry) : List Int := numB e.1 ++ (numB e.2.1 ++ e.2.2.1)
def tcB (t : DTc) : List Int := numB t.1 ++ (numB (len t.2.1) ++ (t.2.1.map entB).flatten)
structure EntIs (n view : Int) (e : DEntry) : Prop where
  who : 0 ≤ e.1 ∧ e.1 < n
  high : 0 ≤ e.2.1 ∧ e.2.1 < view
  tag : e.2.2.1.length = 32
theorem entOk_iff {n view : Int} {e : DEntry} : entOk (n - 1) (view - 1) e = true ↔ EntIs n view e := by
  simp only [entOk, Bool.and_eq_true, within_iff, hashB_iff]
  constructor
  · rintro ⟨a, b, c⟩; exact ⟨by omega, by omega, c⟩
  · rintro ⟨a, b, c⟩; exact ⟨by omega, by omega, c⟩
theorem entsOk_all {n view : Int} : ∀ {es : List DEntry} {p : Option DEntry}, entsOk n view p es = true → ∀ e ∈ es, entOk n view e = true := by
  intro es
  induction es with
  | nil => intro p _ e he; cases he
  | cons x es ih =>
    intro p h e he
    simp only [entsOk, Bool.and_eq_true] at h
    rcases List.mem_cons.1 he with rfl | he
    · exact h.1.1
    · exact ih h.2 e he
structure TcIs (l : DLimits) (t : DTc) : Prop where
  lim : limitsOk l = true
  view : isNum t.1 = true
  size : (t.2.1.length : Int) ≤ l.1
  ents : entsOk (l.1 - 1) (t.1 - 1) none t.2.1 = true
theorem tcOk_iff {l : DLimits} {t : DTc} : tcOk l t = true ↔ TcIs l t := by
  simp only [tcOk, Bool.and_eq_true, decide_eq_true_eq]
  simp only [len]
  constructor
  · rintro ⟨a, b, c, d⟩; exact ⟨a, b, c, d⟩
  · rintro ⟨a, b, c, d⟩; exact ⟨a, b, c, d⟩
theorem TcIs.each {l : DLimits} {t : DTc} (h : TcIs l t) : t.2.1.length ≤ 10 ∧ ∀ e ∈ t.2.1, EntIs l.1 t.1 e := by
  have := limitsOk_N h.lim
  have := h.size
  exact ⟨by omega, fun e he => entOk_iff.1 (entsOk_all h.ents e he)⟩
theorem EntIs.num {l : DLimits} {v : Int} {e : DEntry} (hl : limitsOk l = true) (hv : isNum v = true) (h : EntIs l.1 v e) : isNum e.1 = true ∧ isNum e.2.1 = true := by
  have := limitsOk_N hl
  have := isNum_iff.1 hv
  have := h.who
  have := h.high
  exact ⟨isNum_iff.2 (by omega), isNum_iff.2 (by omega)⟩
theorem entB_len {l : DLimits} {v : Int} {e : DEntry} (hl : limitsOk l = true) (hv : isNum v = true) (h : EntIs l.1 v e) : (entB e).length ≤ 50 := by
  have hn := h.num hl hv
  have h1 := numB_len hn.1
  have h2 := numB_len hn.2
  have h3 := h.tag
  simp only [entB, List.length_append]
  omega
theorem tcB_len {l : DLimits} {t : DTc} (h : TcIs l t) : (tcB t).length ≤ 1000 := by
  have hs := h.each
  have h1 := numB_len h.view
  have h2 := numB_len (len_num (x := t.2.1) (by omega))
  have h3 := flatten_le (f := entB) (m := 50) (t := t.2.1) fun e he => entB_len h.lim h.view (hs.2 e he)
  simp only [tcB, List.length_append]
  omega
theorem iPutTc_Y {l : DLimits} {t : DTc} {b : List Int} (hf : fitTc t) (hb : b.length < 8000000) : Y (fun k => iPutTc k l b t) (cond (tcOk l t) (b ++ tcB t, true) ([], false)) := by
  unfold iPutTc
  refine Y.bind (iTcOk_Y hf) ?_
  cases ho : tcOk l t with
  | false => exact Y.pure _
  | true =>
    have h := tcOk_iff.1 ho
    have hs := h.each
    have h1 := numB_len h.view
    have h2 := numB_len (len_num (x := t.2.1) (by omega))
    unfold numB at h1 h2
    simp only [Bool.not_true, cond_false, cond_true]
    rw [icopyBytes_eq (by omega)]
    simp only [Option.bind_some]
    refine Y.bind (iwriter_num_Y (by omega) h.view) (Y.bind (iwriter_num_Y (by simp; omega) (len_num (by omega))) ?_)
    refine Y.bind (Y.putG (xs := t.2.1) entB 50 (fun e => EntIs l.1 t.1 e) hs.2 (fun e he => entB_len h.lim h.view he) (by omega) (by omega) (fun k out i => iPutTc_l0 k (out, ()) t.2.1 (len t.2.1) i) (fun out => ((out, ()) : Dwriter)) (fun k e out i => _) (fun k out i => rfl) (fun e out i R he ho hR => ?_) _ (by simp; omega)) ?_
    · have hn := he.num h.lim h.view
      have g1 := numB_len hn.1
      have g2 := numB_len hn.2
      have g3 := he.tag
      unfold entB at hR
      unfold numB at g1 g2 hR
      refine Y.bind (iwriter_num_Y (by omega) hn.1) (Y.bind (iwriter_num_Y (by simp; omega) hn.2) ?_)
      rw [iwriter_raw_eq (by simp; omega)]
      simp only [Option.bind_some, List.append_assoc]
      exact hR
    · unfold tcB numB
      simp only [List.append_assoc]
      exact Y.pure _
theorem sPutTc_Y {l : DLimits} {t : DTc} {b : List Int} (hf : fitTc t) (hb : b.length < 8000000) : Y (fun k => sPutTc k l b t) (cond (tcOk l t) (b ++ tcB t, true) ([], false)) := by
  unfold sPutTc
  refine Y.bind (sTcOk_Y hf) ?_
  cases ho : tcOk l t with
  | false => exact Y.pure _
  | true =>
    have h := tcOk_iff.1 ho
    have hs := h.each
    have h1 := numB_len h.view
    have h2 := numB_len (len_num (x := t.2.1) (by omega))
    unfold numB at h1 h2
    simp only [Bool.not_true, cond_false, cond_true]
    refine Y.bind (sl11Num_Y (by omega) h.view) (Y.bind (sl11Num_Y (by simp; omega) (len_num (by omega))) ?_)
    refine Y.bind (Y.putG (xs := t.2.1) entB 50 (fun e => EntIs l.1 t.1 e) hs.2 (fun e he => entB_len h.lim h.view he) (by omega) (by omega) (fun k out i => sPutTc_l0 k out t.2.1 (len t.2.1) i) id (fun k e out i => _) (fun k out i => rfl) (fun e out i R he ho hR => ?_) _ (by simp; omega)) ?_
    · have hn := he.num h.lim h.view
      have g1 := numB_len hn.1
      have g2 := numB_len hn.2
      have g3 := he.tag
      unfold entB at hR
      unfold numB at g1 g2 hR
      refine Y.bind (sl11Num_Y (by omega) hn.1) (Y.bind (sl11Num_Y (by simp; omega) hn.2) ?_)
      rw [app_ok (by simp; omega)]
      simp only [Option.bind_some, List.append_assoc]
      exact hR
    · unfold tcB numB
      simp only [List.append_assoc, id]
      exact Y.pure _
/-! ### Proofs of commits -/
theorem proofB_len {l : DLimits} {p : DProof} (h : ProofIs l p) : (proofB p).length ≤ 3000 := by
  have hs := h.small
  have h1 := numB_len (len_num (x := p.1) (by omega))
  have h2 := flatten_le (f := headB) (m := 500) (t := p.1) fun x hx => headB_len (h.heads x hx)
  have h3 := qcB_len h.qc
  simp only [proofB, List.length_append]
  omega
theorem iPutProofC_Y {l : DLimits} {p : DProof} {b : List Int} (hf : fitProof p) (hb : b.length < 8000000) : Y (fun k => iPutProof k l b p) (cond (proofOk l p) (b ++ proofB p, true) ([], false)) := by
  cases ho : proofOk l p with
  | true => exact iPutProof_Y hf (proofOk_iff.1 ho) hb
  | false =>
    unfold iPutProof
    refine Y.bind (iProofOk_Y hf) ?_
    rw [ho]
    exact Y.pure _
theorem sPutProof_Y {l : DLimits} {p : DProof} {b : List Int} (hf : fitProof p) (hb : b.length < 7000000) : Y (fun k => sPutProof k l b p) (cond (proofOk l p) (b ++ proofB p, true) ([], false)) := by
  unfold sPutProof
  refine Y.bind (sProofOk_Y hf) ?_
  cases ho : proofOk l p with
  | false => exact Y.pure _
  | true =>
    have h := proofOk_iff.1 ho
    have hs := h.small
    have h1 := numB_len (len_num (x := p.1) (by omega))
    have h2 := flatten_le (f := headB) (m := 500) (t := p.1) fun x hx => headB_len (h.heads x hx)
    unfold numB at h1
    simp only [Bool.not_true, cond_false, cond_true]
    refine Y.bind (sl11Num_Y (by omega) (len_num (by omega))) ?_
    have := Y.loop (σ := List Int) (xs := p.1) (by omega) (fun k s i => sPutProof_l0 k l p s p.1 (len p.1) i) (fun s post => s.length + 500 * post.length < 7900000 ∧ ∀ x ∈ post, HeadIs l x ∧ fitHead x) (fun s post => (l, p, s ++ (post.map headB).flatten)) (fun s _ => ?_) (fun s x post i hi h0 h1' hrd had ih => ?_)
      (b ++ varB (len p.1).toNat) ⟨by simp only [List.length_append]; omega, fun x hx => ⟨h.heads x hx, hf.1.2 x hx⟩⟩
    · refine Y.bind this ?_
      refine Y.bind (sPutQcC_Y hf.2 (by simp only [List.length_append]; omega)) ?_
      rw [qcOk_iff.2 h.qc]
      unfold proofB numB
      simp only [List.append_assoc]
      exact Y.pure _
    · simp only [sPutProof_l0]
      rw [show decide (len p.1 < len p.1) = false by simp]
      simp only [cond_false, List.map_nil, List.flatten_nil, List.append_nil]
      exact Y.pure _
    · simp only [sPutProof_l0]
      have hx := hi.2 x (by simp)
      have hl := headB_len hx.1
      simp only [List.length_cons] at hi
      rw [show decide (i < len p.1) = true by simpa using h1', hrd, had]
      simp only [cond_true, Option.bind_some]
      refine Y.bind (sPutHead_Y hx.2 (by omega)) ?_
      unfold putHead
      rw [headOk_iff.2 hx.1]
      simp only [cond_true]
      have := ih (s ++ headB x) ⟨by simp only [List.length_append]; omega, fun y hy => hi.2 y (by simp [hy])⟩
      rw [List.append_assoc] at this
      exact this
/-! ### Proofs of transactions -/
def inclB (x : DIncl) : List Int := numB x.1 ++ (numB x.2.1 ++ (numB x.2.2.1 ++ (textB x.2.2.2.1 ++ x.2.2.2.2.1.flatten)))
structure InclIs (l : DLimits) (x : DIncl) : Prop where
  lim : limitsOk l = true
  height : isNum x.1 = true
  n : 1 ≤ x.2.1 ∧ x.2.1 ≤ l.2.2.1
  pos : 0 ≤ x.2.2.1 ∧ x.2.2.1 < x.2.1
  tx : (x.2.2.2.1.length : Int) ≤ l.2.1
  path : (x.2.2.2.2.1.length : Int) = pathLen x.2.2.1 x.2.1
  each : ∀ h ∈ x.2.2.2.2.1, h.length = 32
theorem inclOk_iff {l : DLimits} {x : DIncl} : inclOk l x = true ↔ InclIs l x := by
  simp only [inclOk, Bool.and_eq_true, within_iff, decide_eq_true_eq, beq_iff_eq, List.all_eq_true, hashB_iff]
  simp only [len]
  constructor
  · rintro ⟨a, b, c, d, e, f, g⟩
    have := limitsOk_txs a
    rw [su_ok (by omega) (by omega)] at d
    exact ⟨a, b, c, by omega, e, f, g⟩
  · rintro ⟨a, b, c, d, e, f, g⟩
    have := limitsOk_txs a
    rw [su_ok (by omega) (by omega)]
    exact ⟨a, b, c, by omega, e, f, g⟩
theorem InclIs.nums {l : DLimits} {x : DIncl} (h : InclIs l x) : isNum x.2.1 = true ∧ isNum x.2.2.1 = true ∧ x.2.2.2.1.length ≤ 40 ∧ x.2.2.2.2.1.length ≤ 9 := by
  have := limitsOk_txs h.lim
  have h1 := h.n
  have h2 := h.pos
  have h3 := h.tx
  have h4 := h.path
  have h5 := pathLen_le (i := x.2.2.1) (n := x.2.1) (by omega)
  exact ⟨isNum_iff.2 (by omega), isNum_iff.2 (by omega), by omega, by omega⟩
theorem inclB_len {l : DLimits} {x : DIncl} (h : InclIs l x) : (inclB x).length ≤ 1000 := by
  have hn := h.nums
  have h1 := numB_len h.height
  have h2 := numB_len hn.1
  have h3 := numB_len hn.2.1
  have h4 := textB_len (x := x.2.2.2.1) (by omega)
  have h5 := flatten_len32 h.each
  simp only [inclB, List.length_append]
  omega
theorem iPutIncl_Y {l : DLimits} {x : DIncl} {b : List Int} (hf : fitIncl x) (hb : b.length < 8000000) : Y (fun k => iPutIncl k l b x) (cond (inclOk l x) (b ++ inclB x, true) ([], false)) := by
  unfold iPutIncl
  refine Y.bind (iInclOk_Y hf) ?_
  cases ho : inclOk l x with
  | false => exact Y.pure _
  | true =>
    have h := inclOk_iff.1 ho
    have hn := h.nums
    have h1 := numB_len h.height
    have h2 := numB_len hn.1
    have h3 := numB_len hn.2.1
    have h4 := textB_len (x := x.2.2.2.1) (by omega)
    unfold numB at h1 h2 h3
    simp only [Bool.not_true, cond_false, cond_true]
    rw [icopyBytes_eq (by omega)]
    simp only [Option.bind_some]
    refine Y.bind (iwriter_num_Y (by omega) h.height) (Y.bind (iwriter_num_Y (by simp; omega) hn.1) (Y.bind (iwriter_num_Y (by simp; omega) hn.2.1) ?_))
    refine Y.bind (iPutText_Y (by simp; omega) (by omega)) ?_
    have := Y.putG (xs := x.2.2.2.2.1) id 32 (fun t => t.length = 32) h.each (fun t ht => by show t.length ≤ 32; omega) (by omega) (by omega) (fun k out i => iPutIncl_l0 k (out, ()) x.2.2.2.2.1 (len x.2.2.2.2.1) i) (fun out => ((out, ()) : Dwriter)) (fun k t out i => _) (fun k out i => rfl) (fun t out i R ht ho hR => ?_) (b ++ varB x.1.toNat ++ varB x.2.1.toNat ++ varB x.2.2.1.toNat ++ textB x.2.2.2.1) (by simp; omega)
    · refine Y.bind this ?_
      rw [List.map_id]
      unfold inclB numB
      simp only [List.append_assoc]
      exact Y.pure _
    · rw [iwriter_raw_eq (by omega)]
      exact hR
theorem sPutIncl_Y {l : DLimits} {x : DIncl} {b : List Int} (hf : fitIncl x) (hb : b.length < 8000000) : Y (fun k => sPutIncl k l b x) (cond (inclOk l x) (b ++ inclB x, true) ([], false)) := by
  unfold sPutIncl
  refine Y.bind (sInclOk_Y hf) ?_
  cases ho : inclOk l x with
  | false => exact Y.pure _
  | true =>
    have h := inclOk_iff.1 ho
    have hn := h.nums
    have h1 := numB_len h.height
    have h2 := numB_len hn.1
    have h3 := numB_len hn.2.1
    have h4 := textB_len (x := x.2.2.2.1) (by omega)
    unfold numB at h1 h2 h3
    simp only [Bool.not_true, cond_false, cond_true]
    refine Y.bind (sl11Num_Y (by omega) h.height) (Y.bind (sl11Num_Y (by simp; omega) hn.1) (Y.bind (sl11Num_Y (by simp; omega) hn.2.1) ?_))
    refine Y.bind (sPutText_Y (by simp; omega) (by omega)) ?_
    have := Y.putG (xs := x.2.2.2.2.1) id 32 (fun t => t.length = 32) h.each (fun t ht => by show t.length ≤ 32; omega) (by omega) (by omega) (fun k out i => sPutIncl_l0 k out x.2.2.2.2.1 (len x.2.2.2.2.1) i) id (fun k t out i => _) (fun k out i => rfl) (fun t out i R ht ho hR => ?_) (b ++ varB x.1.toNat ++ varB x.2.1.toNat ++ varB x.2.2.1.toNat ++ textB x.2.2.2.1) (by simp; omega)
    · refine Y.bind this ?_
      rw [List.map_id]
      unfold inclB numB
      simp only [List.append_assoc, id]
      exact Y.pure _
    · rw [app_ok (by omega)]
      exact hR
end Go.Ev.G
/- Messages: which are right, and their bytes. -/
namespace Go.Ev.G
open Go.Ev
def v0 : DVote := (0, 0, [], 0, [], ())
def b0 : DBlock := (h0, [], ())
def t0 : DTc := (0, [], ())
def p0 : DProof := ([], q0, ())
def i0 : DIncl := (0, 0, 0, [], [], ())
def m0 : DMsg := (0, v0, q0, h0, b0, t0, p0, i0, ())
def only (m : DMsg) : DMsg :=
  cond (m.1 == 1) (1, m.2.1, q0, h0, b0, t0, p0, i0, ()) <|
  cond (m.1 == 2) (2, v0, m.2.2.1, h0, b0, t0, p0, i0, ()) <|
  cond (m.1 == 3) (3, v0, q0, m.2.2.2.1, b0, t0, p0, i0, ()) <|
  cond (m.1 == 4) (4, v0, q0, h0, m.2.2.2.2.1, t0, p0, i0, ()) <|
  cond (m.1 == 5) (5, v0, q0, h0, b0, m.2.2.2.2.2.1, p0, i0, ()) <|
  cond (m.1 == 6) (6, v0, q0, h0, b0, t0, m.2.2.2.2.2.2.1, i0, ()) <|
  cond (m.1 == 7) (7, v0, q0, h0, b0, t0, p0, m.2.2.2.2.2.2.2.1, ()) m0
theorem iOfVote_eq {v : DVote} (h : fitVote v) : iOfVote v = some (1, v, q0, h0, b0, t0, p0, i0, ()) := by
  unfold iOfVote
  rw [icopyBytes_eq (by have := h.1.1; omega), icopyBytes_eq (by have := h.2.1; omega)]
  rfl
theorem sOfVote_eq {v : DVote} (h : fitVote v) : sOfVote v = some (1, v, q0, h0, b0, t0, p0, i0, ()) := by
  unfold sOfVote
  rw [sl01Copy_eq (by have := h.1.1; omega), sl01Copy_eq (by have := h.2.1; omega)]
  rfl
theorem iOfQc_Y {q : DQc} (h : fitQc q) : Y (fun k => iOfQc k q) (2, v0, q, h0, b0, t0, p0, i0, ()) := by unfold iOfQc; exact Y.bind (iQc_copied_Y h) (Y.pure _)
theorem sOfQc_Y {q : DQc} (h : fitQc q) : Y (fun k => sOfQc k q) (2, v0, q, h0, b0, t0, p0, i0, ()) := by unfold sOfQc; exact Y.bind (sl12Copy_Y h) (Y.pure _)
theorem iOfHead_Y {x : DHead} (h : fitHead x) : Y (fun k => iOfHead k x) (3, v0, q0, x, b0, t0, p0, i0, ()) := by unfold iOfHead; exact Y.bind (iHead_copied_Y h) (Y.pure _)
theorem sOfHead_Y {x : DHead} (h : fitHead x) : Y (fun k => sOfHead k x) (3, v0, q0, x, b0, t0, p0, i0, ()) := by unfold sOfHead; exact Y.bind (sl13Copy_Y h) (Y.pure _)
theorem iOfBlock_Y {x : DBlock} (h : fitBlock x) : Y (fun k => iOfBlock k x) (4, v0, q0, h0, x, t0, p0, i0, ()) := by unfold iOfBlock; exact Y.bind (iBlock_copied_Y h) (Y.pure _)
theorem sOfBlock_Y {x : DBlock} (h : fitBlock x) : Y (fun k => sOfBlock k x) (4, v0, q0, h0, x, t0, p0, i0, ()) := by unfold sOfBlock; exact Y.bind (sl14Copy_Y h) (Y.pure _)
theorem iOfTc_Y {x : DTc} (h : fitTc x) : Y (fun k => iOfTc k x) (5, v0, q0, h0, b0, x, p0, i0, ()) := by unfold iOfTc; exact Y.bind (iTc_copied_Y h) (Y.pure _)
theorem sOfTc_Y {x : DTc} (h : fitTc x) : Y (fun k => sOfTc k x) (5, v0, q0, h0, b0, x, p0, i0, ()) := by unfold sOfTc; exact Y.bind (sl15Copy_Y h) (Y.pure _)
theorem sOfProof_Y {x : DProof} (h : fitProof x) : Y (fun k => sOfProof k x) (6, v0, q0, h0, b0, t0, x, i0, ()) := by unfold sOfProof; exact Y.bind (sl16Copy_Y h) (Y.pure _)
theorem iOfIncl_Y {x : DIncl} (h : fitIncl x) : Y (fun k => iOfIncl k x) (7, v0, q0, h0, b0, t0, p0, x, ()) := by unfold iOfIncl; exact Y.bind (iIncl_copied_Y h) (Y.pure _)
theorem sOfIncl_Y {x : DIncl} (h : fitIncl x) : Y (fun k => sOfIncl k x) (7, v0, q0, h0, b0, t0, p0, x, ()) := by unfold sOfIncl; exact Y.bind (sl16Incl_Y h) (Y.pure _)
theorem iMsg_alone_Y {m : DMsg} (h : FitMsg m) : Y (fun k => iMsg_alone k m) (only m) := by
  unfold iMsg_alone only
  rw [iOfVote_eq h.vote]
  refine Y.ite (fun _ => Y.pure _) fun _ => Y.ite (fun _ => Y.bind (iOfQc_Y h.qc) (Y.pure _)) fun _ => Y.ite (fun _ => Y.bind (iOfHead_Y h.head) (Y.pure _)) fun _ => Y.ite (fun _ => Y.bind (iOfBlock_Y h.block) (Y.pure _)) fun _ => Y.ite (fun _ => Y.bind (iOfTc_Y h.tc) (Y.pure _)) fun _ => Y.ite (fun _ => Y.bind (iOfProof_Y h.proof) (Y.pure _)) fun _ => Y.ite (fun _ => Y.bind (iOfIncl_Y h.incl) (Y.pure _)) fun _ => Y.pure _
theorem sl17Only_Y {m : DMsg} (h : FitMsg m) : Y (fun k => sl17Only k m) (only m) := by
  unfold sl17Only only
  rw [sOfVote_eq h.vote]
  refine Y.ite (fun _ => Y.pure _) fun _ => Y.ite (fun _ => Y.bind (sOfQc_Y h.qc) (Y.pure _)) fun _ => Y.ite (fun _ => Y.bind (sOfHead_Y h.head) (Y.pure _)) fun _ => Y.ite (fun _ => Y.bind (sOfBlock_Y h.block) (Y.pure _)) fun _ => Y.ite (fun _ => Y.bind (sOfTc_Y h.tc) (Y.pure _)) fun _ => Y.ite (fun _ => Y.bind (sOfProof_Y h.proof) (Y.pure _)) fun _ => Y.ite (fun _ => Y.bind (sOfIncl_Y h.incl) (Y.pure _)) fun _ => Y.pure _
def pOk (l : DLimits) (m : DMsg) : Bool :=
  cond (m.1 == 1) (voteOk l m.2.1) <|
  cond (m.1 == 2) (qcOk l m.2.2.1) <|
  cond (m.1 == 3) (headOk l m.2.2.2.1) <|
  cond (m.1 == 4) (blockOk l m.2.2.2.2.1) <|
  cond (m.1 == 5) (tcOk l m.2.2.2.2.2.1) <|
  cond (m.1 == 6) (proofOk l m.2.2.2.2.2.2.1) <|
  cond (m.1 == 7) (inclOk l m.2.2.2.2.2.2.2.1) false
def pB (m : DMsg) : List Int :=
  cond (m.1 == 1) (vB m.2.1) <|
  cond (m.1 == 2) (qcB m.2.2.1) <|
  cond (m.1 == 3) (headB m.2.2.2.1) <|
  cond (m.1 == 4) (blockB m.2.2.2.2.1) <|
  cond (m.1 == 5) (tcB m.2.2.2.2.2.1) <|
  cond (m.1 == 6) (proofB m.2.2.2.2.2.2.1) <|
  cond (m.1 == 7) (inclB m.2.2.2.2.2.2.2.1) []
def put (l : DLimits) (b : List Int) (m : DMsg) : List Int × Bool := cond (pOk l m) (b ++ pB m, true) ([], false)
theorem iMsg_put_Y {l : DLimits} {m : DMsg} {b : List Int} (h : FitMsg m) (hb : b.length < 7000000) : Y (fun k => iMsg_put k m l b) (put l b m) := by
  unfold iMsg_put put pOk pB
  cases m.1 == 1 with
  | true => exact Y.bind (iPutVote_Y (by omega)) (Y.pure _)
  | false =>
  cases m.1 == 2 with
  | true => exact Y.bind (iPutQc_Y h.qc (by omega)) (Y.pure _)
  | false =>
  cases m.1 == 3 with
  | true => exact Y.bind (iPutHead_Y h.head (by omega)) (Y.pure _)
  | false =>
  cases m.1 == 4 with
  | true => exact Y.bind (iPutBlock_Y h.block (by omega)) (Y.pure _)
  | false =>
  cases m.1 == 5 with
  | true => exact Y.bind (iPutTc_Y h.tc (by omega)) (Y.pure _)
  | false =>
  cases m.1 == 6 with
  | true => exact Y.bind (iPutProofC_Y h.proof (by omega)) (Y.pure _)
  | false =>
  cases m.1 == 7 with
  | true => exact Y.bind (iPutIncl_Y h.incl (by omega)) (Y.pure _)
  | false => exact Y.pure _
theorem sl17Put_Y {l : DLimits} {m : DMsg} {b : List Int} (h : FitMsg m) (hk : within m.1 1 7 = true) (hb : b.length < 7000000) : Y (fun k => sl17Put k l b m) (put l b m) := by
  unfold sl17Put put pOk pB
  cases h1 : m.1 == 1 with
  | true => exact Y.bind (sPutVote_Y (by omega)) (Y.pure _)
  | false =>
  cases h2 : m.1 == 2 with
  | true => exact Y.bind (sPutQcC_Y h.qc (by omega)) (Y.pure _)
  | false =>
  cases h3 : m.1 == 3 with
  | true => exact Y.bind (sPutHead_Y h.head (by omega)) (Y.pure _)
  | false =>
  cases h4 : m.1 == 4 with
  | true => exact Y.bind (sPutBlock_Y h.block (by omega)) (Y.pure _)
  | false =>
  cases h5 : m.1 == 5 with
  | true => exact Y.bind (sPutTc_Y h.tc (by omega)) (Y.pure _)
  | false =>
  cases h6 : m.1 == 6 with
  | true => exact Y.bind (sPutProof_Y h.proof (by omega)) (Y.pure _)
  | false =>
  have h7 : (m.1 == 7) = true := by
    rw [within_iff] at hk
    simp only [beq_eq_false_iff_ne] at h1 h2 h3 h4 h5 h6
    rw [beq_iff_eq]
    omega
  rw [h7]
  exact Y.bind (sPutIncl_Y h.incl (by omega)) (Y.pure _)
theorem pOk_kind {l : DLimits} {m : DMsg} (h : pOk l m = true) : within m.1 1 7 = true := by
  rw [within_iff]
  unfold pOk at h
  by_cases h1 : m.1 = 1
  · omega
  by_cases h2 : m.1 = 2
  · omega
  by_cases h3 : m.1 = 3
  · omega
  by_cases h4 : m.1 = 4
  · omega
  by_cases h5 : m.1 = 5
  · omega
  by_cases h6 : m.1 = 6
  · omega
  by_cases h7 : m.1 = 7
  · omega
  simp [h1, h2, h3, h4, h5, h6, h7] at h
noncomputable def msgOk (l : DLimits) (m : DMsg) : Bool := pOk l m && same m (only m)
theorem iMsgOk_Y {l : DLimits} {m : DMsg} (h : FitMsg m) : Y (fun k => iMsgOk k l m) (msgOk l m) := by
  unfold iMsgOk msgOk
  refine Y.bind (iMsg_put_Y h (by simp)) ?_
  rw [show (put l [] m).2 = pOk l m by unfold put; cases pOk l m <;> rfl]
  exact Y.and fun _ => Y.bind (iMsg_alone_Y h) (Y.bind (iMsgSame_Y h) (Y.pure _))
theorem sMsgOk_Y {l : DLimits} {m : DMsg} (h : FitMsg m) : Y (fun k => sMsgOk k l m) (msgOk l m) := by
  have e : msgOk l m = (within m.1 1 7 && (same m (only m) && pOk l m)) := by
    unfold msgOk
    cases hp : pOk l m with
    | false => cases within m.1 1 7 <;> cases same m (only m) <;> rfl
    | true => rw [pOk_kind hp]; cases same m (only m) <;> rfl
  rw [e]
  unfold sMsgOk sl17Kind
  rw [sl01In_eq]
  simp only [Option.bind_some]
  refine Y.andN fun hk => Y.bind (sl17Only_Y h) (Y.bind (sMsgSame_Y h) (Y.andN fun _ => Y.bind (sl17Put_Y h hk (by simp)) ?_))
  unfold put
  cases pOk l m <;> exact Y.pure _
def msgB (m : DMsg) : List Int := m.1 :: pB m
noncomputable def enc (l : DLimits) (m : DMsg) : List Int × Bool := cond (msgOk l m) (msgB m, true) ([], false)
theorem kind_cv {m : DMsg} (h : within m.1 1 7 = true) : cv .u8 m.1 = m.1 := by
  rw [within_iff] at h
  rw [cv_u8]
  omega
theorem iEncode_Y {l : DLimits} {m : DMsg} (h : FitMsg m) : Y (fun k => iEncode k l m) (enc l m) := by
  unfold iEncode enc
  refine Y.bind (iMsgOk_Y h) ?_
  cases ho : msgOk l m with
  | false => exact Y.pure _
  | true =>
    have hp : pOk l m = true := by unfold msgOk at ho; simp only [Bool.and_eq_true] at ho; exact ho.1
    simp only [Bool.not_true, cond_false, cond_true]
    refine Y.bind (iMsg_put_Y h (by simp)) ?_
    unfold put
    rw [hp, kind_cv (pOk_kind hp)]
    exact Y.pure _
theorem sEncode_Y {l : DLimits} {m : DMsg} (h : FitMsg m) : Y (fun k => sEncode k l m) (enc l m) := by
  unfold sEncode enc
  refine Y.bind (sMsgOk_Y h) ?_
  cases ho : msgOk l m with
  | false => exact Y.pure _
  | true =>
    have hp : pOk l m = true := by unfold msgOk at ho; simp only [Bool.and_eq_true] at ho; exact ho.1
    simp only [Bool.not_true, cond_false, cond_true]
    refine Y.bind (sl17Put_Y h (pOk_kind hp) (by simp)) ?_
    unfold put
    rw [hp, kind_cv (pOk_kind hp)]
    exact Y.pure _
theorem iMsgSize_Y {l : DLimits} {m : DMsg} (h : FitMsg m) : Y (fun k => iMsgSize k l m) (len (enc l m).1) := by
  unfold iMsgSize
  exact Y.bind (iEncode_Y h) (Y.pure _)
theorem sMsgSize_Y {l : DLimits} {m : DMsg} (h : FitMsg m) : Y (fun k => sMsgSize k l m) (len (enc l m).1) := by
  unfold sMsgSize
  exact Y.bind (sEncode_Y h) (Y.pure _)
end Go.Ev.G
/- The exact laws' copies, comparisons and measures. -/
namespace Go.Ev.G
open Go.Ev
/-- A loop that fills a list item by item. -/
theorem Y.fillG {α β γ : Type} {xs : List α} (hx : xs.length < 1000000000) (f : α → γ) (z : γ) (Q : α → Prop) (hQ : ∀ x ∈ xs, Q x) (L : Nat → List γ → Int → Option β) (fin : List γ → β) (B : Nat → α → Option γ) (hB : ∀ x, Q x → Y (fun k => B k x) (f x))
    (hL : ∀ k out i, L (k + 1) out i = cond (decide (i < len xs)) ((rd xs i).bind fun x => (B k x).bind fun v => (rd out i).bind fun _ => (st out i v).bind fun w => L k w (ad .i64 i 1)) (some (fin out))) : Y (fun k => L k (List.replicate (len xs).toNat z) 0) (fin (xs.map f)) := by
  have := Y.loopP (σ := List γ) (xs := xs) (by omega) L (fun s pre post => ∃ tl, s = pre.map f ++ tl ∧ tl.length = post.length ∧ ∀ x ∈ post, Q x) (fun s pre post => fin (xs.map f)) (fun s hi => ?_) (fun s pre x post e hi hrd had ih => ?_) (List.replicate (len xs).toNat z) ⟨List.replicate (len xs).toNat z, by simp, by simp [len], hQ⟩
  · exact this
  · obtain ⟨tl, rfl, ht, _⟩ := hi
    have : tl = [] := List.length_eq_zero_iff.1 (by simpa using ht)
    subst this
    simp only [hL, not_lt_len, cond_false, List.append_nil]
    exact Y.pure _
  · obtain ⟨tl, rfl, ht, hq⟩ := hi
    match tl, ht with
    | y :: tl, ht =>
      simp only [hL, lt_len e, hrd, cond_true, Option.bind_some]
      refine Y.bind (hB x (hq x (by simp))) ?_
      have hl : len pre < len (pre.map f ++ y :: tl) := by unfold len; simp; omega
      have hset : (pre.map f ++ y :: tl).set (len pre).toNat (f x) = (pre ++ [x]).map f ++ tl := by
        rw [len_toNat, List.set_append_right _ _ (by simp)]
        simp
      rw [rd_ok (len_nonneg _) hl, st_ok (len_nonneg _) hl, hset, had]
      exact ih _ ⟨tl, rfl, by simpa using ht, fun y hy => hq y (by simp [hy])⟩
theorem wtoByteS_Y {a : List Int} (h : a.length < 1000000000) : Y (fun k => wtoByteS k a) a := by
  unfold wtoByteS
  rw [mk_ok (len_nonneg _) (by unfold len; omega)]
  simp only [Option.bind_some]
  have := Y.fillG (xs := a) h id 0 (fun _ => True) (fun _ _ => trivial) (fun k out i => wtoByteS_l0 k a out i) id (fun _ x => some x) (fun x _ => Y.pure _) (fun k out i => rfl)
  rw [List.map_id] at this
  exact Y.bind this (Y.pure _)
theorem wtoByteSS_Y {a : List (List Int)} (h : fitL a) : Y (fun k => wtoByteSS k a) a := by
  unfold wtoByteSS
  rw [mk_ok (len_nonneg _) (by have := h.1; unfold len; omega)]
  simp only [Option.bind_some]
  have := Y.fillG (xs := a) h.1 id [] (fun x => x.length < 1000000000) h.2 (fun k out i => wtoByteSS_l0 k a out i) id (fun k x => wtoByteS k x) (fun x hx => wtoByteS_Y hx) (fun k out i => rfl)
  rw [List.map_id] at this
  exact Y.bind this (Y.pure _)
theorem wtoVote_Y {v : DVote} (h : fitVote v) : Y (fun k => wtoVote k v) v := by
  unfold wtoVote
  exact Y.bind (wtoByteS_Y h.1.1) (Y.bind (wtoByteS_Y h.2.1) (Y.pure _))
theorem wtoQc_Y {q : DQc} (h : fitQc q) : Y (fun k => wtoQc k q) q := by
  unfold wtoQc
  exact Y.bind (wtoByteS_Y h.1) (Y.bind (wtoByteS_Y h.2.1) (Y.bind (wtoByteSS_Y h.tagsL) (Y.pure _)))
theorem wtoHead_Y {x : DHead} (h : fitHead x) : Y (fun k => wtoHead k x) x := by
  unfold wtoHead
  exact Y.bind (wtoByteS_Y h.1) (Y.bind (wtoByteS_Y h.2.1) (Y.bind (wtoQc_Y h.2.2.2.2) (Y.pure _)))
theorem wtoHeadS_Y {a : List DHead} (h : fitHeads a) : Y (fun k => wtoHeadS k a) a := by
  unfold wtoHeadS
  rw [mk_ok (len_nonneg _) (by have := h.1; unfold len; omega)]
  simp only [Option.bind_some]
  have := Y.fillG (xs := a) h.1 id (0, 0, 0, [], [], (0, 0, [], [], [], ()), ()) fitHead h.2 (fun k out i => wtoHeadS_l0 k a out i) id (fun k x => wtoHead k x) (fun x hx => wtoHead_Y hx) (fun k out i => rfl)
  rw [List.map_id] at this
  exact Y.bind this (Y.pure _)
theorem wtoBlock_Y {x : DBlock} (h : fitBlock x) : Y (fun k => wtoBlock k x) x := by
  unfold wtoBlock
  exact Y.bind (wtoHead_Y h.1) (Y.bind (wtoByteSS_Y h.2.fit) (Y.pure _))
theorem wtoTc_Y {t : DTc} (h : fitTc t) : Y (fun k => wtoTc k t) t := by
  unfold wtoTc wtoEntryS
  rw [mk_ok (len_nonneg _) (by have := h.1; unfold len; omega)]
  simp only [Option.bind_some]
  have := Y.fillG (xs := t.2.1) h.1 id (0, 0, [], ()) (fun e => e.2.2.1.length < 1000000000 ∧ Bytes e.2.2.1) h.2 (fun k out i => wtoEntryS_l0 k t.2.1 out i) id (fun k x => wtoEntry k x) (fun x hx => by unfold wtoEntry; exact Y.bind (wtoByteS_Y hx.1) (Y.pure _)) (fun k out i => rfl)
  rw [List.map_id] at this
  exact Y.bind (a := t.2.1) (Y.bind this (Y.pure _)) (Y.pure _)
theorem wtoProof_Y {p : DProof} (h : fitProof p) : Y (fun k => wtoProof k p) p := by
  unfold wtoProof
  exact Y.bind (wtoHeadS_Y h.1) (Y.bind (wtoQc_Y h.2) (Y.pure _))
theorem wtoIncl_Y {x : DIncl} (h : fitIncl x) : Y (fun k => wtoIncl k x) x := by
  unfold wtoIncl
  exact Y.bind (wtoByteS_Y h.1.1) (Y.bind (wtoByteSS_Y h.2.fit) (Y.pure _))
theorem wtoMsg_Y {m : DMsg} (h : FitMsg m) : Y (fun k => wtoMsg k m) m := by
  unfold wtoMsg
  exact Y.bind (wtoVote_Y h.vote) (Y.bind (wtoQc_Y h.qc) (Y.bind (wtoHead_Y h.head) (Y.bind (wtoBlock_Y h.block) (Y.bind (wtoTc_Y h.tc) (Y.bind (wtoProof_Y h.proof) (Y.bind (wtoIncl_Y h.incl) (Y.pure _)))))))
/-! ### Comparisons -/
theorem bne_self (a : Int) : (a != a) = false := by simp
theorem weqByteS_self {a : List Int} (h : a.length < 1000000000) : Y (fun k => weqByteS k a a) true := by
  unfold weqByteS
  rw [bne_self]
  simp only [cond_false]
  have := Y.all (xs := a) (by omega) (fun _ => true) (Sum.inl ()) (Sum.inr false) (fun _ => True) (fun _ _ => trivial) (fun k i => weqByteS_l0 k a a i) (fun _ x => some true) (fun x _ => Y.pure _) (fun k i => by
    simp only [weqByteS_l0]
    cases rd a i with
    | none => rfl
    | some x => simp only [Option.bind_some, bne_self, cond_false, Bool.not_true])
  rw [show (a.all fun _ => true) = true by simp] at this
  exact Y.bind this (Y.pure _)
theorem weqByteSS_self {a : List (List Int)} (h : fitL a) : Y (fun k => weqByteSS k a a) true := by
  unfold weqByteSS
  rw [bne_self]
  simp only [cond_false]
  have := Y.all (xs := a) (by have := h.1; omega) (fun _ => true) (Sum.inl ()) (Sum.inr false) (fun x => x.length < 1000000000) h.2 (fun k i => weqByteSS_l0 k a a i) (fun k x => weqByteS k x x) (fun x hx => weqByteS_self hx) (fun k i => by
    simp only [weqByteSS_l0]
    cases rd a i <;> rfl)
  rw [show (a.all fun _ => true) = true by simp] at this
  exact Y.bind this (Y.pure _)
theorem weqVote_self {v : DVote} (h : fitVote v) : Y (fun k => weqVote k v v) true := by
  unfold weqVote
  simp only [bne_self, cond_false]
  exact Y.bind (weqByteS_self h.1.1) (Y.bind (weqByteS_self h.2.1) (Y.pure _))
theorem weqQc_self {q : DQc} (h : fitQc q) : Y (fun k => weqQc k q q) true := by
  unfold weqQc
  simp only [bne_self, cond_false]
  exact Y.bind (weqByteS_self h.1) (Y.bind (weqByteS_self h.2.1) (Y.bind (weqByteSS_self h.tagsL) (Y.pure _)))
theorem weqHead_self {x : DHead} (h : fitHead x) : Y (fun k => weqHead k x x) true := by
  unfold weqHead
  simp only [bne_self, cond_false]
  exact Y.bind (weqByteS_self h.1) (Y.bind (weqByteS_self h.2.1) (Y.bind (weqQc_self h.2.2.2.2) (Y.pure _)))
theorem weqHeadS_self {a : List DHead} (h : fitHeads a) : Y (fun k => weqHeadS k a a) true := by
  unfold weqHeadS
  rw [bne_self]
  simp only [cond_false]
  have := Y.all (xs := a) (by have := h.1; omega) (fun _ => true) (Sum.inl ()) (Sum.inr false) fitHead h.2 (fun k i => weqHeadS_l0 k a a i) (fun k x => weqHead k x x) (fun x hx => weqHead_self hx) (fun k i => by
    simp only [weqHeadS_l0]
    cases rd a i <;> rfl)
  rw [show (a.all fun _ => true) = true by simp] at this
  exact Y.bind this (Y.pure _)
theorem weqBlock_self {x : DBlock} (h : fitBlock x) : Y (fun k => weqBlock k x x) true := by
  unfold weqBlock
  exact Y.bind (weqHead_self h.1) (Y.bind (weqByteSS_self h.2.fit) (Y.pure _))
theorem weqTc_self {t : DTc} (h : fitTc t) : Y (fun k => weqTc k t t) true := by
  unfold weqTc
  simp only [bne_self, cond_false]
  refine Y.bind (a := true) ?_ (Y.pure _)
  unfold weqEntryS
  rw [bne_self]
  simp only [cond_false]
  have := Y.all (xs := t.2.1) (by have := h.1; omega) (fun _ => true) (Sum.inl ()) (Sum.inr false) (fun e => e.2.2.1.length < 1000000000 ∧ Bytes e.2.2.1) h.2 (fun k i => weqEntryS_l0 k t.2.1 t.2.1 i) (fun k x => weqEntry k x x) (fun x hx => by
      unfold weqEntry
      simp only [bne_self, cond_false]
      exact Y.bind (weqByteS_self hx.1) (Y.pure _)) (fun k i => by
    simp only [weqEntryS_l0]
    cases rd t.2.1 i <;> rfl)
  rw [show (t.2.1.all fun _ => true) = true by simp] at this
  exact Y.bind this (Y.pure _)
theorem weqProof_self {p : DProof} (h : fitProof p) : Y (fun k => weqProof k p p) true := by
  unfold weqProof
  exact Y.bind (weqHeadS_self h.1) (Y.bind (weqQc_self h.2) (Y.pure _))
theorem weqIncl_self {x : DIncl} (h : fitIncl x) : Y (fun k => weqIncl k x x) true := by
  unfold weqIncl
  simp only [bne_self, cond_false]
  exact Y.bind (weqByteS_self h.1.1) (Y.bind (weqByteSS_self h.2.fit) (Y.pure _))
theorem weqMsg_self {m : DMsg} (h : FitMsg m) : Y (fun k => weqMsg k m m) true := by
  unfold weqMsg
  simp only [bne_self, cond_false]
  exact Y.bind (weqVote_self h.vote) (Y.bind (weqQc_self h.qc) (Y.bind (weqHead_self h.head) (Y.bind (weqBlock_self h.block) (Y.bind (weqTc_self h.tc) (Y.bind (weqProof_self h.proof) (Y.bind (weqIncl_self h.incl) (Y.pure _)))))))
/-! ### Measures: what isn't refused is small -/
theorem inR_i64 {x : Int} (h : InR i64 x) : -9223372036854775808 ≤ x ∧ x ≤ 9223372036854775807 := by
  have : inK .i64 x = true := h
  have e1 : loK .i64 = -9223372036854775808 := rfl
  have e2 : hiK .i64 = 9223372036854775807 := rfl
  simp [inK] at this
  omega
theorem inR_bs {b : List Int} (h : InR bs b) : b.length ≤ 9223372036854775807 ∧ Bytes b := by
  refine ⟨h.1, fun x hx => ?_⟩
  have : inK .u8 x = true := h.2 x hx
  have e1 : loK .u8 = 0 := rfl
  have e2 : hiK .u8 = 255 := rfl
  simp [inK] at this
  omega
/-- What a measure comes to: it falls, and where it isn't below zero the thing measured is small. -/
def Sz (f : Nat → Option Int) (left : Int) (P : Prop) : Prop := ∃ r, Y f r ∧ r ≤ left ∧ -1 ≤ r ∧ (0 ≤ r → P)
def Lo (left : Int) : Prop := 0 ≤ left ∧ left ≤ 1048576
theorem Sz.bind {f : Nat → Option Int} {g : Nat → Int → Option Int} {left : Int} {P R : Prop} (h1 : Sz f left P) (hl : Lo left) (h2 : ∀ r, P → Lo r → Sz (fun k => g k r) r R) : Sz (fun k => (f k).bind fun v => cond (decide (v < 0)) (some (-1)) (g k v)) left (P ∧ R) := by
  obtain ⟨r, y, hr, hm, hp⟩ := h1
  unfold Lo at hl
  by_cases h0 : r < 0
  · refine ⟨-1, Y.bind y ?_, by omega, by omega, fun h => by omega⟩
    rw [decide_eq_true h0]
    exact Y.pure _
  · obtain ⟨r', y', hr', hm', hp'⟩ := h2 r (hp (by omega)) ⟨by omega, by omega⟩
    refine ⟨r', Y.bind y ?_, by omega, hm', fun h => ⟨hp (by omega), hp' h⟩⟩
    rw [decide_eq_false h0]
    exact y'
theorem Sz.done {left : Int} (h : Lo left) : Sz (fun _ => some left) left True := ⟨left, Y.pure _, by omega, by unfold Lo at h; omega, fun _ => trivial⟩
theorem Sz.imp {f : Nat → Option Int} {left : Int} {P R : Prop} (h : Sz f left P) (hi : P → R) : Sz f left R := by
  obtain ⟨r, y, hr, hm, hp⟩ := h
  exact ⟨r, y, hr, hm, fun h => hi (hp h)⟩
theorem wszByteS_Sz {b : List Int} (h : InR bs b) {left : Int} (hl : Lo left) : Sz (fun _ => wszByteS b left) left (b.length < 1000000000 ∧ Bytes b) := by
  have hb := inR_bs h
  unfold Lo at hl
  unfold wszByteS
  rw [su_ok (by unfold len; omega) (by unfold len; omega)]
  by_cases h0 : left - len b < 0
  · refine ⟨-1, ?_, by omega, by omega, fun h => by omega⟩
    rw [decide_eq_true h0]
    exact Y.pure _
  · refine ⟨left - len b, ?_, by have := len_nonneg b; omega, by omega, fun h => ⟨by unfold len at h; omega, hb.2⟩⟩
    rw [decide_eq_false h0]
    exact Y.pure _
/-- A loop that measures item by item. -/
theorem Sz.loop {α : Type} {xs : List α} (hx : xs.length < 1000000000) (P : α → Prop) (I : α → Prop) (hI : ∀ x ∈ xs, I x) (L : Nat → Int → Int → Option (Int ⊕ Int)) (B : Nat → α → Int → Option Int) (hB : ∀ x left, I x → Lo left → Sz (fun k => B k x left) left (P x))
    (hL : ∀ k left i, L (k + 1) left i = cond (decide (i < len xs)) ((rd xs i).bind fun x => (B k x left).bind fun v => cond (decide (v < 0)) (some (Sum.inr (-1))) (L k v (ad .i64 i 1))) (some (Sum.inl left))) {left : Int} (hl : Lo left) :
    Sz (fun k => (L k left 0).bind fun v => sumE v (fun v => some v) fun v => some v) left (∀ x ∈ xs, P x) := by
  have key : ∀ post pre, xs = pre ++ post → (∀ x ∈ post, I x) → ∀ left, Lo left → Sz (fun k => (L k left (len pre)).bind fun v => sumE v (fun v => some v) fun v => some v) left (∀ x ∈ post, P x) := by
    intro post
    induction post with
    | nil =>
      intro pre e _ left hl
      refine ⟨left, Y.step ?_, by omega, by unfold Lo at hl; omega, fun _ x hx => by cases hx⟩
      have : pre = xs := by rw [e]; simp
      subst this
      simp only [hL, not_lt_len]
      exact Y.pure _
    | cons x post ih =>
      intro pre e hi left hl
      have hlp : pre.length < xs.length := by rw [e]; simp
      have hrd : rd xs (len pre) = some x := rd_some (len_nonneg pre) (by rw [len_toNat, e]; simp)
      have had : ad .i64 (len pre) 1 = len (pre ++ [x]) := by rw [len_append]; exact ad_ok (by unfold len; omega) (by unfold len; omega)
      obtain ⟨r, y, hr, hm, hp⟩ := hB x left (hi x (by simp)) hl
      unfold Lo at hl
      by_cases h0 : r < 0
      · refine ⟨-1, Y.step ?_, by omega, by omega, fun h => by omega⟩
        simp only [hL, lt_len e, hrd, cond_true, Option.bind_some, Option.bind_assoc]
        refine Y.bind y ?_
        rw [decide_eq_true h0]
        exact Y.pure _
      · obtain ⟨r', y', hr', hm', hp'⟩ := ih (pre ++ [x]) (by rw [e]; simp) (fun z hz => hi z (by simp [hz])) r ⟨by omega, by omega⟩
        refine ⟨r', Y.step ?_, by omega, hm', fun h z hz => ?_⟩
        · simp only [hL, lt_len e, hrd, cond_true, Option.bind_some, Option.bind_assoc]
          refine Y.bind y ?_
          rw [decide_eq_false h0, had]
          exact y'
        · rcases List.mem_cons.1 hz with rfl | hz
          · exact hp (by omega)
          · exact hp' h z hz
  exact key xs [] rfl hI left hl
theorem Sz.list {α : Type} {xs : List α} (hx : xs.length ≤ 9223372036854775807) (P : α → Prop) (I : α → Prop) (hI : ∀ x ∈ xs, I x) (L : Nat → Int → Int → Option (Int ⊕ Int)) (B : Nat → α → Int → Option Int) (hB : ∀ x left, I x → Lo left → Sz (fun k => B k x left) left (P x))
    (hL : ∀ k left i, L (k + 1) left i = cond (decide (i < len xs)) ((rd xs i).bind fun x => (B k x left).bind fun v => cond (decide (v < 0)) (some (Sum.inr (-1))) (L k v (ad .i64 i 1))) (some (Sum.inl left))) {left : Int} (hl : Lo left) :
    Sz (fun k => cond (decide (su .i64 left (len xs) < 0)) (some (-1)) ((L k (su .i64 left (len xs)) 0).bind fun v => sumE v (fun v => some v) fun v => some v)) left (xs.length < 1000000000 ∧ ∀ x ∈ xs, P x) := by
  have hl' := hl
  unfold Lo at hl'
  rw [su_ok (by unfold len; omega) (by unfold len; omega)]
  by_cases h0 : left - len xs < 0
  · refine ⟨-1, ?_, by omega, by omega, fun h => by omega⟩
    rw [decide_eq_true h0]
    exact Y.pure _
  · have h1 : xs.length < 1000000000 := by unfold len at h0; omega
    obtain ⟨r, y, hr, hm, hp⟩ := Sz.loop h1 P I hI L B hB hL (left := left - len xs) ⟨by omega, by have := len_nonneg xs; omega⟩
    refine ⟨r, ?_, by have := len_nonneg xs; omega, hm, fun h => ⟨h1, hp h⟩⟩
    rw [decide_eq_false h0]
    exact y
theorem wszByteSS_Sz {a : List (List Int)} (h : InR (.slice bs) a) {left : Int} (hl : Lo left) : Sz (fun k => wszByteSS k a left) left (okL a) :=
  Sz.list h.1 (fun x => x.length < 1000000000 ∧ Bytes x) (InR bs) h.2 (fun k left i => wszByteSS_l0 k a left i) (fun _ x left => wszByteS x left) (fun x left hx hl => wszByteS_Sz hx hl) (fun k left i => rfl) hl
theorem wszQc_Sz {q : DQc} (h : InR tQc q) {left : Int} (hl : Lo left) : Sz (fun k => wszQc k q left) left (fitQc q) := by
  obtain ⟨h1, h2, h3, h4, h5, _⟩ := h
  unfold wszQc
  refine (Sz.bind (wszByteS_Sz h3 hl) hl fun r _ hr => Sz.bind (wszByteS_Sz h4 hr) hr fun r _ hr => Sz.bind (wszByteSS_Sz h5 hr) hr fun r _ hr => Sz.done hr).imp ?_
  rintro ⟨a, b, c, _⟩
  exact ⟨a.1, b.1, c.1, c.2, a.2, b.2⟩
theorem wszHead_Sz {x : DHead} (h : InR tHead x) {left : Int} (hl : Lo left) : Sz (fun k => wszHead k x left) left (fitHead x) := by
  obtain ⟨h1, h2, h3, h4, h5, h6, _⟩ := h
  unfold wszHead
  refine (Sz.bind (wszByteS_Sz h4 hl) hl fun r _ hr => Sz.bind (wszByteS_Sz h5 hr) hr fun r _ hr => Sz.bind (wszQc_Sz h6 hr) hr fun r _ hr => Sz.done hr).imp ?_
  rintro ⟨a, b, c, _⟩
  exact ⟨a.1, b.1, a.2, b.2, c⟩
theorem wszHeadS_Sz {a : List DHead} (h : InR (.slice tHead) a) {left : Int} (hl : Lo left) : Sz (fun k => wszHeadS k a left) left (fitHeads a) :=
  Sz.list h.1 fitHead (InR tHead) h.2 (fun k left i => wszHeadS_l0 k a left i) (fun k x left => wszHead k x left) (fun x left hx hl => wszHead_Sz hx hl) (fun k left i => rfl) hl
theorem wszVote_Sz {v : DVote} (h : InR tVote v) {left : Int} (hl : Lo left) : Sz (fun _ => wszVote v left) left (fitVote v) := by
  obtain ⟨h1, h2, h3, h4, h5, _⟩ := h
  unfold wszVote
  refine (Sz.bind (wszByteS_Sz h3 hl) hl fun r _ hr => Sz.bind (wszByteS_Sz h5 hr) hr fun r _ hr => Sz.done hr).imp ?_
  rintro ⟨a, b, _⟩
  exact ⟨a, b⟩
theorem wszBlock_Sz {x : DBlock} (h : InR tBlock x) {left : Int} (hl : Lo left) : Sz (fun k => wszBlock k x left) left (fitBlock x) := by
  obtain ⟨h1, h2, _⟩ := h
  unfold wszBlock
  refine (Sz.bind (wszHead_Sz h1 hl) hl fun r _ hr => Sz.bind (wszByteSS_Sz h2 hr) hr fun r _ hr => Sz.done hr).imp ?_
  rintro ⟨a, b, _⟩
  exact ⟨a, b⟩
theorem wszTc_Sz {t : DTc} (h : InR tTc t) {left : Int} (hl : Lo left) : Sz (fun k => wszTc k t left) left (fitTc t) := by
  obtain ⟨h1, h2, _⟩ := h
  unfold wszTc
  have he : Sz (fun k => wszEntryS k t.2.1 left) left (fitTc t) :=
    Sz.list h2.1 (fun e => e.2.2.1.length < 1000000000 ∧ Bytes e.2.2.1) (InR tEntry) h2.2 (fun k left i => wszEntryS_l0 k t.2.1 left i) (fun _ x left => wszEntry x left) (fun x left hx hl => by
      unfold wszEntry
      refine (Sz.bind (wszByteS_Sz hx.2.2.1 hl) hl fun r _ hr => Sz.done hr).imp fun h => h.1) (fun k left i => rfl) hl
  exact (Sz.bind he hl fun r _ hr => Sz.done hr).imp fun h => h.1
theorem wszProof_Sz {p : DProof} (h : InR tProof p) {left : Int} (hl : Lo left) : Sz (fun k => wszProof k p left) left (fitProof p) := by
  obtain ⟨h1, h2, _⟩ := h
  unfold wszProof
  refine (Sz.bind (wszHeadS_Sz h1 hl) hl fun r _ hr => Sz.bind (wszQc_Sz h2 hr) hr fun r _ hr => Sz.done hr).imp ?_
  rintro ⟨a, b, _⟩
  exact ⟨a, b⟩
theorem wszIncl_Sz {x : DIncl} (h : InR tIncl x) {left : Int} (hl : Lo left) : Sz (fun k => wszIncl k x left) left (fitIncl x) := by
  obtain ⟨h1, h2, h3, h4, h5, _⟩ := h
  unfold wszIncl
  refine (Sz.bind (wszByteS_Sz h4 hl) hl fun r _ hr => Sz.bind (wszByteSS_Sz h5 hr) hr fun r _ hr => Sz.done hr).imp ?_
  rintro ⟨a, b, _⟩
  exact ⟨a, b⟩
theorem wszMsg_Sz {m : DMsg} (h : InR tMsg m) {left : Int} (hl : Lo left) : Sz (fun k => wszMsg k m left) left (FitMsg m) := by
  obtain ⟨h1, h2, h3, h4, h5, h6, h7, h8, _⟩ := h
  unfold wszMsg
  refine (Sz.bind (wszVote_Sz h2 hl) hl fun r _ hr => Sz.bind (wszQc_Sz h3 hr) hr fun r _ hr => Sz.bind (wszHead_Sz h4 hr) hr fun r _ hr => Sz.bind (wszBlock_Sz h5 hr) hr fun r _ hr => Sz.bind (wszTc_Sz h6 hr) hr fun r _ hr => Sz.bind (wszProof_Sz h7 hr) hr fun r _ hr => Sz.bind (wszIncl_Sz h8 hr) hr fun r _ hr => Sz.done hr).imp ?_
  rintro ⟨a, b, c, d, e, f, g, _⟩
  exact ⟨a, b, c, d, e, f, g⟩
/-! ### Two exact laws -/
theorem eqd_bool (b : Bool) : eqd .bool b b = true := by simp [eqd]
theorem fnExactMsgOk_Y (l : DLimits) {m : DMsg} (h : InR tMsg m) : Y (fun k => wFnExactMsgOk k l m) true := by
  unfold wFnExactMsgOk
  obtain ⟨r, y, _, _, hp⟩ := wszMsg_Sz h (left := 1048576) ⟨by omega, by omega⟩
  refine Y.bind y ?_
  by_cases h0 : r < 0
  · rw [decide_eq_true h0]
    exact Y.pure _
  · have hf := hp (by omega)
    rw [decide_eq_false h0]
    simp only [show wtoLimits l = some l from rfl, Option.bind_some, cond_false]
    refine Y.bind (wtoMsg_Y hf) (Y.bind (sMsgOk_Y hf) (Y.bind (wtoMsg_Y hf) (Y.bind (iMsgOk_Y hf) ?_)))
    rw [eqd_bool]
    exact Y.bind (wtoMsg_Y hf) (Y.bind (weqMsg_self hf) (Y.pure _))
theorem fnExactMsgSize_Y (l : DLimits) {m : DMsg} (h : InR tMsg m) : Y (fun k => wFnExactMsgSize k l m) true := by
  unfold wFnExactMsgSize
  obtain ⟨r, y, _, _, hp⟩ := wszMsg_Sz h (left := 1048576) ⟨by omega, by omega⟩
  refine Y.bind y ?_
  by_cases h0 : r < 0
  · rw [decide_eq_true h0]
    exact Y.pure _
  · have hf := hp (by omega)
    rw [decide_eq_false h0]
    simp only [show wtoLimits l = some l from rfl, Option.bind_some, cond_false]
    refine Y.bind (wtoMsg_Y hf) (Y.bind (sMsgSize_Y hf) (Y.bind (wtoMsg_Y hf) (Y.bind (iMsgSize_Y hf) ?_)))
    rw [bne_self]
    exact Y.bind (wtoMsg_Y hf) (Y.bind (weqMsg_self hf) (Y.pure _))
end Go.Ev.G
