/- Plain laws of the plain functions. No condition. -/
import Derived.Test.YtmbpdaffnabjcaaGreatQA
set_option linter.unusedVariables false
set_option linter.unusedSimpArgs false
set_option linter.unusedSectionVars false
/- The bytes of votes, blocks, timeout certificates, proofs. -/
namespace Go.Ev.G
open Go.Ev
def textB (x : List Int) : List Int := numB (len x) ++ x
theorem len_num {α : Type} {x : List α} (h : x.length < 1000000000) : isNum (len x) = true := isNum_iff.2 ⟨len_nonneg x, by unfold len; omega⟩
theorem textB_len {x : List Int} (h : x.length < 1000000000) : (textB x).length ≤ 9 + x.length := by
  have := numB_len (len_num h)
  simp only [textB, List.length_append]
  omega
theorem iPutText_Y {b x : List Int} (hb : b.length < 50000000) (hx : x.length < 1000000000) : Y (fun k => iPutText k b x) (b ++ textB x) := by
  have h9 := numB_len (len_num hx)
  unfold iPutText
  refine Y.bind (iPutVar_Y (by omega)) ?_
  rw [if_pos (len_num hx)]
  simp only [optE]
  unfold numB at h9
  rw [app_ok (by simp only [List.length_append]; omega)]
  unfold textB numB
  rw [← List.append_assoc]
  exact Y.pure _
theorem sPutText_Y {b x : List Int} (hb : b.length < 50000000) (hx : x.length < 1000000000) : Y (fun k => sPutText k b x) (b ++ textB x) := by
  have h9 := numB_len (len_num hx)
  unfold sPutText
  refine Y.bind (sPutVar_Y (by omega)) ?_
  rw [if_pos (len_num hx)]
  unfold numB at h9
  simp only
  rw [app_ok (by simp only [List.length_append]; omega)]
  unfold textB numB
  rw [← List.append_assoc]
  exact Y.pure _
/-! ### Votes -/
def vB (v : DVote) : List Int := numB v.1 ++ (numB v.2.1 ++ (v.2.2.1 ++ (numB v.2.2.2.1 ++ v.2.2.2.2.1)))
structure VoteIs (l : DLimits) (v : DVote) : Prop where
  lim : limitsOk l = true
  view : isNum v.1 = true
  height : isNum v.2.1 = true
  block : v.2.2.1.length = 32
  tag : v.2.2.2.2.1.length = 32
  who : 0 ≤ v.2.2.2.1 ∧ v.2.2.2.1 < l.1
theorem voteOk_iff {l : DLimits} {v : DVote} : voteOk l v = true ↔ VoteIs l v := by
  simp only [voteOk, Bool.and_eq_true, List.all_cons, List.all_nil, Bool.and_true, hashB_iff, within_iff]
  constructor
  · rintro ⟨a, b, c, ⟨d, e⟩, f⟩
    have := limitsOk_N a
    rw [su_ok (by omega) (by omega)] at f
    exact ⟨a, b, c, d, e, by omega⟩
  · rintro ⟨a, b, c, d, e, f⟩
    have := limitsOk_N a
    rw [su_ok (by omega) (by omega)]
    exact ⟨a, b, c, ⟨d, e⟩, by omega⟩
theorem VoteIs.whoNum {l : DLimits} {v : DVote} (h : VoteIs l v) : isNum v.2.2.2.1 = true := by
  have := limitsOk_N h.lim
  have := h.who
  rw [isNum_iff]
  omega
theorem vB_len {l : DLimits} {v : DVote} (h : VoteIs l v) : (vB v).length ≤ 100 := by
  have h1 := numB_len h.view
  have h2 := numB_len h.height
  have h3 := numB_len h.whoNum
  have h4 := h.block
  have h5 := h.tag
  simp only [vB, List.length_append]
  omega
theorem iPutVote_Y {l : DLimits} {v : DVote} {b : List Int} (hb : b.length < 8000000) : Y (fun k => iPutVote k l b v) (cond (voteOk l v) (b ++ vB v, true) ([], false)) := by
  unfold iPutVote
  refine Y.bind iVoteOk_Y ?_
  cases ho : voteOk l v with
  | false => exact Y.pure _
  | true =>
    have h := voteOk_iff.1 ho
    have h1 := numB_len h.view
    have h2 := numB_len h.height
    have h3 := numB_len h.whoNum
    have h4 := h.block
    have h5 := h.tag
    unfold numB at h1 h2 h3
    simp only [Bool.not_true, cond_false, cond_true]
    rw [icopyBytes_eq (by omega)]
    simp only [Option.bind_some]
    refine Y.bind (iwriter_num_Y (by omega) h.view) (Y.bind (iwriter_num_Y (by simp; omega) h.height) ?_)
    rw [iwriter_raw_eq (by simp; omega)]
    simp only [Option.bind_some]
    refine Y.bind (iwriter_num_Y (by simp; omega) h.whoNum) ?_
    rw [iwriter_raw_eq (by simp; omega)]
    unfold vB numB
    simp only [List.append_assoc]
    exact Y.pure _
theorem sPutVote_Y {l : DLimits} {v : DVote} {b : List Int} (hb : b.length < 8000000) : Y (fun k => sPutVote k l b v) (cond (voteOk l v) (b ++ vB v, true) ([], false)) := by
  unfold sPutVote
  rw [sVoteOk_eq]
  simp only [Option.bind_some]
  cases ho : voteOk l v with
  | false => exact Y.pure _
  | true =>
    have h := voteOk_iff.1 ho
    have h1 := numB_len h.view
    have h2 := numB_len h.height
    have h3 := numB_len h.whoNum
    have h4 := h.block
    have h5 := h.tag
    unfold numB at h1 h2 h3
    simp only [Bool.not_true, cond_false, cond_true]
    refine Y.bind (sl11Num_Y (by omega) h.view) (Y.bind (sl11Num_Y (by simp; omega) h.height) ?_)
    rw [app_ok (by simp; omega)]
    simp only [Option.bind_some]
    refine Y.bind (sl11Num_Y (by simp; omega) h.whoNum) ?_
    rw [app_ok (by simp; omega)]
    unfold vB numB
    simp only [List.append_assoc]
    exact Y.pure _
/-! ### Certificates -/
theorem iPutQc_Y {l : DLimits} {q : DQc} {b : List Int} (hf : fitQc q) (hb : b.length < 8000000) : Y (fun k => iPutQc k l b q) (cond (qcOk l q) (b ++ qcB q, true) ([], false)) := by
  unfold iPutQc
  refine Y.bind (iQcOk_Y hf) ?_
  cases ho : qcOk l q with
  | false => exact Y.pure _
  | true =>
    simp only [Bool.not_true, cond_false, cond_true]
    rw [icopyBytes_eq (by omega)]
    simp only [Option.bind_some]
    exact Y.bind (iwriter_qc_Y (qcOk_iff.1 ho) (by omega)) (Y.pure _)
theorem sPutQcC_Y {l : DLimits} {q : DQc} {b : List Int} (hf : fitQc q) (hb : b.length < 8000000) : Y (fun k => sPutQc k l b q) (cond (qcOk l q) (b ++ qcB q, true) ([], false)) := by
  cases ho : qcOk l q with
  | true => exact sPutQc_Y hf (qcOk_iff.1 ho) (by omega)
  | false =>
    unfold sPutQc
    refine Y.bind (sQcOk_Y hf) ?_
    rw [ho]
    exact Y.pure _
/-! ### Blocks -/
theorem flatten_le {α : Type} {f : α → List Int} {m : Nat} : ∀ {t : List α}, (∀ x ∈ t, (f x).length ≤ m) → ((t.map f).flatten).length ≤ m * t.length := by
  intro t
  induction t with
  | nil => intro _; simp
  | cons x t ih =>
    intro h
    have h1 := h x (by simp)
    have h2 := ih fun y hy => h y (by simp [hy])
    simp only [List.map_cons, List.flatten_cons, List.length_append, List.length_cons, Nat.mul_add, Nat.mul_one]
    omega
/-- A loop that puts one item after the other. -/
theorem Y.putG {α β : Type} {xs : List α} (f : α → List Int) (m : Nat) (Q : α → Prop) (hQ : ∀ x ∈ xs, Q x) (hm : ∀ x, Q x → (f x).length ≤ m) (hx : m * xs.length < 20000000) (hxl : xs.length < 1000000000) (L : Nat → List Int → Int → Option β) (fin : List Int → β) (G : Nat → α → List Int → Int → Option β)
    (hL : ∀ k out i, L (k + 1) out i = cond (decide (i < len xs)) ((rd xs i).bind fun x => G k x out i) (some (fin out)))
    (hG : ∀ x out i R, Q x → out.length < 40000000 → Y (fun k => L k (out ++ f x) (ad .i64 i 1)) R → Y (fun k => G k x out i) R) (b : List Int) (hb : b.length < 20000000) : Y (fun k => L k b 0) (fin (b ++ (xs.map f).flatten)) := by
  refine Y.loop (σ := List Int) (xs := xs) (by omega) L (fun s post => s.length + m * post.length < 40000000 ∧ ∀ x ∈ post, Q x) (fun s post => fin (s ++ (post.map f).flatten)) (fun s _ => ?_) (fun s x post i hi h0 h1 hrd had ih => ?_) b ⟨by omega, hQ⟩
  · simp only [hL]
    rw [show decide (len xs < len xs) = false by simp]
    simp only [cond_false, List.map_nil, List.flatten_nil, List.append_nil]
    exact Y.pure _
  · simp only [hL]
    have hq := hi.2 x (by simp)
    have hl := hm x hq
    simp only [List.length_cons, Nat.mul_add, Nat.mul_one] at hi
    rw [show decide (i < len xs) = true by simpa using h1, hrd]
    simp only [cond_true, Option.bind_some]
    refine hG x s i _ hq (by omega) ?_
    rw [had]
    have := ih (s ++ f x) ⟨by simp only [List.length_append]; omega, fun y hy => hi.2 y (by simp [hy])⟩
    rw [List.append_assoc] at this
    exact this
def blockB (x : DBlock) : List Int := headB x.1 ++ (numB (len x.2.1) ++ (x.2.1.map textB).flatten)
structure BlockIs (l : DLimits) (x : DBlock) : Prop where
  head : HeadIs l x.1
  txs : (x.2.1.length : Int) ≤ l.2.2.1
  tx : ∀ t ∈ x.2.1, (t.length : Int) ≤ l.2.1
  root : x.1.2.2.2.2.1 = root x.2.1
theorem blockOk_iff {l : DLimits} {x : DBlock} : blockOk l x = true ↔ BlockIs l x := by
  simp only [blockOk, Bool.and_eq_true, List.all_eq_true, decide_eq_true_eq, headOk_iff, beq_iff_eq]
  simp only [len]
  constructor
  · rintro ⟨a, b, c, d⟩; exact ⟨b, c, a, d⟩
  · rintro ⟨a, b, c, d⟩; exact ⟨c, a, b, d⟩
theorem BlockIs.small {l : DLimits} {x : DBlock} (h : BlockIs l x) : x.2.1.length ≤ 8 ∧ ∀ t ∈ x.2.1, t.length ≤ 40 := by
  have := limitsOk_txs h.head.qc.lim
  have := h.txs
  exact ⟨by omega, fun t ht => by have := h.tx t ht; omega⟩
theorem blockB_len {l : DLimits} {x : DBlock} (h : BlockIs l x) : (blockB x).length ≤ 1000 := by
  have h1 := headB_len h.head
  have hs := h.small
  have h2 := numB_len (len_num (x := x.2.1) (by omega))
  have h3 := flatten_le (f := textB) (m := 49) (t := x.2.1) fun t ht => by have := hs.2 t ht; have := textB_len (x := t) (by omega); omega
  simp only [blockB, List.length_append]
  omega
theorem iPutBlock_Y {l : DLimits} {x : DBlock} {b : List Int} (hf : fitBlock x) (hb : b.length < 8000000) : Y (fun k => iPutBlock k l b x) (cond (blockOk l x) (b ++ blockB x, true) ([], false)) := by
  unfold iPutBlock
  refine Y.bind (iBlockOk_Y hf) ?_
  cases ho : blockOk l x with
  | false => exact Y.pure _
  | true =>
    have h := blockOk_iff.1 ho
    have hs := h.small
    have h1 := headB_len h.head
    have h2 := numB_len (len_num (x := x.2.1) (by omega))
    unfold numB at h2
    simp only [Bool.not_true, cond_false, cond_true]
    rw [icopyBytes_eq (by omega)]
    simp only [Option.bind_some]
    refine Y.bind (iwriter_head_Y h.head (by omega)) (Y.bind (iwriter_num_Y (by simp; omega) (len_num (by omega))) ?_)
    refine Y.bind (Y.putG (xs := x.2.1) textB 49 (fun t => t.length ≤ 40) hs.2 (fun t ht => by have := textB_len (x := t) (by omega); omega) (by omega) (by omega) (fun k out i => iPutBlock_l0 k (out, ()) x.2.1 (len x.2.1) i) (fun out => ((out, ()) : Dwriter)) (fun k t out i => _) (fun k out i => rfl) (fun t out i R ht ho hR => ?_) _ (by simp; omega)) ?_
    · exact Y.bind (iPutText_Y (b := out) (by omega) (by omega)) hR
    · unfold blockB numB
      simp only [List.append_assoc]
      exact Y.pure _
theorem sPutBlock_Y {l : DLimits} {x : DBlock} {b : List Int} (hf : fitBlock x) (hb : b.length < 8000000) : Y (fun k => sPutBlock k l b x) (cond (blockOk l x) (b ++ blockB x, true) ([], false)) := by
  unfold sPutBlock
  refine Y.bind (sBlockOk_Y hf) ?_
  cases ho : blockOk l x with
  | false => exact Y.pure _
  | true =>
    have h := blockOk_iff.1 ho
    have hs := h.small
    have h1 := headB_len h.head
    have h2 := numB_len (len_num (x := x.2.1) (by omega))
    unfold numB at h2
    simp only [Bool.not_true, cond_false, cond_true]
    refine Y.bind (sPutHead_Y hf.1 hb) ?_
    unfold putHead
    rw [headOk_iff.2 h.head]
    simp only [cond_true]
    refine Y.bind (sl11Num_Y (by simp; omega) (len_num (by omega))) ?_
    refine Y.bind (Y.putG (xs := x.2.1) textB 49 (fun t => t.length ≤ 40) hs.2 (fun t ht => by have := textB_len (x := t) (by omega); omega) (by omega) (by omega) (fun k out i => sPutBlock_l0 k out x.2.1 (len x.2.1) i) id (fun k t out i => _) (fun k out i => rfl) (fun t out i R ht ho hR => ?_) _ (by simp; omega)) ?_
    · exact Y.bind (sPutText_Y (by omega) (by omega)) hR
    · unfold blockB numB
      simp only [List.append_assoc, id]
      exact Y.pure _
/-! ### Timeout certificates -/
def entB (e : DEntry) : List Int := numB e.1 ++ (numB e.2.1 ++ e.2.2.1)
def tcB (t : DTc) : List Int := numB t.1 ++ (numB (len t.2.1) ++ (t.2.1.map entB).flatten)
structure EntIs (n view : Int) (e : DEntry) : Prop where
  who : 0 ≤ e.1 ∧ e.1 < n
  high : 0 ≤ e.2.1 ∧ e.2.1 < view
  tag : e.2.2.1.length = 32
theorem entOk_iff {n view : Int} {e : DEntry} : entOk (n - 1) (view - 1) e = true ↔ EntIs n view e := by
  simp only [entOk, Bool.and_eq_true, within_iff, hashB_iff]
  constructor
  · rintro ⟨a, b, c⟩; exact ⟨by omega, by omega, c⟩
  · rintro ⟨a, b, c⟩; exact ⟨by omega, by omega, c⟩
theorem entsOk_all {n view : Int} : ∀ {es : List DEntry} {p : Option DEntry}, entsOk n view p es = true → ∀ e ∈ es, entOk n view e = true := by
  intro es
  induction es with
  | nil => intro p _ e he; cases he
  | cons x es ih =>
    intro p h e he
    simp only [entsOk, Bool.and_eq_true] at h
    rcases List.mem_cons.1 he with rfl | he
    · exact h.1.1
    · exact ih h.2 e he
structure TcIs (l : DLimits) (t : DTc) : Prop where
  lim : limitsOk l = true
  view : isNum t.1 = true
  size : (t.2.1.length : Int) ≤ l.1
  ents : entsOk (l.1 - 1) (t.1 - 1) none t.2.1 = true
theorem tcOk_iff {l : DLimits} {t : DTc} : tcOk l t = true ↔ TcIs l t := by
  simp only [tcOk, Bool.and_eq_true, decide_eq_true_eq]
  simp only [len]
  constructor
  · rintro ⟨a, b, c, d⟩; exact ⟨a, b, c, d⟩
  · rintro ⟨a, b, c, d⟩; exact ⟨a, b, c, d⟩
theorem TcIs.each {l : DLimits} {t : DTc} (h : TcIs l t) : t.2.1.length ≤ 10 ∧ ∀ e ∈ t.2.1, EntIs l.1 t.1 e := by
  have := limitsOk_N h.lim
  have := h.size
  exact ⟨by omega, fun e he => entOk_iff.1 (entsOk_all h.ents e he)⟩
theorem EntIs.num {l : DLimits} {v : Int} {e : DEntry} (hl : limitsOk l = true) (hv : isNum v = true) (h : EntIs l.1 v e) : isNum e.1 = true ∧ isNum e.2.1 = true := by
  have := limitsOk_N hl
  have := isNum_iff.1 hv
  have := h.who
  have := h.high
  exact ⟨isNum_iff.2 (by omega), isNum_iff.2 (by omega)⟩
theorem entB_len {l : DLimits} {v : Int} {e : DEntry} (hl : limitsOk l = true) (hv : isNum v = true) (h : EntIs l.1 v e) : (entB e).length ≤ 50 := by
  have hn := h.num hl hv
  have h1 := numB_len hn.1
  have h2 := numB_len hn.2
  have h3 := h.tag
  simp only [entB, List.length_append]
  omega
theorem tcB_len {l : DLimits} {t : DTc} (h : TcIs l t) : (tcB t).length ≤ 1000 := by
  have hs := h.each
  have h1 := numB_len h.view
  have h2 := numB_len (len_num (x := t.2.1) (by omega))
  have h3 := flatten_le (f := entB) (m := 50) (t := t.2.1) fun e he => entB_len h.lim h.view (hs.2 e he)
  simp only [tcB, List.length_append]
  omega
theorem iPutTc_Y {l : DLimits} {t : DTc} {b : List Int} (hf : fitTc t) (hb : b.length < 8000000) : Y (fun k => iPutTc k l b t) (cond (tcOk l t) (b ++ tcB t, true) ([], false)) := by
  unfold iPutTc
  refine Y.bind (iTcOk_Y hf) ?_
  cases ho : tcOk l t with
  | false => exact Y.pure _
  | true =>
    have h := tcOk_iff.1 ho
    have hs := h.each
    have h1 := numB_len h.view
    have h2 := numB_len (len_num (x := t.2.1) (by omega))
    unfold numB at h1 h2
    simp only [Bool.not_true, cond_false, cond_true]
    rw [icopyBytes_eq (by omega)]
    simp only [Option.bind_some]
    refine Y.bind (iwriter_num_Y (by omega) h.view) (Y.bind (iwriter_num_Y (by simp; omega) (len_num (by omega))) ?_)
    refine Y.bind (Y.putG (xs := t.2.1) entB 50 (fun e => EntIs l.1 t.1 e) hs.2 (fun e he => entB_len h.lim h.view he) (by omega) (by omega) (fun k out i => iPutTc_l0 k (out, ()) t.2.1 (len t.2.1) i) (fun out => ((out, ()) : Dwriter)) (fun k e out i => _) (fun k out i => rfl) (fun e out i R he ho hR => ?_) _ (by simp; omega)) ?_
    · have hn := he.num h.lim h.view
      have g1 := numB_len hn.1
      have g2 := numB_len hn.2
      have g3 := he.tag
      unfold entB at hR
      unfold numB at g1 g2 hR
      refine Y.bind (iwriter_num_Y (by omega) hn.1) (Y.bind (iwriter_num_Y (by simp; omega) hn.2) ?_)
      rw [iwriter_raw_eq (by simp; omega)]
      simp only [Option.bind_some, List.append_assoc]
      exact hR
    · unfold tcB numB
      simp only [List.append_assoc]
      exact Y.pure _
theorem sPutTc_Y {l : DLimits} {t : DTc} {b : List Int} (hf : fitTc t) (hb : b.length < 8000000) : Y (fun k => sPutTc k l b t) (cond (tcOk l t) (b ++ tcB t, true) ([], false)) := by
  unfold sPutTc
  refine Y.bind (sTcOk_Y hf) ?_
  cases ho : tcOk l t with
  | false => exact Y.pure _
  | true =>
    have h := tcOk_iff.1 ho
    have hs := h.each
    have h1 := numB_len h.view
    have h2 := numB_len (len_num (x := t.2.1) (by omega))
    unfold numB at h1 h2
    simp only [Bool.not_true, cond_false, cond_true]
    refine Y.bind (sl11Num_Y (by omega) h.view) (Y.bind (sl11Num_Y (by simp; omega) (len_num (by omega))) ?_)
    refine Y.bind (Y.putG (xs := t.2.1) entB 50 (fun e => EntIs l.1 t.1 e) hs.2 (fun e he => entB_len h.lim h.view he) (by omega) (by omega) (fun k out i => sPutTc_l0 k out t.2.1 (len t.2.1) i) id (fun k e out i => _) (fun k out i => rfl) (fun e out i R he ho hR => ?_) _ (by simp; omega)) ?_
    · have hn := he.num h.lim h.view
      have g1 := numB_len hn.1
      have g2 := numB_len hn.2
      have g3 := he.tag
      unfold entB at hR
      unfold numB at g1 g2 hR
      refine Y.bind (sl11Num_Y (by omega) hn.1) (Y.bind (sl11Num_Y (by simp; omega) hn.2) ?_)
      rw [app_ok (by simp; omega)]
      simp only [Option.bind_some, List.append_assoc]
      exact hR
    · unfold tcB numB
      simp only [List.append_assoc, id]
      exact Y.pure _
/-! ### Proofs of commits -/
theorem proofB_len {l : DLimits} {p : DProof} (h : ProofIs l p) : (proofB p).length ≤ 3000 := by
  have hs := h.small
  have h1 := numB_len (len_num (x := p.1) (by omega))
  have h2 := flatten_le (f := headB) (m := 500) (t := p.1) fun x hx => headB_len (h.heads x hx)
  have h3 := qcB_len h.qc
  simp only [proofB, List.length_append]
  omega
theorem iPutProofC_Y {l : DLimits} {p : DProof} {b : List Int} (hf : fitProof p) (hb : b.length < 8000000) : Y (fun k => iPutProof k l b p) (cond (proofOk l p) (b ++ proofB p, true) ([], false)) := by
  cases ho : proofOk l p with
  | true => exact iPutProof_Y hf (proofOk_iff.1 ho) hb
  | false =>
    unfold iPutProof
    refine Y.bind (iProofOk_Y hf) ?_
    rw [ho]
    exact Y.pure _
theorem sPutProof_Y {l : DLimits} {p : DProof} {b : List Int} (hf : fitProof p) (hb : b.length < 7000000) : Y (fun k => sPutProof k l b p) (cond (proofOk l p) (b ++ proofB p, true) ([], false)) := by
  unfold sPutProof
  refine Y.bind (sProofOk_Y hf) ?_
  cases ho : proofOk l p with
  | false => exact Y.pure _
  | true =>
    have h := proofOk_iff.1 ho
    have hs := h.small
    have h1 := numB_len (len_num (x := p.1) (by omega))
    have h2 := flatten_le (f := headB) (m := 500) (t := p.1) fun x hx => headB_len (h.heads x hx)
    unfold numB at h1
    simp only [Bool.not_true, cond_false, cond_true]
    refine Y.bind (sl11Num_Y (by omega) (len_num (by omega))) ?_
    have := Y.loop (σ := List Int) (xs := p.1) (by omega) (fun k s i => sPutProof_l0 k l p s p.1 (len p.1) i) (fun s post => s.length + 500 * post.length < 7900000 ∧ ∀ x ∈ post, HeadIs l x ∧ fitHead x) (fun s post => (l, p, s ++ (post.map headB).flatten)) (fun s _ => ?_) (fun s x post i hi h0 h1' hrd had ih => ?_)
      (b ++ varB (len p.1).toNat) ⟨by simp only [List.length_append]; omega, fun x hx => ⟨h.heads x hx, hf.1.2 x hx⟩⟩
    · refine Y.bind this ?_
      refine Y.bind (sPutQcC_Y hf.2 (by simp only [List.length_append]; omega)) ?_
      rw [qcOk_iff.2 h.qc]
      unfold proofB numB
      simp only [List.append_assoc]
      exact Y.pure _
    · simp only [sPutProof_l0]
      rw [show decide (len p.1 < len p.1) = false by simp]
      simp only [cond_false, List.map_nil, List.flatten_nil, List.append_nil]
      exact Y.pure _
    · simp only [sPutProof_l0]
      have hx := hi.2 x (by simp)
      have hl := headB_len hx.1
      simp only [List.length_cons] at hi
      rw [show decide (i < len p.1) = true by simpa using h1', hrd, had]
      simp only [cond_true, Option.bind_some]
      refine Y.bind (sPutHead_Y hx.2 (by omega)) ?_
      unfold putHead
      rw [headOk_iff.2 hx.1]
      simp only [cond_true]
      have := ih (s ++ headB x) ⟨by simp only [List.length_append]; omega, fun y hy => hi.2 y (by simp [hy])⟩
      rw [List.append_assoc] at this
      exact this
/-! ### Proofs of transactions -/
def inclB (x : DIncl) : List Int := numB x.1 ++ (numB x.2.1 ++ (numB x.2.2.1 ++ (textB x.2.2.2.1 ++ x.2.2.2.2.1.flatten)))
structure InclIs (l : DLimits) (x : DIncl) : Prop where
  lim : limitsOk l = true
  height : isNum x.1 = true
  n : 1 ≤ x.2.1 ∧ x.2.1 ≤ l.2.2.1
  pos : 0 ≤ x.2.2.1 ∧ x.2.2.1 < x.2.1
  tx : (x.2.2.2.1.length : Int) ≤ l.2.1
  path : (x.2.2.2.2.1.length : Int) = pathLen x.2.2.1 x.2.1
  each : ∀ h ∈ x.2.2.2.2.1, h.length = 32
theorem inclOk_iff {l : DLimits} {x : DIncl} : inclOk l x = true ↔ InclIs l x := by
  simp only [inclOk, Bool.and_eq_true, within_iff, decide_eq_true_eq, beq_iff_eq, List.all_eq_true, hashB_iff]
  simp only [len]
  constructor
  · rintro ⟨a, b, c, d, e, f, g⟩
    have := limitsOk_txs a
    rw [su_ok (by omega) (by omega)] at d
    exact ⟨a, b, c, by omega, e, f, g⟩
  · rintro ⟨a, b, c, d, e, f, g⟩
    have := limitsOk_txs a
    rw [su_ok (by omega) (by omega)]
    exact ⟨a, b, c, by omega, e, f, g⟩
theorem InclIs.nums {l : DLimits} {x : DIncl} (h : InclIs l x) : isNum x.2.1 = true ∧ isNum x.2.2.1 = true ∧ x.2.2.2.1.length ≤ 40 ∧ x.2.2.2.2.1.length ≤ 9 := by
  have := limitsOk_txs h.lim
  have h1 := h.n
  have h2 := h.pos
  have h3 := h.tx
  have h4 := h.path
  have h5 := pathLen_le (i := x.2.2.1) (n := x.2.1) (by omega)
  exact ⟨isNum_iff.2 (by omega), isNum_iff.2 (by omega), by omega, by omega⟩
theorem inclB_len {l : DLimits} {x : DIncl} (h : InclIs l x) : (inclB x).length ≤ 1000 := by
  have hn := h.nums
  have h1 := numB_len h.height
  have h2 := numB_len hn.1
  have h3 := numB_len hn.2.1
  have h4 := textB_len (x := x.2.2.2.1) (by omega)
  have h5 := flatten_len32 h.each
  simp only [inclB, List.length_append]
  omega
theorem iPutIncl_Y {l : DLimits} {x : DIncl} {b : List Int} (hf : fitIncl x) (hb : b.length < 8000000) : Y (fun k => iPutIncl k l b x) (cond (inclOk l x) (b ++ inclB x, true) ([], false)) := by
  unfold iPutIncl
  refine Y.bind (iInclOk_Y hf) ?_
  cases ho : inclOk l x with
  | false => exact Y.pure _
  | true =>
    have h := inclOk_iff.1 ho
    have hn := h.nums
    have h1 := numB_len h.height
    have h2 := numB_len hn.1
    have h3 := numB_len hn.2.1
    have h4 := textB_len (x := x.2.2.2.1) (by omega)
    unfold numB at h1 h2 h3
    simp only [Bool.not_true, cond_false, cond_true]
    rw [icopyBytes_eq (by omega)]
    simp only [Option.bind_some]
    refine Y.bind (iwriter_num_Y (by omega) h.height) (Y.bind (iwriter_num_Y (by simp; omega) hn.1) (Y.bind (iwriter_num_Y (by simp; omega) hn.2.1) ?_))
    refine Y.bind (iPutText_Y (by simp; omega) (by omega)) ?_
    have := Y.putG (xs := x.2.2.2.2.1) id 32 (fun t => t.length = 32) h.each (fun t ht => by show t.length ≤ 32; omega) (by omega) (by omega) (fun k out i => iPutIncl_l0 k (out, ()) x.2.2.2.2.1 (len x.2.2.2.2.1) i) (fun out => ((out, ()) : Dwriter)) (fun k t out i => _) (fun k out i => rfl) (fun t out i R ht ho hR => ?_) (b ++ varB x.1.toNat ++ varB x.2.1.toNat ++ varB x.2.2.1.toNat ++ textB x.2.2.2.1) (by simp; omega)
    · refine Y.bind this ?_
      rw [List.map_id]
      unfold inclB numB
      simp only [List.append_assoc]
      exact Y.pure _
    · rw [iwriter_raw_eq (by omega)]
      exact hR
theorem sPutIncl_Y {l : DLimits} {x : DIncl} {b : List Int} (hf : fitIncl x) (hb : b.length < 8000000) : Y (fun k => sPutIncl k l b x) (cond (inclOk l x) (b ++ inclB x, true) ([], false)) := by
  unfold sPutIncl
  refine Y.bind (sInclOk_Y hf) ?_
  cases ho : inclOk l x with
  | false => exact Y.pure _
  | true =>
    have h := inclOk_iff.1 ho
    have hn := h.nums
    have h1 := numB_len h.height
    have h2 := numB_len hn.1
    have h3 := numB_len hn.2.1
    have h4 := textB_len (x := x.2.2.2.1) (by omega)
    unfold numB at h1 h2 h3
    simp only [Bool.not_true, cond_false, cond_true]
    refine Y.bind (sl11Num_Y (by omega) h.height) (Y.bind (sl11Num_Y (by simp; omega) hn.1) (Y.bind (sl11Num_Y (by simp; omega) hn.2.1) ?_))
    refine Y.bind (sPutText_Y (by simp; omega) (by omega)) ?_
    have := Y.putG (xs := x.2.2.2.2.1) id 32 (fun t => t.length = 32) h.each (fun t ht => by show t.length ≤ 32; omega) (by omega) (by omega) (fun k out i => sPutIncl_l0 k out x.2.2.2.2.1 (len x.2.2.2.2.1) i) id (fun k t out i => _) (fun k out i => rfl) (fun t out i R ht ho hR => ?_) (b ++ varB x.1.toNat ++ varB x.2.1.toNat ++ varB x.2.2.1.toNat ++ textB x.2.2.2.1) (by simp; omega)
    · refine Y.bind this ?_
      rw [List.map_id]
      unfold inclB numB
      simp only [List.append_assoc, id]
      exact Y.pure _
    · rw [app_ok (by omega)]
      exact hR
end Go.Ev.G
/- Messages: which are right, and their bytes. -/
namespace Go.Ev.G
open Go.Ev
def v0 : DVote := (0, 0, [], 0, [], ())
def b0 : DBlock := (h0, [], ())
def t0 : DTc := (0, [], ())
def p0 : DProof := ([], q0, ())
def i0 : DIncl := (0, 0, 0, [], [], ())
def m0 : DMsg := (0, v0, q0, h0, b0, t0, p0, i0, ())
def only (m : DMsg) : DMsg :=
  cond (m.1 == 1) (1, m.2.1, q0, h0, b0, t0, p0, i0, ()) <|
  cond (m.1 == 2) (2, v0, m.2.2.1, h0, b0, t0, p0, i0, ()) <|
  cond (m.1 == 3) (3, v0, q0, m.2.2.2.1, b0, t0, p0, i0, ()) <|
  cond (m.1 == 4) (4, v0, q0, h0, m.2.2.2.2.1, t0, p0, i0, ()) <|
  cond (m.1 == 5) (5, v0, q0, h0, b0, m.2.2.2.2.2.1, p0, i0, ()) <|
  cond (m.1 == 6) (6, v0, q0, h0, b0, t0, m.2.2.2.2.2.2.1, i0, ()) <|
  cond (m.1 == 7) (7, v0, q0, h0, b0, t0, p0, m.2.2.2.2.2.2.2.1, ()) m0
theorem iOfVote_eq {v : DVote} (h : fitVote v) : iOfVote v = some (1, v, q0, h0, b0, t0, p0, i0, ()) := by
  unfold iOfVote
  rw [icopyBytes_eq (by have := h.1.1; omega), icopyBytes_eq (by have := h.2.1; omega)]
  rfl
theorem sOfVote_eq {v : DVote} (h : fitVote v) : sOfVote v = some (1, v, q0, h0, b0, t0, p0, i0, ()) := by
  unfold sOfVote
  rw [sl01Copy_eq (by have := h.1.1; omega), sl01Copy_eq (by have := h.2.1; omega)]
  rfl
theorem iOfQc_Y {q : DQc} (h : fitQc q) : Y (fun k => iOfQc k q) (2, v0, q, h0, b0, t0, p0, i0, ()) := by unfold iOfQc; exact Y.bind (iQc_copied_Y h) (Y.pure _)
theorem sOfQc_Y {q : DQc} (h : fitQc q) : Y (fun k => sOfQc k q) (2, v0, q, h0, b0, t0, p0, i0, ()) := by unfold sOfQc; exact Y.bind (sl12Copy_Y h) (Y.pure _)
theorem iOfHead_Y {x : DHead} (h : fitHead x) : Y (fun k => iOfHead k x) (3, v0, q0, x, b0, t0, p0, i0, ()) := by unfold iOfHead; exact Y.bind (iHead_copied_Y h) (Y.pure _)
theorem sOfHead_Y {x : DHead} (h : fitHead x) : Y (fun k => sOfHead k x) (3, v0, q0, x, b0, t0, p0, i0, ()) := by unfold sOfHead; exact Y.bind (sl13Copy_Y h) (Y.pure _)
theorem iOfBlock_Y {x : DBlock} (h : fitBlock x) : Y (fun k => iOfBlock k x) (4, v0, q0, h0, x, t0, p0, i0, ()) := by unfold iOfBlock; exact Y.bind (iBlock_copied_Y h) (Y.pure _)
theorem sOfBlock_Y {x : DBlock} (h : fitBlock x) : Y (fun k => sOfBlock k x) (4, v0, q0, h0, x, t0, p0, i0, ()) := by unfold sOfBlock; exact Y.bind (sl14Copy_Y h) (Y.pure _)
theorem iOfTc_Y {x : DTc} (h : fitTc x) : Y (fun k => iOfTc k x) (5, v0, q0, h0, b0, x, p0, i0, ()) := by unfold iOfTc; exact Y.bind (iTc_copied_Y h) (Y.pure _)
theorem sOfTc_Y {x : DTc} (h : fitTc x) : Y (fun k => sOfTc k x) (5, v0, q0, h0, b0, x, p0, i0, ()) := by unfold sOfTc; exact Y.bind (sl15Copy_Y h) (Y.pure _)
theorem sOfProof_Y {x : DProof} (h : fitProof x) : Y (fun k => sOfProof k x) (6, v0, q0, h0, b0, t0, x, i0, ()) := by unfold sOfProof; exact Y.bind (sl16Copy_Y h) (Y.pure _)
theorem iOfIncl_Y {x : DIncl} (h : fitIncl x) : Y (fun k => iOfIncl k x) (7, v0, q0, h0, b0, t0, p0, x, ()) := by unfold iOfIncl; exact Y.bind (iIncl_copied_Y h) (Y.pure _)
theorem sOfIncl_Y {x : DIncl} (h : fitIncl x) : Y (fun k => sOfIncl k x) (7, v0, q0, h0, b0, t0, p0, x, ()) := by unfold sOfIncl; exact Y.bind (sl16Incl_Y h) (Y.pure _)
theorem iMsg_alone_Y {m : DMsg} (h : FitMsg m) : Y (fun k => iMsg_alone k m) (only m) := by
  unfold iMsg_alone only
  rw [iOfVote_eq h.vote]
  refine Y.ite (fun _ => Y.pure _) fun _ => Y.ite (fun _ => Y.bind (iOfQc_Y h.qc) (Y.pure _)) fun _ => Y.ite (fun _ => Y.bind (iOfHead_Y h.head) (Y.pure _)) fun _ => Y.ite (fun _ => Y.bind (iOfBlock_Y h.block) (Y.pure _)) fun _ => Y.ite (fun _ => Y.bind (iOfTc_Y h.tc) (Y.pure _)) fun _ => Y.ite (fun _ => Y.bind (iOfProof_Y h.proof) (Y.pure _)) fun _ => Y.ite (fun _ => Y.bind (iOfIncl_Y h.incl) (Y.pure _)) fun _ => Y.pure _
theorem sl17Only_Y {m : DMsg} (h : FitMsg m) : Y (fun k => sl17Only k m) (only m) := by
  unfold sl17Only only
  rw [sOfVote_eq h.vote]
  refine Y.ite (fun _ => Y.pure _) fun _ => Y.ite (fun _ => Y.bind (sOfQc_Y h.qc) (Y.pure _)) fun _ => Y.ite (fun _ => Y.bind (sOfHead_Y h.head) (Y.pure _)) fun _ => Y.ite (fun _ => Y.bind (sOfBlock_Y h.block) (Y.pure _)) fun _ => Y.ite (fun _ => Y.bind (sOfTc_Y h.tc) (Y.pure _)) fun _ => Y.ite (fun _ => Y.bind (sOfProof_Y h.proof) (Y.pure _)) fun _ => Y.ite (fun _ => Y.bind (sOfIncl_Y h.incl) (Y.pure _)) fun _ => Y.pure _
def pOk (l : DLimits) (m : DMsg) : Bool :=
  cond (m.1 == 1) (voteOk l m.2.1) <|
  cond (m.1 == 2) (qcOk l m.2.2.1) <|
  cond (m.1 == 3) (headOk l m.2.2.2.1) <|
  cond (m.1 == 4) (blockOk l m.2.2.2.2.1) <|
  cond (m.1 == 5) (tcOk l m.2.2.2.2.2.1) <|
  cond (m.1 == 6) (proofOk l m.2.2.2.2.2.2.1) <|
  cond (m.1 == 7) (inclOk l m.2.2.2.2.2.2.2.1) false
def pB (m : DMsg) : List Int :=
  cond (m.1 == 1) (vB m.2.1) <|
  cond (m.1 == 2) (qcB m.2.2.1) <|
  cond (m.1 == 3) (headB m.2.2.2.1) <|
  cond (m.1 == 4) (blockB m.2.2.2.2.1) <|
  cond (m.1 == 5) (tcB m.2.2.2.2.2.1) <|
  cond (m.1 == 6) (proofB m.2.2.2.2.2.2.1) <|
  cond (m.1 == 7) (inclB m.2.2.2.2.2.2.2.1) []
def put (l : DLimits) (b : List Int) (m : DMsg) : List Int × Bool := cond (pOk l m) (b ++ pB m, true) ([], false)
theorem iMsg_put_Y {l : DLimits} {m : DMsg} {b : List Int} (h : FitMsg m) (hb : b.length < 7000000) : Y (fun k => iMsg_put k m l b) (put l b m) := by
  unfold iMsg_put put pOk pB
  cases m.1 == 1 with
  | true => exact Y.bind (iPutVote_Y (by omega)) (Y.pure _)
  | false =>
  cases m.1 == 2 with
  | true => exact Y.bind (iPutQc_Y h.qc (by omega)) (Y.pure _)
  | false =>
  cases m.1 == 3 with
  | true => exact Y.bind (iPutHead_Y h.head (by omega)) (Y.pure _)
  | false =>
  cases m.1 == 4 with
  | true => exact Y.bind (iPutBlock_Y h.block (by omega)) (Y.pure _)
  | false =>
  cases m.1 == 5 with
  | true => exact Y.bind (iPutTc_Y h.tc (by omega)) (Y.pure _)
  | false =>
  cases m.1 == 6 with
  | true => exact Y.bind (iPutProofC_Y h.proof (by omega)) (Y.pure _)
  | false =>
  cases m.1 == 7 with
  | true => exact Y.bind (iPutIncl_Y h.incl (by omega)) (Y.pure _)
  | false => exact Y.pure _
theorem sl17Put_Y {l : DLimits} {m : DMsg} {b : List Int} (h : FitMsg m) (hk : within m.1 1 7 = true) (hb : b.length < 7000000) : Y (fun k => sl17Put k l b m) (put l b m) := by
  unfold sl17Put put pOk pB
  cases h1 : m.1 == 1 with
  | true => exact Y.bind (sPutVote_Y (by omega)) (Y.pure _)
  | false =>
  cases h2 : m.1 == 2 with
  | true => exact Y.bind (sPutQcC_Y h.qc (by omega)) (Y.pure _)
  | false =>
  cases h3 : m.1 == 3 with
  | true => exact Y.bind (sPutHead_Y h.head (by omega)) (Y.pure _)
  | false =>
  cases h4 : m.1 == 4 with
  | true => exact Y.bind (sPutBlock_Y h.block (by omega)) (Y.pure _)
  | false =>
  cases h5 : m.1 == 5 with
  | true => exact Y.bind (sPutTc_Y h.tc (by omega)) (Y.pure _)
  | false =>
  cases h6 : m.1 == 6 with
  | true => exact Y.bind (sPutProof_Y h.proof (by omega)) (Y.pure _)
  | false =>
  have h7 : (m.1 == 7) = true := by
    rw [within_iff] at hk
    simp only [beq_eq_false_iff_ne] at h1 h2 h3 h4 h5 h6
    rw [beq_iff_eq]
    omega
  rw [h7]
  exact Y.bind (sPutIncl_Y h.incl (by omega)) (Y.pure _)
theorem pOk_kind {l : DLimits} {m : DMsg} (h : pOk l m = true) : within m.1 1 7 = true := by
  rw [within_iff]
  unfold pOk at h
  by_cases h1 : m.1 = 1
  · omega
  by_cases h2 : m.1 = 2
  · omega
  by_cases h3 : m.1 = 3
  · omega
  by_cases h4 : m.1 = 4
  · omega
  by_cases h5 : m.1 = 5
  · omega
  by_cases h6 : m.1 = 6
  · omega
  by_cases h7 : m.1 = 7
  · omega
  simp [h1, h2, h3, h4, h5, h6, h7] at h
noncomputable def msgOk (l : DLimits) (m : DMsg) : Bool := pOk l m && same m (only m)
theorem iMsgOk_Y {l : DLimits} {m : DMsg} (h : FitMsg m) : Y (fun k => iMsgOk k l m) (msgOk l m) := by
  unfold iMsgOk msgOk
  refine Y.bind (iMsg_put_Y h (by simp)) ?_
  rw [show (put l [] m).2 = pOk l m by unfold put; cases pOk l m <;> rfl]
  exact Y.and fun _ => Y.bind (iMsg_alone_Y h) (Y.bind (iMsgSame_Y h) (Y.pure _))
theorem sMsgOk_Y {l : DLimits} {m : DMsg} (h : FitMsg m) : Y (fun k => sMsgOk k l m) (msgOk l m) := by
  have e : msgOk l m = (within m.1 1 7 && (same m (only m) && pOk l m)) := by
    unfold msgOk
    cases hp : pOk l m with
    | false => cases within m.1 1 7 <;> cases same m (only m) <;> rfl
    | true => rw [pOk_kind hp]; cases same m (only m) <;> rfl
  rw [e]
  unfold sMsgOk sl17Kind
  rw [sl01In_eq]
  simp only [Option.bind_some]
  refine Y.andN fun hk => Y.bind (sl17Only_Y h) (Y.bind (sMsgSame_Y h) (Y.andN fun _ => Y.bind (sl17Put_Y h hk (by simp)) ?_))
  unfold put
  cases pOk l m <;> exact Y.pure _
def msgB (m : DMsg) : List Int := m.1 :: pB m
noncomputable def enc (l : DLimits) (m : DMsg) : List Int × Bool := cond (msgOk l m) (msgB m, true) ([], false)
theorem kind_cv {m : DMsg} (h : within m.1 1 7 = true) : cv .u8 m.1 = m.1 := by
  rw [within_iff] at h
  rw [cv_u8]
  omega
theorem iEncode_Y {l : DLimits} {m : DMsg} (h : FitMsg m) : Y (fun k => iEncode k l m) (enc l m) := by
  unfold iEncode enc
  refine Y.bind (iMsgOk_Y h) ?_
  cases ho : msgOk l m with
  | false => exact Y.pure _
  | true =>
    have hp : pOk l m = true := by unfold msgOk at ho; simp only [Bool.and_eq_true] at ho; exact ho.1
    simp only [Bool.not_true, cond_false, cond_true]
    refine Y.bind (iMsg_put_Y h (by simp)) ?_
    unfold put
    rw [hp, kind_cv (pOk_kind hp)]
    exact Y.pure _
theorem sEncode_Y {l : DLimits} {m : DMsg} (h : FitMsg m) : Y (fun k => sEncode k l m) (enc l m) := by
  unfold sEncode enc
  refine Y.bind (sMsgOk_Y h) ?_
  cases ho : msgOk l m with
  | false => exact Y.pure _
  | true =>
    have hp : pOk l m = true := by unfold msgOk at ho; simp only [Bool.and_eq_true] at ho; exact ho.1
    simp only [Bool.not_true, cond_false, cond_true]
    refine Y.bind (sl17Put_Y h (pOk_kind hp) (by simp)) ?_
    unfold put
    rw [hp, kind_cv (pOk_kind hp)]
    exact Y.pure _
theorem iMsgSize_Y {l : DLimits} {m : DMsg} (h : FitMsg m) : Y (fun k => iMsgSize k l m) (len (enc l m).1) := by
  unfold iMsgSize
  exact Y.bind (iEncode_Y h) (Y.pure _)
theorem sMsgSize_Y {l : DLimits} {m : DMsg} (h : FitMsg m) : Y (fun k => sMsgSize k l m) (len (enc l m).1) := by
  unfold sMsgSize
  exact Y.bind (sEncode_Y h) (Y.pure _)
end Go.Ev.G
/- What messages are drawn. -/
namespace Go.Ev.G
open Go.Ev
/-- A draw: something of which P holds, and the place to go on. -/
def Dr {α : Type} (f : Nat → Option (α × Dl01Cur)) (P : α → Prop) : Prop := ∃ v c', Y f (v, c') ∧ P v ∧ CurOk c'
theorem limits_ok {c : Dl01Cur} (h : CurOk c) : ∃ l c', sl10Draw c = some (l, c') ∧ limitsOk l = true ∧ CurOk c' := by
  unfold sl10Draw
  obtain ⟨a, c1, e1, m1, hc1⟩ := pick_ok h (l := [1, 3, 4, 4, 7, 9, 10]) (by simp)
  rw [e1]
  simp only [Option.bind_some]
  obtain ⟨b, c2, e2, m2, hc2⟩ := pick_ok hc1 (l := [0, 4, 8, 40]) (by simp)
  rw [e2]
  simp only [Option.bind_some]
  obtain ⟨d, c3, e3, m3, hc3⟩ := pick_ok hc2 (l := [0, 3, 8]) (by simp)
  rw [e3]
  simp only [Option.bind_some]
  obtain ⟨f, c4, e4, m4, hc4⟩ := pick_ok hc3 (l := [4000, 4000, 300, 60]) (by simp)
  rw [e4]
  simp only [Option.bind_some]
  obtain ⟨g, c5, e5, g0, g1, hc5⟩ := below_ok hc4 (n := 3) (by omega)
  rw [e5]
  simp only [Option.bind_some]
  simp only [List.mem_cons, List.not_mem_nil, or_false] at m1 m2 m3 m4
  have hg : ad .i64 3 g = 3 + g := ad_ok (by omega) (by omega)
  refine ⟨_, _, rfl, ?_, hc5⟩
  simp only [limitsOk, Bool.and_eq_true, within_iff, hg]
  omega
theorem anyNum_ok {c : Dl01Cur} (h : CurOk c) : ∃ v c', sl01AnyNum c = some (v, c') ∧ isNum v = true ∧ CurOk c' := by
  unfold sl01AnyNum
  obtain ⟨a, c1, e1, a0, a1, hc1⟩ := below_ok h (n := 100) (by omega)
  rw [e1]
  simp only [Option.bind_some]
  obtain ⟨b, c2, e2, b0, b1, hc2⟩ := below_ok hc1 (n := 100000) (by omega)
  rw [e2]
  simp only [Option.bind_some]
  obtain ⟨v, c3, e3, m3, hc3⟩ := pick_ok hc2 (l := [0, 1, 127, 128, 300, 16383, 16384, 1152921504606846975, 1152921504606846974, a, b]) (by simp)
  rw [e3]
  refine ⟨v, c3, rfl, ?_, hc3⟩
  simp only [List.mem_cons, List.not_mem_nil, or_false] at m3
  rw [isNum_iff]
  omega
theorem once_ok {c : Dl01Cur} (h : CurOk c) {n : Int} (hn : 0 < n) : ∃ v c', sl01Once c n = some (v, c') ∧ CurOk c' := by
  unfold sl01Once
  obtain ⟨a, c1, e1, a0, a1, hc1⟩ := below_ok h hn
  rw [e1]
  exact ⟨_, _, rfl, hc1⟩
theorem vote_ok {l : DLimits} (hl : limitsOk l = true) {c : Dl01Cur} (h : CurOk c) : ∃ v c', sl11Draw c l = some (v, c') ∧ (VoteIs l v ∧ fitVote v) ∧ CurOk c' := by
  have hn := limitsOk_N hl
  unfold sl11Draw
  obtain ⟨a, c1, e1, ha, hc1⟩ := anyNum_ok h
  rw [e1]
  simp only [Option.bind_some]
  obtain ⟨b, c2, e2, hb, hc2⟩ := anyNum_ok hc1
  rw [e2]
  simp only [Option.bind_some]
  obtain ⟨r, c3, e3, hr, hc3⟩ := hash_ok hc2
  rw [e3]
  simp only [Option.bind_some]
  obtain ⟨w, c4, e4, w0, w1, hc4⟩ := below_ok hc3 (n := l.1) (by omega)
  rw [e4]
  simp only [Option.bind_some]
  obtain ⟨t, c5, e5, ht, hc5⟩ := hash_ok hc4
  rw [e5]
  exact ⟨_, _, rfl, ⟨⟨hl, ha, hb, hr.len, ht.len, w0, w1⟩, ⟨by show r.length < _; have := hr.len; omega, hr.bytes⟩, ⟨by show t.length < _; have := ht.len; omega, ht.bytes⟩⟩, hc5⟩
theorem wrap_byte (x : Int) : 0 ≤ IntKind.wrap .u8 x ∧ IntKind.wrap .u8 x ≤ 255 := by rw [wrap_u8_mod]; omega
theorem bits_draw {n : Int} (h0 : 1 ≤ n) (h1 : n ≤ 10) : ∀ (z : Nat) (i : Int) (b : List Int) (c : Dl01Cur), i + z = n → 0 ≤ i → len b = bitsSize n → Bytes b → CurOk c → ∃ b' c', Y (fun k => sl02Draw_l0 k c n b i) (c', b') ∧ len b' = bitsSize n ∧ Bytes b' ∧ CurOk c' := by
  intro z
  induction z with
  | zero =>
    intro i b c hi h0 hl hb hc
    refine ⟨b, c, Y.step ?_, hl, hb, hc⟩
    simp only [sl02Draw_l0]
    rw [decide_eq_false (show ¬ i < n by omega)]
    exact Y.pure _
  | succ z ih =>
    intro i b c hi hi0 hl hb hc
    obtain ⟨v, c1, e1, hc1⟩ := once_ok hc (n := 3) (by omega)
    have hi1 : ad .i64 i 1 = i + 1 := ad_ok (by omega) (by omega)
    cases v with
    | true =>
      obtain ⟨b', c', hy, r1, r2, r3⟩ := ih (i + 1) b c1 (by omega) (by omega) hl hb hc1
      refine ⟨b', c', Y.step ?_, r1, r2, r3⟩
      simp only [sl02Draw_l0]
      rw [decide_eq_true (show i < n by omega), e1]
      simp only [cond_true, Option.bind_some, Bool.not_true, cond_false, hi1]
      exact hy
    | false =>
      have hq : qu .i64 i 8 = i / 8 := qu_ok (by omega) (by omega) (by omega)
      have hr : re i 8 = i % 8 := re_ok (by omega)
      have hlt : i / 8 < len b := by rw [hl]; unfold bitsSize; rw [if_neg (by omega)]; omega
      obtain ⟨b', c', hy, r1, r2, r3⟩ := ih (i + 1) (b.set (i / 8).toNat (io .u8 (b[(i / 8).toNat]'(by unfold len at hlt; omega)) (sl .u8 1 (i % 8)))) c1 (by omega) (by omega) (by unfold len at hl ⊢; rw [List.length_set]; exact hl) (hb.set _ (wrap_byte _).1 (wrap_byte _).2) hc1
      refine ⟨b', c', Y.step ?_, r1, r2, r3⟩
      simp only [sl02Draw_l0]
      rw [decide_eq_true (show i < n by omega), e1]
      simp only [cond_true, Option.bind_some, Bool.not_false, hi1, hq, hr]
      rw [rd_ok (by omega) hlt, decide_eq_false (show ¬ i % 8 < 0 by omega)]
      simp only [cond_false, Option.bind_some]
      rw [st_ok (by omega) hlt]
      exact hy
theorem bits_ok {n : Int} (h0 : 1 ≤ n) (h1 : n ≤ 10) {c : Dl01Cur} (h : CurOk c) : Dr (fun k => sl02Draw k c n) fun b => b.length ≤ 2 ∧ Bytes b := by
  have hs := bitsSize_small (within_iff.2 ⟨h0, h1⟩)
  obtain ⟨b', c', hy, r1, r2, r3⟩ := bits_draw h0 h1 n.toNat 0 (zeroB n) c (by omega) (by omega) (by unfold len zeroB; rw [List.length_replicate]; omega) (zero_bytes n) h
  refine ⟨b', c', ?_, ⟨by unfold len at r1; omega, r2⟩, r3⟩
  unfold sl02Draw
  rw [sBitsNew_eq h0 h1]
  simp only [Option.bind_some]
  exact Y.bind hy (Y.pure _)
theorem tags_draw {q : DQc} : ∀ (z : Nat) (ts : List (List Int)) (c : Dl01Cur), ts.length + z < 1000 → (∀ x ∈ ts, Root x) → CurOk c → ∃ ts' c', Y (fun k => sl12Draw_l0 k c (0, 0, [], [], [], ()) (q.1, q.2.1, q.2.2.1, q.2.2.2.1, ts, ()) z) (c', (0, 0, [], [], [], ()), (q.1, q.2.1, q.2.2.1, q.2.2.2.1, ts', ())) ∧ ts'.length < 1000 ∧ (∀ x ∈ ts', Root x) ∧ CurOk c' := by
  intro z
  induction z with
  | zero =>
    intro ts c hl ht hc
    refine ⟨ts, c, Y.step ?_, by omega, ht, hc⟩
    simp only [sl12Draw_l0]
    exact Y.pure _
  | succ z ih =>
    intro ts c hl ht hc
    obtain ⟨r, c1, e1, hr, hc1⟩ := hash_ok hc
    obtain ⟨ts', c', hy, r1, r2, r3⟩ := ih (ts ++ [r]) c1 (by simp only [List.length_append, List.length_cons, List.length_nil]; omega) (fun x hx => by
      rcases List.mem_append.1 hx with hx | hx
      · exact ht x hx
      · simp only [List.mem_cons, List.not_mem_nil, or_false] at hx
        rw [hx]
        exact hr) hc1
    refine ⟨ts', c', Y.step ?_, r1, r2, r3⟩
    simp only [sl12Draw_l0]
    rw [decide_eq_true (show ((z + 1 : Nat) : Int) > 0 by omega), e1]
    simp only [cond_true, Option.bind_some]
    rw [app_ok (by simp only [List.length_cons, List.length_nil]; omega), su_ok (by omega) (by omega), show ((z + 1 : Nat) : Int) - 1 = (z : Int) by omega]
    exact hy
theorem qc_ok {l : DLimits} (hl : limitsOk l = true) {c : Dl01Cur} (h : CurOk c) : Dr (fun k => sl12Draw k c l) fitQc := by
  have hn := limitsOk_N hl
  unfold sl12Draw
  obtain ⟨a, c1, e1, ha, hc1⟩ := anyNum_ok h
  rw [e1]
  simp only [Option.bind_some]
  obtain ⟨b, c2, e2, hb, hc2⟩ := anyNum_ok hc1
  rw [e2]
  simp only [Option.bind_some]
  obtain ⟨r, c3, e3, hr, hc3⟩ := hash_ok hc2
  rw [e3]
  simp only [Option.bind_some]
  obtain ⟨bits, c4, hy4, hbits, hc4⟩ := bits_ok hn.1 hn.2 hc3
  have hbn := bitsN_len bits
  obtain ⟨ts, c5, hy5, t1, t2, hc5⟩ := tags_draw (q := (a, b, r, bits, [], ())) (bitsN bits).length [] c4 (by simp; omega) (fun x hx => absurd hx (List.not_mem_nil)) hc4
  refine ⟨(a, b, r, bits, ts, ()), c5, Y.bind hy4 (Y.bind (sBitsCount_Y (b := bits) hbits.2 (by omega)) (Y.bind hy5 (Y.pure _))), ?_, hc5⟩
  exact ⟨by show r.length < _; have := hr.len; omega, by show bits.length < 1000000000; have := hbits.1; omega, by show ts.length < _; omega, fun x hx => ⟨by have := (t2 x hx).len; omega, (t2 x hx).bytes⟩, hr.bytes, hbits.2⟩
theorem fitQc_with {q : DQc} (h : fitQc q) {b : List Int} (hb : b.length < 1000000000) (hbb : Bytes b) (v w : Int) : fitQc (v, w, b, q.2.2.2) := ⟨hb, h.2.1, h.2.2.1, h.2.2.2.1, hbb, h.2.2.2.2.2⟩
theorem head_ok {l : DLimits} (hl : limitsOk l = true) {c : Dl01Cur} (h : CurOk c) : Dr (fun k => sl13Draw k c l) fun x => fitHead x ∧ 0 ≤ x.1 ∧ x.1 ≤ 300 ∧ 0 ≤ x.2.1 ∧ x.2.1 ≤ 300 := by
  have hn := limitsOk_N hl
  unfold sl13Draw
  obtain ⟨a, c1, e1, a0, a1, hc1⟩ := below_ok h (n := 200) (by omega)
  rw [e1]
  simp only [Option.bind_some]
  obtain ⟨b, c2, e2, b0, b1, hc2⟩ := below_ok hc1 (n := 200) (by omega)
  rw [e2]
  simp only [Option.bind_some]
  obtain ⟨w, c3, e3, w0, w1, hc3⟩ := below_ok hc2 (n := l.1) (by omega)
  rw [e3]
  simp only [Option.bind_some]
  obtain ⟨r, c4, e4, hr, hc4⟩ := hash_ok hc3
  rw [e4]
  simp only [Option.bind_some]
  obtain ⟨s, c5, e5, hs, hc5⟩ := hash_ok hc4
  rw [e5]
  simp only [Option.bind_some]
  obtain ⟨q, c6, hy, hq, hc6⟩ := qc_ok hl hc5
  have e7 : ad .i64 2 a = 2 + a := ad_ok (by omega) (by omega)
  have e8 : ad .i64 1 b = 1 + b := ad_ok (by omega) (by omega)
  obtain ⟨v, c7, e9, v0, v1, hc7⟩ := below_ok hc6 (n := 2 + a) (by omega)
  refine ⟨(ad .i64 2 a, ad .i64 1 b, w, r, s, (v, su .i64 (ad .i64 1 b) 1, r, q.2.2.2), ()), c7, Y.bind hy ?_, ?_, hc7⟩
  · simp only [e7, e9, Option.bind_some]
    rw [sl01Copy_eq (by have := hr.len; omega)]
    exact Y.pure _
  · refine ⟨⟨by show r.length < _; have := hr.len; omega, by show s.length < _; have := hs.len; omega, hr.bytes, hs.bytes, fitQc_with hq (by have := hr.len; omega) hr.bytes _ _⟩, ?_⟩
    show 0 ≤ ad .i64 2 a ∧ ad .i64 2 a ≤ 300 ∧ 0 ≤ ad .i64 1 b ∧ ad .i64 1 b ≤ 300
    omega
theorem bytes_draw : ∀ (z : Nat) (b : List Int) (c : Dl01Cur), b.length + z < 1000000 → Bytes b → CurOk c → ∃ b' c', Y (fun k => sl01Bytes_l0 k c b z) (c', b') ∧ b'.length = b.length + z ∧ Bytes b' ∧ CurOk c' := by
  intro z
  induction z with
  | zero =>
    intro b c hl hb hc
    refine ⟨b, c, Y.step ?_, rfl, hb, hc⟩
    simp only [sl01Bytes_l0]
    exact Y.pure _
  | succ z ih =>
    intro b c hl hb hc
    obtain ⟨v, c1, e1, v0, v1, hc1⟩ := byte_ok hc
    obtain ⟨b', c', hy, r1, r2, r3⟩ := ih (b ++ [cv .u8 v]) c1 (by simp only [List.length_append, List.length_cons, List.length_nil]; omega) (Bytes.append hb (Bytes.cons (cv_byte v).1 (cv_byte v).2 Bytes.nil)) hc1
    refine ⟨b', c', Y.step ?_, by rw [r1]; simp only [List.length_append, List.length_cons, List.length_nil]; omega, r2, r3⟩
    simp only [sl01Bytes_l0]
    rw [decide_eq_true (show ((z + 1 : Nat) : Int) > 0 by omega), e1]
    simp only [cond_true, Option.bind_some]
    rw [app_ok (by simp only [List.length_cons, List.length_nil]; omega), su_ok (by omega) (by omega), show ((z + 1 : Nat) : Int) - 1 = (z : Int) by omega]
    exact hy
theorem bytes_ok {most : Int} (h0 : 0 ≤ most) (h1 : most ≤ 1000) {c : Dl01Cur} (h : CurOk c) : Dr (fun k => sl01Bytes k c most) fun b => (b.length : Int) ≤ most ∧ Bytes b := by
  unfold sl01Bytes
  rw [ad_ok (by omega) (by omega)]
  obtain ⟨a, c1, e1, a0, a1, hc1⟩ := below_ok h (n := most + 1) (by omega)
  rw [e1]
  simp only [Option.bind_some]
  obtain ⟨b', c', hy, r1, r2, r3⟩ := bytes_draw a.toNat [] c1 (by simp; omega) Bytes.nil hc1
  rw [show ((a.toNat : Nat) : Int) = a by omega] at hy
  exact ⟨b', c', Y.bind hy (Y.pure _), ⟨by rw [r1]; simp; omega, r2⟩, r3⟩
theorem txs_draw {l : DLimits} (hl : limitsOk l = true) : ∀ (z : Nat) (ts : List (List Int)) (c : Dl01Cur), ts.length + z < 1000 → (∀ x ∈ ts, x.length ≤ 6 ∧ Bytes x) → CurOk c → ∃ ts' c', Y (fun k => sl14Txs_l0 k c l ts z) (c', ts') ∧ ts'.length < 1000 ∧ (∀ x ∈ ts', x.length ≤ 6 ∧ Bytes x) ∧ CurOk c' := by
  have ht := limitsOk_txs hl
  intro z
  induction z with
  | zero =>
    intro ts c hl ht hc
    refine ⟨ts, c, Y.step ?_, by omega, ht, hc⟩
    simp only [sl14Txs_l0]
    exact Y.pure _
  | succ z ih =>
    intro ts c hl hts hc
    have key : ∀ most : Int, 0 ≤ most → most ≤ 6 → ∃ ts' c', Y (fun k => (sl01Bytes k c most).bind fun v_2 => (app ts [v_2.1]).bind fun v_3 => sl14Txs_l0 k v_2.2 l v_3 (z : Int)) (c', ts') ∧ ts'.length < 1000 ∧ (∀ x ∈ ts', x.length ≤ 6 ∧ Bytes x) ∧ CurOk c' := by
      intro most m0 m1
      obtain ⟨b, c1, hy1, hb, hc1⟩ := bytes_ok m0 (by omega) hc
      obtain ⟨ts', c', hy, r1, r2, r3⟩ := ih (ts ++ [b]) c1 (by simp only [List.length_append, List.length_cons, List.length_nil]; omega) (fun x hx => by
        rcases List.mem_append.1 hx with hx | hx
        · exact hts x hx
        · simp only [List.mem_cons, List.not_mem_nil, or_false] at hx
          rw [hx]
          exact ⟨by omega, hb.2⟩) hc1
      refine ⟨ts', c', Y.bind hy1 ?_, r1, r2, r3⟩
      rw [app_ok (by simp only [List.length_cons, List.length_nil]; omega)]
      exact hy
    by_cases h6 : l.2.1 > 6
    · obtain ⟨ts', c', hy, r⟩ := key 6 (by omega) (by omega)
      refine ⟨ts', c', Y.step ?_, r⟩
      simp only [sl14Txs_l0]
      rw [decide_eq_true (show ((z + 1 : Nat) : Int) > 0 by omega), decide_eq_true h6, su_ok (by omega) (by omega), show ((z + 1 : Nat) : Int) - 1 = (z : Int) by omega]
      exact hy
    · obtain ⟨ts', c', hy, r⟩ := key l.2.1 (by omega) (by omega)
      refine ⟨ts', c', Y.step ?_, r⟩
      simp only [sl14Txs_l0]
      rw [decide_eq_true (show ((z + 1 : Nat) : Int) > 0 by omega), decide_eq_false h6, su_ok (by omega) (by omega), show ((z + 1 : Nat) : Int) - 1 = (z : Int) by omega]
      exact hy
theorem root_len (l : List (List Int)) : (root l).length ≤ 32 := treeRoot_len _ _
theorem b0_fit : fitBlock b0 := ⟨h0_fit, by show 0 < _; omega, fun x hx => absurd hx (List.not_mem_nil)⟩
theorem block_ok {l : DLimits} (hl : limitsOk l = true) {c : Dl01Cur} (h : CurOk c) : Dr (fun k => sl14Draw k c l) fitBlock := by
  have ht := limitsOk_txs hl
  unfold sl14Draw
  obtain ⟨x, c1, hy1, hx, hc1⟩ := head_ok hl h
  have htx : Dr (fun k => sl14Txs k c1 l) fun ts => ts.length < 1000 ∧ ∀ x ∈ ts, x.length ≤ 6 ∧ Bytes x := by
    unfold sl14Txs
    rw [ad_ok (by omega) (by omega)]
    obtain ⟨a, c2, e2, a0, a1, hc2⟩ := below_ok hc1 (n := l.2.2.1 + 1) (by omega)
    rw [e2]
    simp only [Option.bind_some]
    obtain ⟨ts, c3, hy, r1, r2, r3⟩ := txs_draw hl a.toNat [] c2 (by simp; omega) (fun x hx => absurd hx (List.not_mem_nil)) hc2
    rw [show ((a.toNat : Nat) : Int) = a by omega] at hy
    exact ⟨ts, c3, Y.bind hy (Y.pure _), ⟨r1, r2⟩, r3⟩
  obtain ⟨ts, c2, hy2, hts, hc2⟩ := htx
  have hok : okL ts := ⟨by omega, fun x hx => ⟨by have := (hts.2 x hx).1; omega, (hts.2 x hx).2⟩⟩
  have hf := hx.1
  have hrl := root_len ts
  have hnew : fitBlock ((x.1, x.2.1, x.2.2.1, x.2.2.2.1, root ts, x.2.2.2.2.2), ts, ()) := ⟨⟨hf.1, by show (root ts).length < _; omega, hf.2.2.1, treeRoot_bytes _ _, hf.2.2.2.2⟩, hok⟩
  have hof : ∃ b, fitBlock b.1 ∧ Y (fun k => sBlockOf k l x ts) b := by
    unfold sBlockOf
    refine ⟨cond (blockOk l ((x.1, x.2.1, x.2.2.1, x.2.2.2.1, root ts, x.2.2.2.2.2), ts, ())) (((x.1, x.2.1, x.2.2.1, x.2.2.2.1, root ts, x.2.2.2.2.2), ts, ()), true) (b0, false), ?_, ?_⟩
    · cases blockOk l ((x.1, x.2.1, x.2.2.1, x.2.2.2.1, root ts, x.2.2.2.2.2), ts, ())
      · exact b0_fit
      · exact hnew
    · refine Y.bind (sl13Copy_Y hf) (Y.bind (sl06Copy_Y hok.fit) (Y.bind (sRoot_Y hok) (Y.bind (sBlockOk_Y hnew) ?_)))
      cases blockOk l ((x.1, x.2.1, x.2.2.1, x.2.2.2.1, root ts, x.2.2.2.2.2), ts, ()) <;> exact Y.pure _
  obtain ⟨b, hb, hyb⟩ := hof
  exact ⟨b.1, c2, Y.bind hy1 (Y.bind hy2 (Y.bind hyb (Y.pure _))), hb, hc2⟩
theorem tc_draw {l : DLimits} (hl : limitsOk l = true) {v : Int} (hv : 0 < v) : ∀ (z : Nat) (i : Int) (es : List DEntry) (c : Dl01Cur), i + z = l.1 → 0 ≤ i → len es ≤ i → (∀ e ∈ es, e.2.2.1.length < 1000000000 ∧ Bytes e.2.2.1) → CurOk c → ∃ es' c', Y (fun k => sl15Draw_l0 k c l (0, [], ()) (v, es, ()) i) (c', (0, [], ()), (v, es', ())) ∧ es'.length < 1000 ∧ (∀ e ∈ es', e.2.2.1.length < 1000000000 ∧ Bytes e.2.2.1) ∧ CurOk c' := by
  have hn := limitsOk_N hl
  intro z
  induction z with
  | zero =>
    intro i es c hi h0 hlen he hc
    refine ⟨es, c, Y.step ?_, by unfold len at hlen; omega, he, hc⟩
    simp only [sl15Draw_l0]
    rw [decide_eq_false (show ¬ i < l.1 by omega)]
    exact Y.pure _
  | succ z ih =>
    intro i es c hi h0 hlen he hc
    obtain ⟨o, c1, e1, hc1⟩ := once_ok hc (n := 3) (by omega)
    have hi1 : ad .i64 i 1 = i + 1 := ad_ok (by omega) (by omega)
    cases o with
    | true =>
      obtain ⟨es', c', hy, r⟩ := ih (i + 1) es c1 (by omega) (by omega) (by omega) he hc1
      refine ⟨es', c', Y.step ?_, r⟩
      simp only [sl15Draw_l0]
      rw [decide_eq_true (show i < l.1 by omega), e1]
      simp only [cond_true, Option.bind_some, Bool.not_true, cond_false, hi1]
      exact hy
    | false =>
      obtain ⟨w, c2, e2, w0, w1, hc2⟩ := below_ok hc1 hv
      obtain ⟨r, c3, e3, hr, hc3⟩ := hash_ok hc2
      obtain ⟨es', c', hy, rr⟩ := ih (i + 1) (es ++ [(i, w, r, ())]) c3 (by omega) (by omega) (by rw [len_append]; show len es + 1 ≤ _; omega) (fun e hx => by
        rcases List.mem_append.1 hx with hx | hx
        · exact he e hx
        · simp only [List.mem_cons, List.not_mem_nil, or_false] at hx
          rw [hx]
          exact ⟨by show r.length < _; have := hr.len; omega, hr.bytes⟩) hc3
      refine ⟨es', c', Y.step ?_, rr⟩
      simp only [sl15Draw_l0]
      rw [decide_eq_true (show i < l.1 by omega), e1]
      simp only [cond_true, Option.bind_some, Bool.not_false, hi1, e2, e3]
      rw [app_ok (by simp only [List.length_cons, List.length_nil]; unfold len at hlen; omega)]
      exact hy
theorem tc_ok {l : DLimits} (hl : limitsOk l = true) {c : Dl01Cur} (h : CurOk c) : Dr (fun k => sl15Draw k c l) fitTc := by
  have hn := limitsOk_N hl
  unfold sl15Draw
  obtain ⟨a, c1, e1, a0, a1, hc1⟩ := below_ok h (n := 200) (by omega)
  rw [e1, ]
  simp only [Option.bind_some]
  rw [ad_ok (by omega) (by omega)]
  obtain ⟨es, c2, hy, r1, r2, r3⟩ := tc_draw hl (v := 1 + a) (by omega) l.1.toNat 0 [] c1 (by omega) (by omega) (by show (0 : Int) ≤ 0; omega) (fun x hx => absurd hx (List.not_mem_nil)) hc1
  exact ⟨(1 + a, es, ()), c2, Y.bind hy (Y.pure _), ⟨by show es.length < _; omega, r2⟩, r3⟩
theorem chain_draw {l : DLimits} (hl : limitsOk l = true) {n : Int} (hN : n ≤ 10) : ∀ (z : Nat) (hs : List DHead) (c : Dl01Cur), len hs + z = n → 0 < hs.length → (∀ h ∈ hs, fitHead h ∧ 0 ≤ h.1 ∧ h.1 + 10 * z ≤ 1000 ∧ 0 ≤ h.2.1 ∧ h.2.1 + 10 * z ≤ 1000) → CurOk c → ∃ hs' c', Y (fun k => sl13Chain_l0 k c n l hs) (c', hs') ∧ len hs' = n ∧ (∀ h ∈ hs', fitHead h) ∧ CurOk c' := by
  intro z
  induction z with
  | zero =>
    intro hs c hi hp hh hc
    refine ⟨hs, c, Y.step ?_, by omega, fun h hx => (hh h hx).1, hc⟩
    simp only [sl13Chain_l0]
    rw [decide_eq_false (show ¬ len hs < n by omega)]
    exact Y.pure _
  | succ z ih =>
    intro hs c hi hp hh hc
    have hlast : rd hs (su .i64 (len hs) 1) = some (hs[hs.length - 1]'(by omega)) := by
      rw [su_ok (by unfold len; omega) (by unfold len at hi ⊢; omega), show len hs - 1 = ((hs.length - 1 : Nat) : Int) by unfold len; omega, rd_nat (by omega)]
    have ha := hh _ (List.getElem_mem (show hs.length - 1 < hs.length by omega))
    generalize hs[hs.length - 1]'(by omega) = a at hlast ha
    obtain ⟨x, c1, hy1, hx, hc1⟩ := head_ok hl hc
    obtain ⟨b, c2, e2, b0, b1, hc2⟩ := below_ok hc1 (n := 6) (by omega)
    have hls : (hs.length : Int) + (z + 1 : Nat) = n := hi
    have q5 : qu .i64 b 5 = b / 5 := qu_ok (by omega) (by omega) (by omega)
    have v1 : ad .i64 a.1 1 = a.1 + 1 := ad_ok (by omega) (by omega)
    have v2 : ad .i64 (a.1 + 1) (b / 5) = a.1 + 1 + b / 5 := ad_ok (by omega) (by omega)
    have v3 : ad .i64 a.2.1 1 = a.2.1 + 1 := ad_ok (by omega) (by omega)
    have hhl : (headHash l a).length ≤ 32 := by
      unfold headHash
      cases headOk l a
      · exact Nat.zero_le _
      · exact Nat.le_of_eq (sha_length _)
    have hhb := headHash_bytes l a
    have hf := hx.1
    obtain ⟨hs', c', hy, r⟩ := ih (hs ++ [(a.1 + 1 + b / 5, a.2.1 + 1, x.2.2.1, headHash l a, x.2.2.2.2.1, (a.1, a.2.1, headHash l a, x.2.2.2.2.2.1.2.2.2), x.2.2.2.2.2.2)]) c2 (by rw [len_append]; show len hs + 1 + _ = n; omega) (by simp) (fun h hx' => by
      rcases List.mem_append.1 hx' with hx' | hx'
      · have := hh h hx'
        exact ⟨this.1, by omega⟩
      · simp only [List.mem_cons, List.not_mem_nil, or_false] at hx'
        rw [hx']
        refine ⟨⟨by show (headHash l a).length < _; omega, hf.2.1, hhb, hf.2.2.2.1, fitQc_with hf.2.2.2.2 (by omega) hhb _ _⟩, ?_⟩
        show 0 ≤ a.1 + 1 + b / 5 ∧ a.1 + 1 + b / 5 + 10 * z ≤ 1000 ∧ 0 ≤ a.2.1 + 1 ∧ a.2.1 + 1 + 10 * z ≤ 1000
        omega) hc2
    refine ⟨hs', c', Y.step ?_, r⟩
    simp only [sl13Chain_l0]
    rw [decide_eq_true (show len hs < n by omega), hlast]
    simp only [cond_true, Option.bind_some]
    refine Y.bind hy1 ?_
    simp only [e2, Option.bind_some]
    refine Y.bind (sHeadHash_Y ha.1) ?_
    rw [sl01Copy_eq (by omega)]
    simp only [Option.bind_some, q5, v1, v2, v3]
    rw [app_ok (by simp only [List.length_cons, List.length_nil]; omega)]
    exact hy
theorem proof_ok {l : DLimits} (hl : limitsOk l = true) {c : Dl01Cur} (h : CurOk c) : Dr (fun k => sl16Draw k c l) fitProof := by
  have h3 := limitsOk_chain hl
  unfold sl16Draw
  rw [su_ok (by omega) (by omega)]
  obtain ⟨a, c1, e1, a0, a1, hc1⟩ := below_ok h (n := l.2.2.2.2.1 - 2) (by omega)
  rw [e1]
  simp only [Option.bind_some]
  rw [ad_ok (by omega) (by omega)]
  obtain ⟨x, c2, hy2, hx, hc2⟩ := head_ok hl hc1
  obtain ⟨hs, c3, hy3, r1, r2, hc3⟩ := chain_draw hl (n := 3 + a) (by omega) (2 + a).toNat [x] c2 (by show (1 : Int) + _ = _; omega) (by simp) (fun h hh => by
    simp only [List.mem_cons, List.not_mem_nil, or_false] at hh
    rw [hh]
    exact ⟨hx.1, by omega⟩) hc2
  obtain ⟨q, c4, hy4, hq, hc4⟩ := qc_ok hl hc3
  have hlen : hs.length = (3 + a).toNat := by unfold len at r1; omega
  have hlast : rd hs (su .i64 (len hs) 1) = some (hs[hs.length - 1]'(by omega)) := by
    rw [su_ok (by unfold len; omega) (by unfold len; omega), show len hs - 1 = ((hs.length - 1 : Nat) : Int) by unfold len; omega, rd_nat (by omega)]
  have ha := r2 _ (List.getElem_mem (show hs.length - 1 < hs.length by omega))
  generalize hs[hs.length - 1]'(by omega) = b at hlast ha
  have hhl : (headHash l b).length ≤ 32 := by
    unfold headHash
    cases headOk l b
    · exact Nat.zero_le _
    · exact Nat.le_of_eq (sha_length _)
  refine ⟨(hs, (b.1, b.2.1, headHash l b, q.2.2.2), ()), c4, ?_, ⟨⟨by show hs.length < _; omega, r2⟩, fitQc_with hq (by omega) (headHash_bytes l b) _ _⟩, hc4⟩
  refine Y.bind (a := (hs, c3)) ?_ ?_
  · unfold sl13Chain
    exact Y.bind hy2 (Y.bind hy3 (Y.pure _))
  · refine Y.bind hy4 ?_
    rw [hlast]
    simp only [Option.bind_some]
    exact Y.bind (sHeadHash_Y ha) (Y.pure _)
theorem some_draw {x : DIncl} : ∀ (z : Nat) (ts : List (List Int)) (c : Dl01Cur), ts.length + z < 2000000 → (∀ t ∈ ts, Root t) → CurOk c → ∃ ts' c', Y (fun k => sl16Some_l0 k c (0, 0, 0, [], [], ()) (x.1, x.2.1, x.2.2.1, x.2.2.2.1, ts, ()) z) (c', (0, 0, 0, [], [], ()), (x.1, x.2.1, x.2.2.1, x.2.2.2.1, ts', ())) ∧ ts'.length < 2000000 ∧ (∀ t ∈ ts', Root t) ∧ CurOk c' := by
  intro z
  induction z with
  | zero =>
    intro ts c hl ht hc
    refine ⟨ts, c, Y.step ?_, by omega, ht, hc⟩
    simp only [sl16Some_l0]
    exact Y.pure _
  | succ z ih =>
    intro ts c hl ht hc
    obtain ⟨r, c1, e1, hr, hc1⟩ := hash_ok hc
    obtain ⟨ts', c', hy, rr⟩ := ih (ts ++ [r]) c1 (by simp only [List.length_append, List.length_cons, List.length_nil]; omega) (fun t hx => by
      rcases List.mem_append.1 hx with hx | hx
      · exact ht t hx
      · simp only [List.mem_cons, List.not_mem_nil, or_false] at hx
        rw [hx]
        exact hr) hc1
    refine ⟨ts', c', Y.step ?_, rr⟩
    simp only [sl16Some_l0]
    rw [decide_eq_true (show ((z + 1 : Nat) : Int) > 0 by omega), e1]
    simp only [cond_true, Option.bind_some]
    rw [app_ok (by simp only [List.length_cons, List.length_nil]; omega), su_ok (by omega) (by omega), show ((z + 1 : Nat) : Int) - 1 = (z : Int) by omega]
    exact hy
theorem incl_ok {l : DLimits} (hl : limitsOk l = true) {c : Dl01Cur} (h : CurOk c) : Dr (fun k => sl16Some k c l) fitIncl := by
  have ht := limitsOk_txs hl
  unfold sl16Some
  obtain ⟨a, c1, e1, a0, a1, hc1⟩ := below_ok h (n := 8) (by omega)
  rw [e1]
  simp only [Option.bind_some]
  have key : ∀ (n hh : Int) (c : Dl01Cur), 1 ≤ n → n ≤ 8 → CurOk c → Dr (fun k => (sl01Below c n).bind fun v_4 => (sl01Bytes k v_4.2 3).bind fun v_5 => cond (decide (l.2.1 < 3)) ((sPathLen k v_4.1 n).bind fun v_6 => (sl16Some_l0 k v_5.2 (0, 0, 0, [], [], ()) (hh, n, v_4.1, [], [], ()) v_6).bind fun v_9 => some (v_9.2.2, v_9.1)) ((sPathLen k v_4.1 n).bind fun v_10 => (sl16Some_l0 k v_5.2 (0, 0, 0, [], [], ()) (hh, n, v_4.1, v_5.1, [], ()) v_10).bind fun v_11 => some (v_11.2.2, v_11.1))) fitIncl := by
    intro n hh c n0 n1 hc
    obtain ⟨b, c2, e2, b0, b1, hc2⟩ := below_ok hc (n := n) (by omega)
    obtain ⟨t, c3, hy3, htx, hc3⟩ := bytes_ok (most := 3) (by omega) (by omega) hc2
    have hpl := pathLen_le (i := b) (n := n) (by omega)
    have run : ∀ tx : List Int, tx.length ≤ 3 → Bytes tx → Dr (fun k => (sPathLen k b n).bind fun v_6 => (sl16Some_l0 k c3 (0, 0, 0, [], [], ()) (hh, n, b, tx, [], ()) v_6).bind fun v_9 => some (v_9.2.2, v_9.1)) fitIncl := by
      intro tx h1 h2
      obtain ⟨ts, c4, hy4, r1, r2, hc4⟩ := some_draw (x := (hh, n, b, tx, [], ())) (pathLen b n).toNat [] c3 (by simp; omega) (fun x hx => absurd hx (List.not_mem_nil)) hc3
      rw [show (((pathLen b n).toNat : Nat) : Int) = pathLen b n by omega] at hy4
      refine ⟨(hh, n, b, tx, ts, ()), c4, Y.bind (sPathLen_Y b0 b1 (by omega)) (Y.bind hy4 (Y.pure _)), ⟨⟨by show tx.length < _; omega, h2⟩, by show ts.length < _; omega, fun x hx => ⟨by have := (r2 x hx).len; omega, (r2 x hx).bytes⟩⟩, hc4⟩
    simp only [e2, Option.bind_some]
    by_cases h3 : l.2.1 < 3
    · obtain ⟨x, c4, hy, hx⟩ := run [] (by simp) Bytes.nil
      refine ⟨x, c4, Y.bind hy3 ?_, hx⟩
      rw [decide_eq_true h3]
      exact hy
    · obtain ⟨x, c4, hy, hx⟩ := run t (by omega) htx.2
      refine ⟨x, c4, Y.bind hy3 ?_, hx⟩
      rw [decide_eq_false h3]
      exact hy
  by_cases h0 : l.2.2.1 > 0
  · rw [decide_eq_true h0]
    obtain ⟨b, c2, e2, b0, b1, hc2⟩ := below_ok hc1 (n := l.2.2.1) (by omega)
    simp only [cond_true, e2, Option.bind_some]
    obtain ⟨d, c3, e3, d0, d1, hc3⟩ := below_ok hc2 (n := 200) (by omega)
    simp only [e3, Option.bind_some]
    rw [ad_ok (by omega) (by omega)]
    exact key (1 + b) d c3 (by omega) (by omega) hc3
  · rw [decide_eq_false h0]
    simp only [cond_false]
    obtain ⟨d, c3, e3, d0, d1, hc3⟩ := below_ok hc1 (n := 200) (by omega)
    simp only [e3, Option.bind_some]
    rw [ad_ok (by omega) (by omega)]
    exact key (1 + a) d c3 (by omega) (by omega) hc3
theorem v0_fit : fitVote v0 := ⟨⟨by show 0 < _; omega, Bytes.nil⟩, ⟨by show 0 < _; omega, Bytes.nil⟩⟩
theorem t0_fit : fitTc t0 := ⟨by show 0 < _; omega, fun x hx => absurd hx (List.not_mem_nil)⟩
theorem p0_fit : fitProof p0 := ⟨⟨by show 0 < _; omega, fun x hx => absurd hx (List.not_mem_nil)⟩, q0_fit⟩
theorem i0_fit : fitIncl i0 := ⟨⟨by show 0 < _; omega, Bytes.nil⟩, by show 0 < _; omega, fun x hx => absurd hx (List.not_mem_nil)⟩
theorem msg_ok {l : DLimits} (hl : limitsOk l = true) {c : Dl01Cur} (h : CurOk c) : Dr (fun k => sl17Draw k c l) FitMsg := by
  unfold sl17Draw
  obtain ⟨a, c1, e1, a0, a1, hc1⟩ := below_ok h (n := 9) (by omega)
  rw [e1]
  simp only [Option.bind_some]
  have hv : Dr (fun _ => (sl11Draw c1 l).bind fun v_16 => (sOfVote v_16.1).bind fun v_17 => some (v_17, v_16.2)) FitMsg := by
    obtain ⟨v, c2, e2, hv, hc2⟩ := vote_ok hl hc1
    refine ⟨(1, v, q0, h0, b0, t0, p0, i0, ()), c2, ?_, ⟨hv.2, q0_fit, h0_fit, b0_fit, t0_fit, p0_fit, i0_fit⟩, hc2⟩
    rw [e2]
    simp only [Option.bind_some]
    rw [sOfVote_eq hv.2]
    exact Y.pure _
  cases a == 0 with
  | true =>
    obtain ⟨x, c2, hy, hx, hc2⟩ := qc_ok hl hc1
    exact ⟨_, c2, Y.bind hy (Y.bind (sOfQc_Y hx) (Y.pure _)), ⟨v0_fit, hx, h0_fit, b0_fit, t0_fit, p0_fit, i0_fit⟩, hc2⟩
  | false =>
  cases a == 1 with
  | true =>
    obtain ⟨x, c2, hy, hx, hc2⟩ := head_ok hl hc1
    exact ⟨_, c2, Y.bind hy (Y.bind (sOfHead_Y hx.1) (Y.pure _)), ⟨v0_fit, q0_fit, hx.1, b0_fit, t0_fit, p0_fit, i0_fit⟩, hc2⟩
  | false =>
  cases a == 2 with
  | true =>
    obtain ⟨x, c2, hy, hx, hc2⟩ := block_ok hl hc1
    exact ⟨_, c2, Y.bind hy (Y.bind (sOfBlock_Y hx) (Y.pure _)), ⟨v0_fit, q0_fit, h0_fit, hx, t0_fit, p0_fit, i0_fit⟩, hc2⟩
  | false =>
  cases a == 3 with
  | true =>
    obtain ⟨x, c2, hy, hx, hc2⟩ := tc_ok hl hc1
    exact ⟨_, c2, Y.bind hy (Y.bind (sOfTc_Y hx) (Y.pure _)), ⟨v0_fit, q0_fit, h0_fit, b0_fit, hx, p0_fit, i0_fit⟩, hc2⟩
  | false =>
  cases a == 4 with
  | true =>
    obtain ⟨x, c2, hy, hx, hc2⟩ := proof_ok hl hc1
    exact ⟨_, c2, Y.bind hy (Y.bind (sOfProof_Y hx) (Y.pure _)), ⟨v0_fit, q0_fit, h0_fit, b0_fit, t0_fit, hx, i0_fit⟩, hc2⟩
  | false =>
  cases a == 5 with
  | true =>
    cases decide (l.2.2.1 > 0) with
    | true =>
      obtain ⟨x, c2, hy, hx, hc2⟩ := incl_ok hl hc1
      exact ⟨_, c2, Y.bind hy (Y.bind (sOfIncl_Y hx) (Y.pure _)), ⟨v0_fit, q0_fit, h0_fit, b0_fit, t0_fit, p0_fit, hx⟩, hc2⟩
    | false => exact hv
  | false => exact hv
theorem right_ok {l : DLimits} (hl : limitsOk l = true) {c : Dl01Cur} (h : CurOk c) : Dr (fun k => sl31Right k c l) fun m => FitMsg m ∧ msgOk l m = true := by
  unfold sl31Right
  obtain ⟨m, c1, hy, hm, hc1⟩ := msg_ok hl h
  cases ho : msgOk l m with
  | true =>
    refine ⟨m, c1, Y.bind hy (Y.bind (sMsgOk_Y hm) ?_), ⟨hm, ho⟩, hc1⟩
    rw [ho]
    exact Y.pure _
  | false =>
    obtain ⟨v, c2, e2, hv, hc2⟩ := vote_ok hl hc1
    refine ⟨(1, v, q0, h0, b0, t0, p0, i0, ()), c2, Y.bind hy (Y.bind (sMsgOk_Y hm) ?_), ⟨⟨hv.2, q0_fit, h0_fit, b0_fit, t0_fit, p0_fit, i0_fit⟩, ?_⟩, hc2⟩
    · rw [ho]
      simp only [Bool.not_false, cond_true, e2, Option.bind_some]
      rw [sOfVote_eq hv.2]
      exact Y.pure _
    · unfold msgOk
      rw [show pOk l (1, v, q0, h0, b0, t0, p0, i0, ()) = voteOk l v from rfl, voteOk_iff.2 hv.1, same_true (show ((1, v, q0, h0, b0, t0, p0, i0, ()) : DMsg) = only (1, v, q0, h0, b0, t0, p0, i0, ()) from rfl)]
      rfl
theorem makeLimits_ok {code : List Int} (hl : code.length < 1000000000) : ∃ l, Y (fun k => sMakeLimits k code) l ∧ limitsOk l = true ∧ l.2.2.2.1 = 4000 := by
  obtain ⟨c, hc, h1, h2, hy⟩ := new_ok hl
  obtain ⟨l, c1, e, hlim, _⟩ := limits_ok (c := (c.1, c.2.1, ad .i64 c.2.2.1 5, c.2.2.2)) hc
  refine ⟨(l.1, l.2.1, l.2.2.1, 4000, l.2.2.2.2), ?_, ?_, rfl⟩
  · unfold sMakeLimits
    refine Y.bind hy ?_
    rw [e]
    exact Y.pure _
  · simp only [limitsOk, Bool.and_eq_true, within_iff] at hlim ⊢
    omega
theorem makeMsg_ok {code : List Int} (hl : code.length < 1000000000) {l : DLimits} (hlim : limitsOk l = true) : ∃ m, Y (fun k => sMakeMsg k code l) m ∧ FitMsg m ∧ msgOk l m = true := by
  obtain ⟨c, hc, h1, h2, hy⟩ := new_ok hl
  obtain ⟨m, c1, hy1, hm, _⟩ := right_ok hlim hc
  refine ⟨m, ?_, hm⟩
  unfold sMakeMsg
  exact Y.bind hy (Y.bind hy1 (Y.pure _))
theorem makeNum_ok {code : List Int} (hl : code.length < 1000000000) {n : Int} (hn : 0 < n) : ∃ v, Y (fun k => sMakeNum k code n) v ∧ 0 ≤ v ∧ v < n := by
  obtain ⟨c, hc, h1, h2, hy⟩ := new_ok hl
  obtain ⟨v, c1, e, v0, v1, _⟩ := below_ok (c := (c.1, c.2.1, ad .i64 c.2.2.1 777, c.2.2.2)) hc hn
  refine ⟨v, ?_, v0, v1⟩
  unfold sMakeNum
  refine Y.bind hy ?_
  rw [e]
  exact Y.pure _
end Go.Ev.G
/- Reading: parsers of suffixes, and what the readers do. -/
namespace Go.Ev.G
open Go.Ev
abbrev Res (α : Type) := (α × List Int) ⊕ Int
def gBind {α β : Type} (g : List Int → Res α) (h : α → List Int → Res β) (s : List Int) : Res β := match g s with
  | .inl (x, r) => h x r
  | .inr c => .inr c
def gChk {α : Type} (p : Bool) (c : Int) (g : List Int → Res α) (s : List Int) : Res α := cond p (g s) (.inr c)
def gRet {α : Type} (x : α) (s : List Int) : Res α := .inl (x, s)
/-- What a parser says of the bytes: what is read was written so; what is written so is read; a part of it is too short. -/
structure PP {α : Type} (g : List Int → Res α) (enc : α → List Int) (V : α → Prop) : Prop where
  sound : ∀ s x r, Bytes s → g s = .inl (x, r) → V x ∧ s = enc x ++ r
  full : ∀ x r, V x → g (enc x ++ r) = .inl (x, r)
  short : ∀ x q t, V x → enc x = q ++ t → t ≠ [] → g q = .inr 1
theorem gBind_inl {α β : Type} {g : List Int → Res α} {h : α → List Int → Res β} {s : List Int} {y : β × List Int} (e : gBind g h s = .inl y) : ∃ x r, g s = .inl (x, r) ∧ h x r = .inl y := by
  unfold gBind at e
  cases hg : g s with
  | inl p => rw [hg] at e; exact ⟨p.1, p.2, rfl, e⟩
  | inr c => rw [hg] at e; cases e
theorem PP.bind {α γ : Type} {g1 : List Int → Res α} {g2 : α → List Int → Res γ} {enc1 : α → List Int} {V1 : α → Prop} {rest : γ → List Int} {W : γ → α → Prop} (π : γ → α) (hπ : ∀ z x, W z x → π z = x) (p1 : PP g1 enc1 V1) (p2 : ∀ x, V1 x → PP (g2 x) rest (fun z => W z x)) :
    PP (gBind g1 g2) (fun z => enc1 (π z) ++ rest z) (fun z => V1 (π z) ∧ W z (π z)) := by
  refine ⟨fun s z r hs e => ?_, fun z r hv => ?_, fun z q t hv he ht => ?_⟩
  · obtain ⟨x, r1, e1, e2⟩ := gBind_inl e
    obtain ⟨v1, h1⟩ := p1.sound s x r1 hs e1
    have hr1 : Bytes r1 := fun y hy => hs y (by rw [h1]; simp [hy])
    obtain ⟨w, h2⟩ := (p2 x v1).sound r1 z r hr1 e2
    have := hπ z x w
    subst this
    exact ⟨⟨v1, w⟩, by rw [h1, h2, List.append_assoc]⟩
  · unfold gBind
    rw [List.append_assoc, p1.full _ _ hv.1]
    exact (p2 _ hv.1).full z r hv.2
  · unfold gBind
    rcases List.append_eq_append_iff.1 he with ⟨q', hq, hr⟩ | ⟨t', hq, hr⟩
    · rw [hq, p1.full _ _ hv.1]
      exact (p2 _ hv.1).short z q' t hv.2 hr ht
    · by_cases h0 : t' = []
      · subst h0
        rw [List.append_nil] at hq
        rw [← hq, show enc1 (π z) = enc1 (π z) ++ [] by simp, p1.full _ _ hv.1]
        exact (p2 _ hv.1).short z [] t hv.2 (by rw [hr]; simp) ht
      · rw [p1.short _ q t' hv.1 hq h0]
theorem PP.congr {α : Type} {g : List Int → Res α} {enc enc' : α → List Int} {V V' : α → Prop} (p : PP g enc V) (hV : ∀ x, V' x ↔ V x) (he : ∀ x, V' x → enc' x = enc x) : PP g enc' V' :=
  ⟨fun s x r hs e => by
    obtain ⟨v, h⟩ := p.sound s x r hs e
    have := (hV x).2 v
    exact ⟨this, by rw [he x this]; exact h⟩,
   fun x r v => by rw [he x v]; exact p.full x r ((hV x).1 v),
   fun x q t v h ht => p.short x q t ((hV x).1 v) (by rw [← he x v]; exact h) ht⟩
theorem PP.ret {α : Type} (x0 : α) : PP (gRet x0) (fun _ => []) (fun x => x = x0) :=
  ⟨fun s x r _ e => by
    cases e
    exact ⟨rfl, rfl⟩,
   fun x r v => by subst v; rfl,
   fun x q t _ h ht => by
    have : t = [] := by
      have := congrArg List.length h
      simp at this
      exact List.length_eq_zero_iff.1 (by omega)
    exact absurd this ht⟩
theorem PP.chk {α : Type} {p : Bool} {c : Int} {g : List Int → Res α} {enc : α → List Int} {V : α → Prop} (h : p = true → PP g enc V) : PP (gChk p c g) enc (fun x => p = true ∧ V x) := by
  refine ⟨fun s x r hs e => ?_, fun x r v => ?_, fun x q t v he ht => ?_⟩
  · unfold gChk at e
    cases hp : p with
    | false => rw [hp] at e; cases e
    | true =>
      rw [hp] at e
      obtain ⟨v, h'⟩ := (h hp).sound s x r hs e
      exact ⟨⟨rfl, v⟩, h'⟩
  · unfold gChk
    rw [v.1]
    exact (h v.1).full x r v.2
  · unfold gChk
    rw [v.1]
    exact (h v.1).short x q t v.2 he ht
/-! ### Numbers -/
def gVar : Nat → Nat → List Int → Res Int
  | _, _, [] => .inr 1
  | k, acc, c :: r =>
    if (0 < k ∧ c = 0) ∨ (k = 8 ∧ 128 ≤ c) then .inr 2
    else if c < 128 then (if acc + c.toNat * 128 ^ k ≤ 1152921504606846975 then .inl (((acc + c.toNat * 128 ^ k : Nat) : Int), r) else .inr 2)
    else gVar (k + 1) (acc + (c.toNat - 128) * 128 ^ k) r
def gNum (s : List Int) : Res Int := gVar 0 0 s
theorem gVar_sound : ∀ (s : List Int) (k acc : Nat) (n : Int) (r : List Int), Bytes s → gVar k acc s = .inl (n, r) → ∃ m : Nat, n = ((acc + m * 128 ^ k : Nat) : Int) ∧ acc + m * 128 ^ k ≤ 1152921504606846975 ∧ s = varB m ++ r ∧ (0 < k → 0 < m) := by
  intro s
  induction s with
  | nil => intro k acc n r _ e; simp [gVar] at e
  | cons c s ih =>
    intro k acc n r hs e
    have hc := hs c (by simp)
    unfold gVar at e
    split at e
    · cases e
    · rename_i h1
      split at e
      · rename_i h2
        split at e
        · rename_i h3
          cases e
          refine ⟨c.toNat, rfl, h3, ?_, fun hk => ?_⟩
          · rw [varB_small (by omega)]
            simp
            omega
          · by_cases h0 : c = 0
            · exact absurd (.inl ⟨hk, h0⟩) h1
            · omega
        · cases e
      · rename_i h2
        obtain ⟨m, e1, e2, e3, e4⟩ := ih (k + 1) _ n r (fun y hy => hs y (by simp [hy])) e
        have hm := e4 (by omega)
        have hp : acc + (c.toNat - 128) * 128 ^ k + m * 128 ^ (k + 1) = acc + (c.toNat - 128 + 128 * m) * 128 ^ k := by
          rw [Nat.pow_succ, Nat.add_mul, Nat.add_assoc]
          congr 2
          rw [Nat.mul_comm 128 m, Nat.mul_assoc, Nat.mul_comm 128 (128 ^ k)]
        rw [hp] at e1 e2
        refine ⟨c.toNat - 128 + 128 * m, e1, e2, ?_, fun _ => by omega⟩
        rw [varB_big (by omega), e3]
        rw [show (c.toNat - 128 + 128 * m) % 128 + 128 = c.toNat by omega, show (c.toNat - 128 + 128 * m) / 128 = m by omega]
        simp
        omega
theorem gVar_full : ∀ (m k acc : Nat) (r : List Int), acc + m * 128 ^ k ≤ 1152921504606846975 → (0 < k → 0 < m) → gVar k acc (varB m ++ r) = .inl (((acc + m * 128 ^ k : Nat) : Int), r) := by
  intro m
  induction m using Nat.strongRecOn with
  | ind m ih =>
    intro k acc r hle hk
    by_cases h : m < 128
    · rw [varB_small h]
      show gVar k acc ((m : Int) :: r) = _
      unfold gVar
      rw [if_neg (by omega), if_pos (by omega), show ((m : Int)).toNat = m by omega, if_pos hle]
    · rw [varB_big h]
      show gVar k acc (((m % 128 + 128 : Nat) : Int) :: (varB (m / 128) ++ r)) = _
      have hk8 : k < 8 := by
        apply Nat.lt_of_not_le
        intro h8
        have h1 : 128 ^ 8 ≤ 128 ^ k := Nat.pow_le_pow_right (by omega) h8
        have h2 : 128 * 128 ^ 8 ≤ m * 128 ^ k := Nat.mul_le_mul (by omega) h1
        have h3 : (128 : Nat) * 128 ^ 8 = 9223372036854775808 := by decide
        omega
      unfold gVar
      have hp : acc + m % 128 * 128 ^ k + m / 128 * 128 ^ (k + 1) = acc + m * 128 ^ k := by
        rw [Nat.pow_succ, Nat.add_assoc]
        congr 1
        rw [Nat.mul_comm (128 ^ k) 128, ← Nat.mul_assoc, ← Nat.add_mul]
        congr 1
        omega
      rw [if_neg (by omega), if_neg (by omega), show ((m % 128 + 128 : Nat) : Int).toNat - 128 = m % 128 by omega, ih (m / 128) (by omega) (k + 1) _ r (by rw [hp]; exact hle) (fun _ => by omega), hp]
theorem gVar_short : ∀ (m k acc : Nat) (q t : List Int), acc + m * 128 ^ k ≤ 1152921504606846975 → (0 < k → 0 < m) → varB m = q ++ t → t ≠ [] → gVar k acc q = .inr 1 := by
  intro m
  induction m using Nat.strongRecOn with
  | ind m ih =>
    intro k acc q t hle hk e ht
    match q with
    | [] => simp [gVar]
    | c :: q =>
      by_cases h : m < 128
      · rw [varB_small h] at e
        have := congrArg List.length e
        simp only [List.length_cons, List.length_nil, List.length_append] at this
        exact absurd (List.length_eq_zero_iff.1 (by omega)) ht
      · rw [varB_big h] at e
        have hc : ((m % 128 + 128 : Nat) : Int) = c := by injection e
        have he : varB (m / 128) = q ++ t := by injection e
        have hk8 : k < 8 := by
          apply Nat.lt_of_not_le
          intro h8
          have h1 : 128 ^ 8 ≤ 128 ^ k := Nat.pow_le_pow_right (by omega) h8
          have h2 : 128 * 128 ^ 8 ≤ m * 128 ^ k := Nat.mul_le_mul (by omega) h1
          have h3 : (128 : Nat) * 128 ^ 8 = 9223372036854775808 := by decide
          omega
        unfold gVar
        have hp : acc + m % 128 * 128 ^ k + m / 128 * 128 ^ (k + 1) = acc + m * 128 ^ k := by
          rw [Nat.pow_succ, Nat.add_assoc]
          congr 1
          rw [Nat.mul_comm (128 ^ k) 128, ← Nat.mul_assoc, ← Nat.add_mul]
          congr 1
          omega
        rw [← hc, if_neg (by omega), if_neg (by omega), show ((m % 128 + 128 : Nat) : Int).toNat - 128 = m % 128 by omega]
        exact ih (m / 128) (by omega) (k + 1) _ q t (by rw [hp]; exact hle) (fun _ => by omega) he ht
theorem pNum : PP gNum numB (fun n => isNum n = true) := by
  refine ⟨fun s n r hs e => ?_, fun n r v => ?_, fun n q t v he ht => ?_⟩
  · obtain ⟨m, e1, e2, e3, _⟩ := gVar_sound s 0 0 n r hs e
    simp at e1 e2
    subst e1
    exact ⟨isNum_iff.2 (by omega), by unfold numB; rw [Int.toNat_natCast]; exact e3⟩
  · rw [isNum_iff] at v
    have := gVar_full n.toNat 0 0 r (by simp; omega) (fun h => absurd h (by omega))
    simp at this
    unfold gNum numB
    rw [this]
    congr 2
    omega
  · rw [isNum_iff] at v
    exact gVar_short n.toNat 0 0 q t (by simp; omega) (fun h => absurd h (by omega)) he ht
/-! ### Bytes -/
def gRaw (n : Nat) (s : List Int) : Res (List Int) := if n ≤ s.length then .inl (s.take n, s.drop n) else .inr 1
theorem pRaw (n : Nat) : PP (gRaw n) id (fun x => x.length = n ∧ Bytes x) := by
  refine ⟨fun s x r hs e => ?_, fun x r v => ?_, fun x q t v he ht => ?_⟩
  · unfold gRaw at e
    split at e
    · rename_i h
      cases e
      exact ⟨⟨by rw [List.length_take]; omega, hs.take n⟩, (List.take_append_drop n s).symm⟩
    · cases e
  · unfold gRaw
    rw [if_pos (by simp only [id, List.length_append]; omega)]
    simp only [id]
    rw [List.take_left' v.1, List.drop_left' v.1]
  · have hl : q.length < n := by
      have := congrArg List.length he
      simp only [id, List.length_append] at this
      have : 0 < t.length := List.length_pos_iff.2 ht
      omega
    unfold gRaw
    rw [if_neg (by omega)]
def gText (most : Int) : List Int → Res (List Int) := gBind gNum fun n => gChk (decide (n ≤ most)) 3 (gRaw n.toNat)
theorem pText (most : Int) (hm : most < 1000000) : PP (gText most) textB (fun x => len x ≤ most ∧ Bytes x) := by
  have := PP.bind (W := fun (z : List Int) (n : Int) => decide (n ≤ most) = true ∧ z.length = n.toNat ∧ Bytes z ∧ len z = n) (fun z => len z) (fun z x h => h.2.2.2) pNum
    (g2 := fun n => gChk (decide (n ≤ most)) 3 (gRaw n.toNat)) (rest := id) (fun n hn => ((PP.chk (p := decide (n ≤ most)) (c := 3) fun _ => pRaw n.toNat).congr (fun z => by
      rw [isNum_iff] at hn
      constructor
      · rintro ⟨a, b, c, _⟩; exact ⟨a, b, c⟩
      · rintro ⟨a, b, c⟩; exact ⟨a, b, c, by unfold len; omega⟩) (fun _ _ => rfl)))
  refine this.congr (fun x => ?_) (fun x _ => rfl)
  constructor
  · rintro ⟨a, b⟩
    exact ⟨isNum_iff.2 ⟨len_nonneg x, by omega⟩, decide_eq_true a, by simp [len], b, rfl⟩
  · rintro ⟨_, a, _, b, _⟩
    exact ⟨of_decide_eq_true a, b⟩
end Go.Ev.G
/- What the readers do: they read as the parsers say. -/
namespace Go.Ev.G
open Go.Ev
/-- A reading place within the bytes, unless an error is noted. -/
def At (b : List Int) (p code : Int) : Prop := (code = 0 → 0 ≤ p ∧ p ≤ len b) ∧ 0 ≤ code ∧ code ≤ 8
def St {α : Type} (g : List Int → Res α) (b : List Int) (p code : Int) : Res α := if code = 0 then g (b.drop p.toNat) else .inr code
/-- What a reader answers: something that fits, and a place; it is what the parser reads, or an error. -/
def Out {α : Type} (f : Nat → Option (α × Dl01Cur)) (res : Res α) (b : List Int) (fit : α → Prop) : Prop :=
  ∃ y p code, Y f (y, (b, p, code, ())) ∧ fit y ∧ At b p code ∧ (code = 0 → res = .inl (y, b.drop p.toNat)) ∧ (code ≠ 0 → res = .inr code)
section
variable {α β : Type} {b : List Int}
theorem Out.bind {f : Nat → Option (α × Dl01Cur)} {F : Nat → α × Dl01Cur → Option (β × Dl01Cur)} {g1 : List Int → Res α} {g2 : α → List Int → Res β} {p code : Int} {fit1 : α → Prop} {fit2 : β → Prop} (h1 : Out f (St g1 b p code) b fit1)
    (h2 : ∀ y p' code', fit1 y → At b p' code' → Out (fun k => F k (y, (b, p', code', ()))) (St (g2 y) b p' code') b fit2) : Out (fun k => (f k).bind (F k)) (St (gBind g1 g2) b p code) b fit2 := by
  obtain ⟨y, p', code', hy, hf, ha, h0, hn⟩ := h1
  obtain ⟨z, p2, code2, hz, hf2, ha2, h02, hn2⟩ := h2 y p' code' hf ha
  refine ⟨z, p2, code2, Y.bind hy hz, hf2, ha2, ?_⟩
  by_cases hc : code = 0
  · have e1 : St (gBind g1 g2) b p code = gBind g1 g2 (b.drop p.toNat) := by unfold St; rw [if_pos hc]
    have e2 : St g1 b p code = g1 (b.drop p.toNat) := by unfold St; rw [if_pos hc]
    rw [e2] at h0 hn
    rw [e1]
    unfold gBind
    by_cases hc' : code' = 0
    · rw [h0 hc']
      have e3 : St (g2 y) b p' code' = g2 y (b.drop p'.toNat) := by unfold St; rw [if_pos hc']
      rw [e3] at h02 hn2
      exact ⟨h02, hn2⟩
    · rw [hn hc']
      have e3 : St (g2 y) b p' code' = .inr code' := by unfold St; rw [if_neg hc']
      rw [e3] at h02 hn2
      exact ⟨h02, hn2⟩
  · have e1 : St (gBind g1 g2) b p code = .inr code := by unfold St; rw [if_neg hc]
    have e2 : St g1 b p code = .inr code := by unfold St; rw [if_neg hc]
    rw [e2] at h0 hn
    rw [e1]
    by_cases hc' : code' = 0
    · have := h0 hc'; cases this
    · have e4 := hn hc'
      have e3 : St (g2 y) b p' code' = .inr code' := by unfold St; rw [if_neg hc']
      have e5 : code = code' := by injection e4
      rw [e3, ← e5] at h02 hn2
      exact ⟨h02, hn2⟩
theorem Out.ret {x : α} {p code : Int} {fit : α → Prop} (hf : fit x) (ha : At b p code) : Out (fun _ => some (x, (b, p, code, ()))) (St (gRet x) b p code) b fit := by
  refine ⟨x, p, code, Y.pure _, hf, ha, fun hc => ?_, fun hc => ?_⟩
  · unfold St gRet; rw [if_pos hc]
  · unfold St; rw [if_neg hc]
theorem Out.must {F : Nat → Dl01Cur → Option (β × Dl01Cur)} {q : Bool} {c : Int} (hc : 0 < c ∧ c ≤ 8) {g2 : List Int → Res β} {p code : Int} {fit2 : β → Prop} (ha : At b p code)
    (h2 : ∀ code', At b p code' → (code' = 0 → code = 0 ∧ q = true) → Out (fun k => F k (b, p, code', ())) (St g2 b p code') b fit2) : Out (fun k => (ireader_must (b, p, code, ()) q c).bind (F k)) (St (gChk q c g2) b p code) b fit2 := by
  by_cases h0 : code = 0
  · subst h0
    cases q with
    | true =>
      obtain ⟨z, p2, code2, hz, r⟩ := h2 0 ha (fun _ => ⟨rfl, rfl⟩)
      exact ⟨z, p2, code2, hz, r⟩
    | false =>
      obtain ⟨z, p2, code2, hz, hf, ha2, h02, hn2⟩ := h2 c ⟨fun h => by omega, by omega, by omega⟩ (fun h => by omega)
      refine ⟨z, p2, code2, hz, hf, ha2, fun h => ?_, fun h => ?_⟩
      · have := h02 h
        unfold St at this ⊢
        rw [if_neg (by omega)] at this
        cases this
      · have := hn2 h
        unfold St at this ⊢
        rw [if_neg (by omega)] at this
        rw [if_pos rfl]
        exact this
  · obtain ⟨z, p2, code2, hz, hf, ha2, h02, hn2⟩ := h2 code ha (fun h => absurd h h0)
    refine ⟨z, p2, code2, ?_, hf, ha2, ?_, ?_⟩
    · have e : ireader_must (b, p, code, ()) q c = some (b, p, code, ()) := by
        unfold ireader_must
        rw [show (((b, p, code, ()) : Dl01Cur).2.2.1 == 0) = false by rw [beq_eq_false_iff_ne]; exact h0]
        rfl
      rw [e]
      exact hz
    · unfold St at h02 ⊢
      rw [if_neg h0] at h02 ⊢
      exact h02
    · unfold St at hn2 ⊢
      rw [if_neg h0] at hn2 ⊢
      exact hn2
/-- A reader of one thing: what it calls when no error is noted. -/
theorem Out.prim {f : Nat → Option (α × Int × Int)} {g : List Int → Res α} {z : α} {fit : α → Prop} {p code : Int} (hz : fit z) (ha : At b p code) (h : code = 0 → ∃ y p' c, Y f (y, p', c) ∧ fit y ∧ At b p' c ∧ (c = 0 → g (b.drop p.toNat) = .inl (y, b.drop p'.toNat)) ∧ (c ≠ 0 → g (b.drop p.toNat) = .inr c)) :
    Out (fun k => cond (((b, p, code, ()) : Dl01Cur).2.2.1 != 0) (some (z, (b, p, code, ()))) ((f k).bind fun v => some (v.1, b, v.2.1, v.2.2, ()))) (St g b p code) b fit := by
  by_cases h0 : code = 0
  · obtain ⟨y, p', c, hy, hf, hp, e0, en⟩ := h h0
    subst h0
    exact ⟨y, p', c, Y.bind hy (Y.pure _), hf, hp, e0, en⟩
  · refine ⟨z, p, code, ?_, hz, ha, fun h => absurd h h0, fun _ => by unfold St; rw [if_neg h0]⟩
    rw [show (((b, p, code, ()) : Dl01Cur).2.2.1 != 0) = true by simp [bne]; exact h0]
    exact Y.pure _
end
theorem shl_or {n c k : Nat} (hn : n < 128 ^ k) (hc : c < 128) (hk : k ≤ 8) : io .i64 (n : Int) (sl .i64 (c : Int) ((7 * k : Nat) : Int)) = ((n + c * 128 ^ k : Nat) : Int) := by
  have hpow : (128 : Nat) ^ k = 2 ^ (7 * k) := by rw [Nat.pow_mul]
  have hb : (128 : Nat) ^ k ≤ 128 ^ 8 := Nat.pow_le_pow_right (by omega) hk
  have h8 : (128 : Nat) ^ 8 = 72057594037927936 := by decide
  have hck : c * 128 ^ k ≤ 127 * 72057594037927936 := Nat.mul_le_mul (by omega) (by omega)
  have es : sl .i64 (c : Int) ((7 * k : Nat) : Int) = ((c * 128 ^ k : Nat) : Int) := by
    unfold sl
    rw [show min ((7 * k : Nat) : Int).toNat IntKind.i64.bits = 7 * k by simp [IntKind.bits]; omega]
    rw [show (c : Int) * 2 ^ (7 * k) = ((c * 128 ^ k : Nat) : Int) by rw [hpow]; simp]
    exact wrap_i64 (by omega) (by omega)
  rw [es]
  unfold io
  have e1 : (BitVec.ofInt 64 (n : Int)).toNat = n := by simp; omega
  have e2 : (BitVec.ofInt 64 ((c * 128 ^ k : Nat) : Int)).toNat = c * 128 ^ k := by
    rw [BitVec.toNat_ofInt]
    omega
  have e : (BitVec.ofInt 64 (n : Int) ||| BitVec.ofInt 64 ((c * 128 ^ k : Nat) : Int)).toNat = n + c * 128 ^ k := by
    rw [BitVec.toNat_or, e1, e2, Nat.or_comm, hpow, Nat.mul_comm c, ← Nat.two_pow_add_eq_or_of_lt (by rw [← hpow]; exact hn), Nat.add_comm]
  show IntKind.wrap .i64 (((BitVec.ofInt 64 (n : Int) ||| BitVec.ofInt 64 ((c * 128 ^ k : Nat) : Int)).toNat : Nat) : Int) = _
  rw [e]
  exact wrap_i64 (by omega) (by omega)
theorem and127 {c : Int} (h0 : 0 ≤ c) (h1 : c ≤ 255) : cv .i64 (an .u8 c 127) = ((c.toNat % 128 : Nat) : Int) := by
  have e : (BitVec.ofInt 8 c &&& BitVec.ofInt 8 127).toNat = c.toNat % 128 := by
    rw [BitVec.toNat_and]
    have e1 : (BitVec.ofInt 8 c).toNat = c.toNat := by rw [BitVec.toNat_ofInt]; omega
    have e2 : (BitVec.ofInt 8 127).toNat = 2 ^ 7 - 1 := by decide
    rw [e1, e2, Nat.and_two_pow_sub_one_eq_mod]
  unfold an
  show cv .i64 (IntKind.wrap .u8 (((BitVec.ofInt 8 c &&& BitVec.ofInt 8 127).toNat : Nat) : Int)) = _
  rw [e, wrap_u8 (by omega) (by omega), cv_i64 (by omega) (by omega)]
/-- What GetVar answers. -/
theorem getVar_loop {b : List Int} (hb : Bytes b) (hl : b.length < 1000000000) (p : Nat) : ∀ (s : List Int) (k acc : Nat), b.drop (p + k) = s → p + k ≤ b.length → k ≤ 8 → acc < 128 ^ k → ∃ n p' c, Y (fun j => iGetVar_l0 j b p acc k) (Sum.inr (n, p', c)) ∧ isNum n = true ∧ At b p' c ∧ (c = 0 → gVar k acc s = .inl (n, b.drop p'.toNat)) ∧ (c ≠ 0 → gVar k acc s = .inr c) := by
  have n0 : isNum 0 = true := rfl
  have at0 : ∀ c : Int, 1 ≤ c → c ≤ 8 → At b 0 c := fun c h h' => ⟨fun h => by omega, by omega, h'⟩
  intro s
  induction s with
  | nil =>
    intro k acc hd hp hk ha
    have hlen : b.length ≤ p + k := by
      have := congrArg List.length hd
      rw [List.length_drop] at this
      simp at this
      omega
    refine ⟨0, 0, 1, Y.step ?_, n0, at0 1 (by omega) (by omega), fun h => by omega, fun _ => rfl⟩
    simp only [iGetVar_l0]
    rw [ad_ok (by omega) (by omega), decide_eq_true (show (p : Int) + (k : Int) ≥ len b by unfold len; omega)]
    exact Y.pure _
  | cons c s ih =>
    intro k acc hd hp hk ha
    have hlt : p + k < b.length := by
      have := congrArg List.length hd
      rw [List.length_drop] at this
      simp at this
      omega
    have hget : rd b ((p : Int) + (k : Int)) = some c := by
      refine rd_some (by omega) ?_
      rw [show ((p : Int) + (k : Int)).toNat = p + k by omega, ← List.head?_drop, hd]
      rfl
    have hc := hb c (by
      have : c ∈ b.drop (p + k) := by rw [hd]; simp
      exact List.mem_of_mem_drop this)
    have hd' : b.drop (p + (k + 1)) = s := by
      rw [← Nat.add_assoc, ← List.drop_drop, hd]
      rfl
    have e1 : ad .i64 (p : Int) (k : Int) = (p : Int) + (k : Int) := ad_ok (by omega) (by omega)
    have e2 : mu .i64 7 (k : Int) = ((7 * k : Nat) : Int) := by rw [mu_ok (by omega) (by omega)]; omega
    have e3 : io .i64 (acc : Int) (sl .i64 (cv .i64 (an .u8 c 127)) ((7 * k : Nat) : Int)) = ((acc + c.toNat % 128 * 128 ^ k : Nat) : Int) := by
      rw [and127 hc.1 hc.2]
      exact shl_or ha (by omega) hk
    have e4 : ad .i64 (k : Int) 1 = ((k + 1 : Nat) : Int) := by rw [ad_ok (by omega) (by omega)]; omega
    have e5 : decide ((p : Int) + (k : Int) ≥ len b) = false := decide_eq_false (by unfold len; omega)
    have e6 : decide (((7 * k : Nat) : Int) < 0) = false := decide_eq_false (by omega)
    have e7 : ad .i64 ((p : Int) + (k : Int)) 1 = ((p + k + 1 : Nat) : Int) := by rw [ad_ok (by omega) (by omega)]; omega
    -- the three ways of a byte
    have w1 : (0 < k ∧ c = 0) ∨ (k = 8 ∧ 128 ≤ c) → ∃ n p' c', Y (fun j => iGetVar_l0 j b p acc k) (Sum.inr (n, p', c')) ∧ isNum n = true ∧ At b p' c' ∧ (c' = 0 → gVar k acc (c :: s) = .inl (n, b.drop p'.toNat)) ∧ (c' ≠ 0 → gVar k acc (c :: s) = .inr c') := by
      intro h
      refine ⟨0, 0, 2, Y.step ?_, n0, at0 2 (by omega) (by omega), fun h => by omega, fun _ => by unfold gVar; rw [if_pos h]⟩
      simp only [iGetVar_l0, e1, e5, hget, cond_false, Option.bind_some]
      rcases h with ⟨h1, h2⟩ | ⟨h1, h2⟩
      · rw [decide_eq_true (show (k : Int) > 0 by omega), show (c == 0) = true by rw [h2]; rfl]
        exact Y.pure _
      · rw [decide_eq_true (show (k : Int) > 0 by omega), show ((k : Int) == 8) = true by rw [h1]; rfl, decide_eq_true (show c ≥ 128 by omega)]
        cases c == 0 <;> exact Y.pure _
    by_cases hw : (0 < k ∧ c = 0) ∨ (k = 8 ∧ 128 ≤ c)
    · exact w1 hw
    · by_cases h128 : c < 128
      · -- the last byte
        have hm : c.toNat % 128 = c.toNat := by omega
        rw [hm] at e3
        have key : ∃ n p' c', Y (fun j => (iisNum ((acc + c.toNat * 128 ^ k : Nat) : Int)).bind fun v_3 => cond (!v_3) (some (Sum.inr (0, 0, 2))) (some (Sum.inr (((acc + c.toNat * 128 ^ k : Nat) : Int), ((p + k + 1 : Nat) : Int), 0)))) (Sum.inr (n, p', c') : Unit ⊕ (Int × Int × Int)) ∧ isNum n = true ∧ At b p' c' ∧ (c' = 0 → gVar k acc (c :: s) = .inl (n, b.drop p'.toNat)) ∧ (c' ≠ 0 → gVar k acc (c :: s) = .inr c') := by
          rw [iisNum_eq]
          simp only [Option.bind_some]
          by_cases hn : acc + c.toNat * 128 ^ k ≤ 1152921504606846975
          · have : isNum ((acc + c.toNat * 128 ^ k : Nat) : Int) = true := isNum_iff.2 (by omega)
            rw [this]
            refine ⟨_, _, _, Y.pure _, this, ⟨fun _ => ⟨by omega, by unfold len; omega⟩, by omega, by omega⟩, fun _ => ?_, fun h => absurd rfl h⟩
            unfold gVar
            rw [if_neg hw, if_pos h128, if_pos hn, show (((p + k + 1 : Nat) : Int)).toNat = p + (k + 1) by omega, hd']
          · have : isNum ((acc + c.toNat * 128 ^ k : Nat) : Int) = false := by rw [Bool.eq_false_iff]; intro h; have := isNum_iff.1 h; omega
            rw [this]
            refine ⟨0, 0, 2, Y.pure _, n0, at0 2 (by omega) (by omega), fun h => by omega, fun _ => ?_⟩
            unfold gVar
            rw [if_neg hw, if_pos h128, if_neg hn]
        obtain ⟨n, p', c', hy, r⟩ := key
        refine ⟨n, p', c', Y.step ?_, r⟩
        simp only [iGetVar_l0, e1, e5, hget, cond_false, Option.bind_some, e3, e2, e6, e7]
        rw [decide_eq_true h128, decide_eq_false (show ¬ c ≥ 128 by omega)]
        simp only [cond_true, cond_false]
        by_cases hk0 : 0 < k
        · rw [decide_eq_true (show (k : Int) > 0 by omega), show (c == 0) = false by rw [beq_eq_false_iff_ne]; intro h; exact hw (.inl ⟨hk0, h⟩)]
          simp only [cond_true, cond_false]
          cases (k : Int) == 8 <;> exact hy
        · rw [decide_eq_false (show ¬ (k : Int) > 0 by omega), show ((k : Int) == 8) = false by rw [beq_eq_false_iff_ne]; omega]
          exact hy
      · have hk8 : k < 8 := by
          by_cases h : k = 8
          · exact absurd (.inr ⟨h, by omega⟩) hw
          · omega
        have hm : c.toNat % 128 = c.toNat - 128 := by omega
        rw [hm] at e3
        have hacc : acc + (c.toNat - 128) * 128 ^ k < 128 ^ (k + 1) := by
          have h1 : (c.toNat - 128) * 128 ^ k ≤ 127 * 128 ^ k := Nat.mul_le_mul_right _ (by omega)
          rw [Nat.pow_succ]
          omega
        obtain ⟨n, p', c', hy, hn, hat, r0, r1⟩ := ih (k + 1) (acc + (c.toNat - 128) * 128 ^ k) hd' (by omega) (by omega) hacc
        have hg : gVar k acc (c :: s) = gVar (k + 1) (acc + (c.toNat - 128) * 128 ^ k) s := by
          conv => lhs; unfold gVar
          rw [if_neg hw, if_neg h128]
        refine ⟨n, p', c', Y.step ?_, hn, hat, fun h => by rw [hg]; exact r0 h, fun h => by rw [hg]; exact r1 h⟩
        simp only [iGetVar_l0, e1, e5, hget, cond_false, Option.bind_some, e3, e2, e6, e4]
        rw [decide_eq_false h128, show ((k : Int) == 8) = false by rw [beq_eq_false_iff_ne]; omega, show (c == 0) = false by rw [beq_eq_false_iff_ne]; omega]
        simp only [cond_false]
        cases decide ((k : Int) > 0) <;> exact hy
theorem iGetVar_Y {b : List Int} (hb : Bytes b) (hl : b.length < 1000000000) {p : Int} (h0 : 0 ≤ p) (h1 : p ≤ len b) : ∃ n p' c, Y (fun j => iGetVar j b p) (n, p', c) ∧ isNum n = true ∧ At b p' c ∧ (c = 0 → gNum (b.drop p.toNat) = .inl (n, b.drop p'.toNat)) ∧ (c ≠ 0 → gNum (b.drop p.toNat) = .inr c) := by
  obtain ⟨n, p', c, hy, r⟩ := getVar_loop hb hl p.toNat (b.drop p.toNat) 0 0 rfl (by unfold len at h1; omega) (by omega) (by decide)
  refine ⟨n, p', c, ?_, r⟩
  unfold iGetVar
  rw [iwithin_eq, within_iff.2 ⟨h0, h1⟩]
  simp only [Option.bind_some, Bool.not_true, cond_false]
  rw [show ((p.toNat : Nat) : Int) = p by omega] at hy
  exact Y.bind hy (Y.pure _)
theorem oNum {b : List Int} (hb : Bytes b) (hl : b.length < 1000000000) {p code : Int} (ha : At b p code) : Out (fun k => ireader_num k (b, p, code, ())) (St gNum b p code) b (fun n => isNum n = true) := by
  unfold ireader_num
  exact Out.prim (f := fun k => iGetVar k b p) (z := 0) rfl ha fun h => iGetVar_Y hb hl (ha.1 h).1 (ha.1 h).2
theorem iGetRaw_Y {b : List Int} (hb : Bytes b) (hl : b.length < 1000000000) {p n : Int} (h0 : 0 ≤ p) (h1 : p ≤ len b) (hn : 0 ≤ n) (hn' : n ≤ 1152921504606846975) : ∃ x p' c, iGetRaw b p n = some (x, p', c) ∧ ((x.length : Int) ≤ n ∧ Bytes x) ∧ At b p' c ∧ (c = 0 → gRaw n.toNat (b.drop p.toNat) = .inl (x, b.drop p'.toNat)) ∧ (c ≠ 0 → gRaw n.toNat (b.drop p.toNat) = .inr c) := by
  unfold iGetRaw gRaw
  rw [iwithin_eq, within_iff.2 ⟨h0, h1⟩, iwithin_eq]
  unfold len at h1
  simp only [Option.bind_some, Bool.not_true, cond_false]
  rw [su_ok (by unfold len; omega) (by unfold len; omega)]
  by_cases h : n ≤ len b - p
  · unfold len at h
    rw [within_iff.2 ⟨hn, by unfold len; omega⟩, ad_ok (by omega) (by omega), sub_ok h0 (by omega) (by unfold len; omega)]
    simp only [Option.bind_some, Bool.not_true, cond_false]
    have hc : cut b p (p + n) = (b.drop p.toNat).take n.toNat := by
      unfold cut
      rw [show (p + n).toNat = p.toNat + n.toNat by omega, List.drop_take, show p.toNat + n.toNat - p.toNat = n.toNat by omega]
    have hx : ((b.drop p.toNat).take n.toNat).length = n.toNat := by rw [List.length_take, List.length_drop]; omega
    rw [hc, icopyBytes_eq (by omega)]
    refine ⟨_, _, _, rfl, ⟨by omega, (hb.drop _).take _⟩, ⟨fun _ => ⟨by omega, by unfold len; omega⟩, by omega, by omega⟩, fun _ => ?_, fun h => absurd rfl h⟩
    rw [if_pos (by rw [List.length_drop]; omega), List.drop_drop, show (p + n).toNat = p.toNat + n.toNat by omega]
  · unfold len at h
    rw [show within n 0 (len b - p) = false by rw [Bool.eq_false_iff]; intro e; have := within_iff.1 e; unfold len at this; omega]
    refine ⟨[], 0, 1, rfl, ⟨by simp; omega, Bytes.nil⟩, ⟨fun h => by omega, by omega, by omega⟩, fun h => by omega, fun _ => ?_⟩
    rw [if_neg (by rw [List.length_drop]; omega)]
def HashFit (x : List Int) : Prop := x.length ≤ 32 ∧ Bytes x
theorem oHash {b : List Int} (hb : Bytes b) (hl : b.length < 1000000000) {p code : Int} (ha : At b p code) : Out (fun _ => ireader_hash (b, p, code, ())) (St (gRaw 32) b p code) b HashFit := by
  have h : Out (fun _ => ireader_raw (b, p, code, ()) 32) (St (gRaw 32) b p code) b HashFit := by
    unfold ireader_raw
    refine Out.prim (f := fun _ => iGetRaw b p 32) (z := []) ⟨by simp, Bytes.nil⟩ ha fun h => ?_
    obtain ⟨x, p', c, e, hx, r⟩ := iGetRaw_Y hb hl (n := 32) (ha.1 h).1 (ha.1 h).2 (by omega) (by omega)
    exact ⟨x, p', c, Y.of e, ⟨by omega, hx.2⟩, r⟩
  obtain ⟨y, p', c, hy, r⟩ := h
  refine ⟨y, p', c, ?_, r⟩
  unfold ireader_hash
  exact Y.bind hy (Y.pure _)
end Go.Ev.G
/- Readers of whole parts. -/
namespace Go.Ev.G
open Go.Ev
theorem nz_true {x : Int} (h : x = 0) : (x == 0) = true := by rw [h]; rfl
theorem nz_false {x : Int} (h : ¬ x = 0) : (x == 0) = false := by rw [beq_eq_false_iff_ne]; exact h
def TextFit (most : Int) (x : List Int) : Prop := (x.length : Int) ≤ max most 0 ∧ Bytes x
theorem oText {b : List Int} (hb : Bytes b) (hl : b.length < 1000000000) {p code most : Int} (ha : At b p code) : Out (fun k => ireader_text k (b, p, code, ()) most) (St (gText most) b p code) b (TextFit most) := by
  unfold ireader_text
  refine Out.prim (f := fun k => iGetText k b p most) (z := []) ⟨by simp; omega, Bytes.nil⟩ ha fun h => ?_
  obtain ⟨n, p', c, hy, hn, hp, e0, en⟩ := iGetVar_Y hb hl (ha.1 h).1 (ha.1 h).2
  have hn' := isNum_iff.1 hn
  unfold iGetText gText
  by_cases hc : c = 0
  · have e0' := e0 hc
    have hp' := hp.1 hc
    by_cases hm : n ≤ most
    · obtain ⟨x, p2, c2, e, hx, r⟩ := iGetRaw_Y hb hl hp'.1 hp'.2 hn'.1 hn'.2
      refine ⟨x, p2, c2, Y.bind hy ?_, ⟨by omega, hx.2⟩, r.1, fun h => ?_, fun h => ?_⟩
      · simp only [bne, nz_true hc, Bool.not_true, cond_false, decide_eq_false (show ¬ n > most by omega), e, Option.bind_some]
        exact Y.pure _
      · unfold gBind
        rw [e0']
        show gChk (decide (n ≤ most)) 3 (gRaw n.toNat) _ = _
        unfold gChk
        rw [decide_eq_true hm]
        exact r.2.1 h
      · unfold gBind
        rw [e0']
        show gChk (decide (n ≤ most)) 3 (gRaw n.toNat) _ = _
        unfold gChk
        rw [decide_eq_true hm]
        exact r.2.2 h
    · refine ⟨[], 0, 3, Y.bind hy ?_, ⟨by simp; omega, Bytes.nil⟩, ⟨fun h => by omega, by omega, by omega⟩, fun h => by omega, fun _ => ?_⟩
      · simp only [bne, nz_true hc, Bool.not_true, cond_false, decide_eq_true (show n > most by omega), cond_true]
        exact Y.pure _
      · unfold gBind
        rw [e0']
        show gChk (decide (n ≤ most)) 3 (gRaw n.toNat) _ = _
        unfold gChk
        rw [decide_eq_false hm]
        rfl
  · refine ⟨[], 0, c, Y.bind hy ?_, ⟨by simp; omega, Bytes.nil⟩, ⟨fun h => absurd h hc, hp.2⟩, fun h => absurd h hc, fun _ => ?_⟩
    · simp only [bne, nz_false hc, Bool.not_false, cond_true]
      exact Y.pure _
    · unfold gBind
      rw [en hc]
def gBelow (n c : Int) : List Int → Res Int := gBind gNum fun x => gChk (decide (x < n)) c (gRet x)
theorem oBelow {b : List Int} (hb : Bytes b) (hl : b.length < 1000000000) {p code n c : Int} (hc : 0 < c ∧ c ≤ 8) (ha : At b p code) : Out (fun k => ireader_below k (b, p, code, ()) n c) (St (gBelow n c) b p code) b (fun x => isNum x = true) := by
  unfold ireader_below gBelow
  refine Out.bind (oNum hb hl ha) fun y p' code' hy ha' => ?_
  exact Out.must hc ha' fun code2 ha2 _ => Out.ret hy ha2
def gVote (l : DLimits) : List Int → Res DVote := gBind gNum fun a => gBind gNum fun c => gBind (gRaw 32) fun d => gBind (gBelow l.1 5) fun e => gBind (gRaw 32) fun f => gRet (a, c, d, e, f, ())
theorem HashFit.fit {x : List Int} (h : HashFit x) : x.length < 1000000000 ∧ Bytes x := ⟨by have := h.1; omega, h.2⟩
section
variable {l : DLimits} {b : List Int} (hb : Bytes b) (hl : b.length < 1000000000)
include hb hl
theorem oVote {p code : Int} (ha : At b p code) : Out (fun k => ireadVote k l (b, p, code, ())) (St (gVote l) b p code) b fitVote := by
  unfold ireadVote gVote
  exact Out.bind (oNum hb hl ha) fun _ _ _ _ a1 => Out.bind (oNum hb hl a1) fun _ _ _ _ a2 => Out.bind (oHash hb hl a2) fun _ _ _ h3 a3 => Out.bind (oBelow hb hl (by omega) a3) fun _ _ _ _ a4 => Out.bind (oHash hb hl a4) fun _ _ _ h5 a5 => Out.ret ⟨h3.fit, h5.fit⟩ a5
end
theorem pHash : PP (gRaw 32) id (fun x => x.length = 32 ∧ Bytes x) := pRaw 32
theorem pBelow (n c : Int) : PP (gBelow n c) numB (fun x => isNum x = true ∧ x < n) := by
  have := PP.bind (W := fun (z x : Int) => decide (x < n) = true ∧ z = x) (fun z => z) (fun z x h => h.2) pNum (g2 := fun x => gChk (decide (x < n)) c (gRet x)) (rest := fun _ => []) (fun x _ => PP.chk fun _ => PP.ret x)
  refine this.congr (fun x => ?_) (fun x _ => (List.append_nil _).symm)
  constructor
  · rintro ⟨a, b⟩; exact ⟨a, decide_eq_true b, rfl⟩
  · rintro ⟨a, b, _⟩; exact ⟨a, of_decide_eq_true b⟩
theorem pVote {l : DLimits} (hl : limitsOk l = true) : PP (gVote l) vB (fun v => VoteIs l v ∧ fitVote v) := by
  have hn := limitsOk_N hl
  have := PP.bind (γ := DVote) (fun z => z.1) (W := fun z a => isNum z.2.1 = true ∧ (z.2.2.1.length = 32 ∧ Bytes z.2.2.1) ∧ (isNum z.2.2.2.1 = true ∧ z.2.2.2.1 < l.1) ∧ (z.2.2.2.2.1.length = 32 ∧ Bytes z.2.2.2.2.1) ∧ z = (a, z.2.1, z.2.2.1, z.2.2.2.1, z.2.2.2.2.1, ())) (fun z x h => by rw [h.2.2.2.2]) pNum (fun a _ =>
    PP.bind (γ := DVote) (fun z => z.2.1) (W := fun z c => (z.2.2.1.length = 32 ∧ Bytes z.2.2.1) ∧ (isNum z.2.2.2.1 = true ∧ z.2.2.2.1 < l.1) ∧ (z.2.2.2.2.1.length = 32 ∧ Bytes z.2.2.2.2.1) ∧ z = (a, c, z.2.2.1, z.2.2.2.1, z.2.2.2.2.1, ())) (fun z x h => by rw [h.2.2.2]) pNum (fun c _ =>
    PP.bind (γ := DVote) (fun z => z.2.2.1) (W := fun z d => (isNum z.2.2.2.1 = true ∧ z.2.2.2.1 < l.1) ∧ (z.2.2.2.2.1.length = 32 ∧ Bytes z.2.2.2.2.1) ∧ z = (a, c, d, z.2.2.2.1, z.2.2.2.2.1, ())) (fun z x h => by rw [h.2.2]) pHash (fun d _ =>
    PP.bind (γ := DVote) (fun z => z.2.2.2.1) (W := fun z e => (z.2.2.2.2.1.length = 32 ∧ Bytes z.2.2.2.2.1) ∧ z = (a, c, d, e, z.2.2.2.2.1, ())) (fun z x h => by rw [h.2]) (pBelow l.1 5) (fun e _ =>
    PP.bind (γ := DVote) (fun z => z.2.2.2.2.1) (W := fun z f => z = (a, c, d, e, f, ())) (fun z x h => by rw [h]) pHash (fun f _ => PP.ret (a, c, d, e, f, ()))))))
  refine PP.congr this (fun v => ?_) (fun v _ => by unfold vB; simp only [id, List.append_nil])
  constructor
  · rintro ⟨h, hf⟩
    exact ⟨h.view, h.height, ⟨h.block, hf.1.2⟩, ⟨h.whoNum, h.who.2⟩, ⟨h.tag, hf.2.2⟩, rfl⟩
  · rintro ⟨h1, h2, h3, h4, h5, _⟩
    exact ⟨⟨hl, h1, h2, h3.1, h5.1, (isNum_iff.1 h4.1).1, h4.2⟩, ⟨by rw [h3.1]; omega, h3.2⟩, ⟨by rw [h5.1]; omega, h5.2⟩⟩
end Go.Ev.G
/- Readers of lists, certificates, headers. -/
namespace Go.Ev.G
open Go.Ev
def gRep {α : Type} : Nat → (List Int → Res α) → List Int → Res (List α)
  | 0, _ => gRet []
  | n + 1, g => gBind g fun x => gBind (gRep n g) fun xs => gRet (x :: xs)
theorem PP.rep {α : Type} (d : α) {g : List Int → Res α} {enc : α → List Int} {V : α → Prop} (h : PP g enc V) : ∀ n, PP (gRep n g) (fun xs => (xs.map enc).flatten) (fun xs => xs.length = n ∧ ∀ x ∈ xs, V x) := by
  intro n
  induction n with
  | zero =>
    refine PP.congr (PP.ret ([] : List α)) (fun xs => ?_) (fun xs hx => ?_)
    · constructor
      · rintro ⟨h, _⟩; exact List.length_eq_zero_iff.1 h
      · rintro rfl; exact ⟨rfl, fun x hx => absurd hx (List.not_mem_nil)⟩
    · rw [List.length_eq_zero_iff.1 hx.1]; rfl
  | succ n ih =>
    have := PP.bind (γ := List α) (fun z => z.headD d) (W := fun z x => (z.tail.length = n ∧ ∀ y ∈ z.tail, V y) ∧ z = x :: z.tail) (fun z x h => by rw [h.2]; rfl) h (g2 := fun x => gBind (gRep n g) fun xs => gRet (x :: xs)) (rest := fun z => (z.tail.map enc).flatten) (fun x _ =>
      (PP.bind (γ := List α) (fun z => z.tail) (W := fun z xs => z = x :: xs) (fun z xs h => by rw [h]; rfl) ih (g2 := fun xs => gRet (x :: xs)) (rest := fun _ => []) (fun xs _ => PP.ret (x :: xs))).congr (fun z => Iff.rfl) (fun z _ => (List.append_nil _).symm))
    refine PP.congr this (fun xs => ?_) (fun xs hx => ?_)
    · constructor
      · rintro ⟨h1, h2⟩
        match xs, h1 with
        | x :: xs, h1 => exact ⟨h2 x (by simp), ⟨by simpa using h1, fun y hy => h2 y (List.mem_cons_of_mem _ hy)⟩, rfl⟩
      · rintro ⟨h1, ⟨h2, h3⟩, h4⟩
        match xs, h4 with
        | x :: xs, _ =>
          refine ⟨by simpa using h2, fun y hy => ?_⟩
          rcases List.mem_cons.1 hy with rfl | hy
          · exact h1
          · exact h3 y hy
    · match xs, hx.1 with
      | x :: xs, _ => rfl
/-- What a loop of readings answers. -/
def OutL {α : Type} (xs : List α) (p code : Int) (res : Res (List α)) (b : List Int) (fit : α → Prop) : Prop := (∀ x ∈ xs, fit x) ∧ At b p code ∧ (code = 0 → res = .inl (xs, b.drop p.toNat)) ∧ (code ≠ 0 → res = .inr code)
theorem St_bind {α β : Type} (g1 : List Int → Res α) (g2 : α → List Int → Res β) (b : List Int) (p code : Int) : St (gBind g1 g2) b p code = match St g1 b p code with | .inl (x, r) => g2 x r | .inr c => .inr c := by
  unfold St
  by_cases h : code = 0
  · rw [if_pos h, if_pos h]; rfl
  · rw [if_neg h, if_neg h]
/-- Readings one after the other, errors or not. -/
theorem oRep {α β : Type} {b : List Int} {f : Nat → Dl01Cur → Option (α × Dl01Cur)} {g : List Int → Res α} {fit : α → Prop} (hf : ∀ p code, At b p code → Out (fun k => f k (b, p, code, ())) (St g b p code) b fit) {n : Nat} (hn : n < 1000000) (L : Nat → Dl01Cur → List α → Int → Option β) (fin : Dl01Cur → List α → β)
    (hL : ∀ k r out i, L (k + 1) r out i = cond (decide (i < (n : Int))) ((f k r).bind fun v => (app out [v.1]).bind fun w => L k v.2 w (ad .i64 i 1)) (some (fin r out))) :
    ∀ (m i : Nat) (out : List α) (p code : Int), i + m = n → out.length = i → At b p code → ∃ xs p' code', Y (fun k => L k (b, p, code, ()) out i) (fin (b, p', code', ()) (out ++ xs)) ∧ xs.length = m ∧ OutL xs p' code' (St (gRep m g) b p code) b fit := by
  intro m
  induction m with
  | zero =>
    intro i out p code hi ho ha
    refine ⟨[], p, code, Y.step ?_, rfl, fun x hx => absurd hx (List.not_mem_nil), ha, fun h => ?_, fun h => ?_⟩
    · simp only [hL]
      rw [decide_eq_false (show ¬ (i : Int) < (n : Int) by omega), List.append_nil]
      exact Y.pure _
    · unfold St; rw [if_pos h]; rfl
    · unfold St; rw [if_neg h]
  | succ m ih =>
    intro i out p code hi ho ha
    obtain ⟨y, p1, c1, hy, hfy, ha1, h0, hnz⟩ := hf p code ha
    obtain ⟨xs, p', code', hy2, hx1, hx2, ha', h0', hn'⟩ := ih (i + 1) (out ++ [y]) p1 c1 (by omega) (by rw [List.length_append, ho]; rfl) ha1
    have hres : St (gRep (m + 1) g) b p code = match St (gRep m g) b p1 c1 with | .inl (xs, r) => .inl (y :: xs, r) | .inr c => .inr c := by
      show St (gBind g fun x => gBind (gRep m g) fun xs => gRet (x :: xs)) b p code = _
      rw [St_bind]
      by_cases hc : c1 = 0
      · rw [h0 hc]
        unfold St
        rw [if_pos hc]
        show gBind (gRep m g) (fun xs => gRet (y :: xs)) (b.drop p1.toNat) = _
        unfold gBind
        cases gRep m g (b.drop p1.toNat) <;> rfl
      · rw [hnz hc]
        unfold St
        rw [if_neg hc]
    refine ⟨y :: xs, p', code', Y.step ?_, by simp [hx1], fun x hx => ?_, ha', fun h => ?_, fun h => ?_⟩
    · simp only [hL]
      rw [decide_eq_true (show (i : Int) < (n : Int) by omega)]
      simp only [cond_true]
      refine Y.bind hy ?_
      simp only
      rw [app_ok (by simp only [List.length_cons, List.length_nil]; omega), ad_ok (by omega) (by omega)]
      rw [List.append_assoc] at hy2
      exact hy2
    · rcases List.mem_cons.1 hx with rfl | hx
      · exact hfy
      · exact hx2 x hx
    · rw [hres, h0' h]
    · rw [hres, hn' h]
/-- Readings one after the other, till an error. -/
theorem oRepS {α β : Type} {b : List Int} {f : Nat → Dl01Cur → Option (α × Dl01Cur)} {g : List Int → Res α} {fit : α → Prop} (hf : ∀ p code, At b p code → Out (fun k => f k (b, p, code, ())) (St g b p code) b fit) {n : Nat} (hn : n < 1000000) (L : Nat → Dl01Cur → List α → Int → Option β) (fin : Dl01Cur → List α → β)
    (hL : ∀ k r out i, L (k + 1) r out i = cond (decide (i < (n : Int))) (cond (r.2.2.1 == 0) ((f k r).bind fun v => (app out [v.1]).bind fun w => L k v.2 w (ad .i64 i 1)) (some (fin r out))) (some (fin r out))) :
    ∀ (m i : Nat) (out : List α) (p code : Int), i + m = n → out.length = i → At b p code → ∃ xs p' code', Y (fun k => L k (b, p, code, ()) out i) (fin (b, p', code', ()) (out ++ xs)) ∧ xs.length ≤ m ∧ OutL xs p' code' (St (gRep m g) b p code) b fit := by
  intro m
  induction m with
  | zero =>
    intro i out p code hi ho ha
    refine ⟨[], p, code, Y.step ?_, Nat.le_refl _, fun x hx => absurd hx (List.not_mem_nil), ha, fun h => ?_, fun h => ?_⟩
    · simp only [hL]
      rw [decide_eq_false (show ¬ (i : Int) < (n : Int) by omega), List.append_nil]
      exact Y.pure _
    · unfold St; rw [if_pos h]; rfl
    · unfold St; rw [if_neg h]
  | succ m ih =>
    intro i out p code hi ho ha
    by_cases hcode : code = 0
    · obtain ⟨y, p1, c1, hy, hfy, ha1, h0, hnz⟩ := hf p code ha
      obtain ⟨xs, p', code', hy2, hx1, hx2, ha', h0', hn'⟩ := ih (i + 1) (out ++ [y]) p1 c1 (by omega) (by rw [List.length_append, ho]; rfl) ha1
      have hres : St (gRep (m + 1) g) b p code = match St (gRep m g) b p1 c1 with | .inl (xs, r) => .inl (y :: xs, r) | .inr c => .inr c := by
        show St (gBind g fun x => gBind (gRep m g) fun xs => gRet (x :: xs)) b p code = _
        rw [St_bind]
        by_cases hc : c1 = 0
        · rw [h0 hc]
          unfold St
          rw [if_pos hc]
          show gBind (gRep m g) (fun xs => gRet (y :: xs)) (b.drop p1.toNat) = _
          unfold gBind
          cases gRep m g (b.drop p1.toNat) <;> rfl
        · rw [hnz hc]
          unfold St
          rw [if_neg hc]
      refine ⟨y :: xs, p', code', Y.step ?_, by simp; omega, fun x hx => ?_, ha', fun h => ?_, fun h => ?_⟩
      · simp only [hL]
        rw [decide_eq_true (show (i : Int) < (n : Int) by omega), nz_true hcode]
        simp only [cond_true]
        refine Y.bind hy ?_
        simp only
        rw [app_ok (by simp only [List.length_cons, List.length_nil]; omega), ad_ok (by omega) (by omega)]
        rw [List.append_assoc] at hy2
        exact hy2
      · rcases List.mem_cons.1 hx with rfl | hx
        · exact hfy
        · exact hx2 x hx
      · rw [hres, h0' h]
      · rw [hres, hn' h]
    · refine ⟨[], p, code, Y.step ?_, Nat.zero_le _, fun x hx => absurd hx (List.not_mem_nil), ha, fun h => absurd h hcode, fun h => ?_⟩
      · simp only [hL]
        rw [decide_eq_true (show (i : Int) < (n : Int) by omega), nz_false hcode, List.append_nil]
        exact Y.pure _
      · unfold St; rw [if_neg h]
/-! ### Certificates -/
def gBits (n : Int) : List Int → Res (List Int) := gBind (gRaw (bitsSize n).toNat) fun x => gChk (bitsOk x n) 4 (gRet x)
def gQc (l : DLimits) : List Int → Res DQc := gBind gNum fun a => gBind gNum fun c => gBind (gRaw 32) fun d => gBind (gBits l.1) fun e => gBind (gRep (bitsN e).length (gRaw 32)) fun f => gRet (a, c, d, e, f, ())
theorem bitsOk_bits {b : List Int} {n : Int} (h : bitsOk b n = true) : (bitsN b).length ≤ 10 := by
  have h1 := bitsOk_count h
  have h2 := bitsOk_len h
  unfold bitsCount at h1
  omega
theorem oQc {l : DLimits} (hlim : limitsOk l = true) {b : List Int} (hb : Bytes b) (hl : b.length < 1000000000) {p code : Int} (ha : At b p code) : Out (fun k => ireadQc k l (b, p, code, ())) (St (gQc l) b p code) b fitQc := by
  have hn := limitsOk_N hlim
  have hs := bitsSize_small (within_iff.2 hn)
  unfold ireadQc gQc
  refine Out.bind (oNum hb hl ha) fun x1 p1 c1 _ a1 => Out.bind (oNum hb hl a1) fun x2 p2 c2 _ a2 => Out.bind (oHash hb hl a2) fun x3 p3 c3 h3 a3 => ?_
  by_cases hc : c3 = 0
  · subst hc
    have hp := a3.1 rfl
    simp only
    rw [show ((0 : Int) != 0) = false from rfl]
    simp only [cond_false]
    have hraw := iGetRaw_Y hb hl (n := bitsSize l.1) hp.1 hp.2 (by omega) (by omega)
    obtain ⟨bits, p4, c4, e4, hx4, a4, r0, r1⟩ := hraw
    -- what GetBits answers
    have hbits : ∃ bits p4 c4, Y (fun k => iGetBits k b p3 l.1) (bits, p4, c4) ∧ (bits.length ≤ 2 ∧ Bytes bits) ∧ (bitsN bits).length ≤ 10 ∧ At b p4 c4 ∧ (c4 = 0 → gBits l.1 (b.drop p3.toNat) = .inl (bits, b.drop p4.toNat)) ∧ (c4 ≠ 0 → gBits l.1 (b.drop p3.toNat) = .inr c4) := by
      unfold iGetBits gBits gBind
      rw [iwithin_eq, within_iff.2 hn]
      simp only [Option.bind_some, Bool.not_true, cond_false]
      rw [bitsSize_i (by omega)]
      simp only [Option.bind_some]
      rw [e4]
      simp only [Option.bind_some]
      by_cases h4 : c4 = 0
      · rw [r0 h4]
        simp only [bne, nz_true h4, Bool.not_true, cond_false]
        cases hok : bitsOk bits l.1 with
        | false =>
          refine ⟨[], 0, 4, Y.bind (iBitsOk_Y hx4.2) ?_, ⟨by simp, Bytes.nil⟩, by decide, ⟨fun h => by omega, by omega, by omega⟩, fun h => by omega, fun _ => by unfold gChk; rfl⟩
          rw [hok]
          exact Y.pure _
        | true =>
          refine ⟨bits, p4, 0, Y.bind (iBitsOk_Y hx4.2) ?_, ⟨(bitsOk_len hok).1, hx4.2⟩, bitsOk_bits hok, ⟨fun _ => a4.1 h4, by omega, by omega⟩, fun _ => by unfold gChk; rfl, fun h => absurd rfl h⟩
          rw [hok]
          exact Y.pure _
      · rw [r1 h4]
        simp only [bne, nz_false h4, Bool.not_false, cond_true]
        exact ⟨[], 0, c4, Y.pure _, ⟨by simp, Bytes.nil⟩, by decide, ⟨fun h => absurd h h4, a4.2⟩, fun h => absurd h h4, fun _ => rfl⟩
    obtain ⟨bits, p4, c4, e4, hx4, hx10, a4, r0, r1⟩ := hbits
    have hloop := oRep (b := b) (f := fun _ r => ireader_hash r) (g := gRaw 32) (fit := HashFit) (fun p code ha => oHash hb hl ha) (n := (bitsN bits).length) (by omega) (fun k r out i => ireadQc_l0 k r (0, 0, [], [], [], ()) (x1, x2, x3, bits, out, ()) (bitsCount bits) i) (fun r out => (r, ((0, 0, [], [], [], ()) : DQc), ((x1, x2, x3, bits, out, ()) : DQc))) (fun k r out i => rfl) (bitsN bits).length 0 [] p4 c4 (by omega) rfl a4
    obtain ⟨xs, p5, c5, hy5, hlen, hfx, a5, g0, g1⟩ := hloop
    refine ⟨(x1, x2, x3, bits, xs, ()), p5, c5, Y.bind e4 (Y.bind (iBitsCount_Y hx4.2 (by show bits.length < _; omega)) (Y.bind hy5 (Y.pure _))), ?_, a5, ?_⟩
    · exact ⟨by show x3.length < _; have := h3.1; omega, by show bits.length < _; omega, by show xs.length < _; omega, fun x hx => (hfx x hx).fit, h3.2, hx4.2⟩
    · have e : St (gBind (gBits l.1) fun e => gBind (gRep (bitsN e).length (gRaw 32)) fun f => gRet (x1, x2, x3, e, f, ())) b p3 0 = match St (gRep (bitsN bits).length (gRaw 32)) b p4 c4 with | .inl (xs, r) => .inl ((x1, x2, x3, bits, xs, ()), r) | .inr c => .inr c := by
        rw [St_bind]
        have es : St (gBits l.1) b p3 0 = gBits l.1 (b.drop p3.toNat) := rfl
        rw [es]
        by_cases h4 : c4 = 0
        · rw [r0 h4]
          unfold St
          rw [if_pos h4]
          show gBind (gRep (bitsN bits).length (gRaw 32)) (fun f => gRet (x1, x2, x3, bits, f, ())) (b.drop p4.toNat) = _
          unfold gBind
          cases gRep (bitsN bits).length (gRaw 32) (b.drop p4.toNat) <;> rfl
        · rw [r1 h4]
          unfold St
          rw [if_neg h4]
      rw [e]
      exact ⟨fun h => by rw [g0 h], fun h => by rw [g1 h]⟩
  · simp only [bne, nz_false hc, Bool.not_false, cond_true]
    refine ⟨(x1, x2, x3, [], [], ()), p3, c3, Y.pure _, ?_, a3, fun h => absurd h hc, fun _ => by unfold St; rw [if_neg hc]⟩
    exact ⟨by show x3.length < _; have := h3.1; omega, by show 0 < _; omega, by show 0 < _; omega, fun x hx => absurd hx (List.not_mem_nil), h3.2, Bytes.nil⟩
theorem pBits {n : Int} (h0 : 1 ≤ n) (h1 : n ≤ 10) : PP (gBits n) id (fun x => bitsOk x n = true ∧ Bytes x) := by
  have := PP.bind (γ := List Int) (fun z => z) (W := fun z x => bitsOk x n = true ∧ z = x) (fun z x h => h.2) (pRaw (bitsSize n).toNat) (g2 := fun x => gChk (bitsOk x n) 4 (gRet x)) (rest := fun _ => []) (fun x _ => PP.chk fun _ => PP.ret x)
  refine this.congr (fun x => ?_) (fun x _ => (List.append_nil _).symm)
  constructor
  · rintro ⟨a, b⟩
    have := bitsOk_len a
    exact ⟨⟨by omega, b⟩, a, rfl⟩
  · rintro ⟨⟨_, b⟩, a, _⟩
    exact ⟨a, b⟩
theorem pQc {l : DLimits} (hl : limitsOk l = true) : PP (gQc l) qcB (fun q => QcIs l q ∧ fitQc q) := by
  have hn := limitsOk_N hl
  have := PP.bind (γ := DQc) (fun z => z.1) (W := fun z a => isNum z.2.1 = true ∧ (z.2.2.1.length = 32 ∧ Bytes z.2.2.1) ∧ (bitsOk z.2.2.2.1 l.1 = true ∧ Bytes z.2.2.2.1) ∧ (z.2.2.2.2.1.length = (bitsN z.2.2.2.1).length ∧ ∀ x ∈ z.2.2.2.2.1, x.length = 32 ∧ Bytes x) ∧ z = (a, z.2.1, z.2.2.1, z.2.2.2.1, z.2.2.2.2.1, ())) (fun z x h => by rw [h.2.2.2.2]) pNum (fun a _ =>
    PP.bind (γ := DQc) (fun z => z.2.1) (W := fun z c => (z.2.2.1.length = 32 ∧ Bytes z.2.2.1) ∧ (bitsOk z.2.2.2.1 l.1 = true ∧ Bytes z.2.2.2.1) ∧ (z.2.2.2.2.1.length = (bitsN z.2.2.2.1).length ∧ ∀ x ∈ z.2.2.2.2.1, x.length = 32 ∧ Bytes x) ∧ z = (a, c, z.2.2.1, z.2.2.2.1, z.2.2.2.2.1, ())) (fun z x h => by rw [h.2.2.2]) pNum (fun c _ =>
    PP.bind (γ := DQc) (fun z => z.2.2.1) (W := fun z d => (bitsOk z.2.2.2.1 l.1 = true ∧ Bytes z.2.2.2.1) ∧ (z.2.2.2.2.1.length = (bitsN z.2.2.2.1).length ∧ ∀ x ∈ z.2.2.2.2.1, x.length = 32 ∧ Bytes x) ∧ z = (a, c, d, z.2.2.2.1, z.2.2.2.2.1, ())) (fun z x h => by rw [h.2.2]) pHash (fun d _ =>
    PP.bind (γ := DQc) (fun z => z.2.2.2.1) (W := fun z e => (z.2.2.2.2.1.length = (bitsN e).length ∧ ∀ x ∈ z.2.2.2.2.1, x.length = 32 ∧ Bytes x) ∧ z = (a, c, d, e, z.2.2.2.2.1, ())) (fun z x h => by rw [h.2]) (pBits hn.1 hn.2) (fun e _ =>
    PP.bind (γ := DQc) (fun z => z.2.2.2.2.1) (W := fun z f => z = (a, c, d, e, f, ())) (fun z x h => by rw [h]) (PP.rep [] pHash (bitsN e).length) (fun f _ => PP.ret (a, c, d, e, f, ()))))))
  refine PP.congr this (fun q => ?_) (fun q _ => by unfold qcB; simp only [id, List.append_nil, List.map_id_fun])
  constructor
  · rintro ⟨h, hf⟩
    exact ⟨h.view, h.height, ⟨h.block, hf.2.2.2.2.1⟩, ⟨h.bits, hf.2.2.2.2.2⟩, ⟨by have := h.tags; unfold bitsCount at this; omega, fun x hx => ⟨h.each x hx, (hf.2.2.2.1 x hx).2⟩⟩, rfl⟩
  · rintro ⟨h1, h2, h3, h4, h5, _⟩
    have hq : QcIs l q := ⟨hl, h1, h2, h3.1, h4.1, by unfold bitsCount; omega, fun x hx => (h5.2 x hx).1⟩
    exact ⟨hq, ⟨by rw [h3.1]; omega, by have := (bitsOk_len h4.1).1; omega, by have := hq.tagsLen; omega, fun x hx => ⟨by rw [(h5.2 x hx).1]; omega, (h5.2 x hx).2⟩, h3.2, h4.2⟩⟩
end Go.Ev.G
/- Readers of headers, blocks, timeout certificates, proofs. -/
namespace Go.Ev.G
open Go.Ev
theorem isNum_bd {x : Int} (h : isNum x = true) : 0 ≤ x ∧ x ≤ 1152921504606846975 := isNum_iff.1 h
def gHead (l : DLimits) : List Int → Res DHead := gBind gNum fun a => gBind gNum fun c => gChk (c != 0) 5 (gBind (gBelow l.1 5) fun d => gBind (gRaw 32) fun e => gBind (gRaw 32) fun f => gBind (gQc l) fun q => gChk (fits (a, c, d, e, f, q, ())) 6 (gRet (a, c, d, e, f, q, ())))
theorem oHead {l : DLimits} (hlim : limitsOk l = true) {b : List Int} (hb : Bytes b) (hl : b.length < 1000000000) {p code : Int} (ha : At b p code) : Out (fun k => ireadHead k l (b, p, code, ())) (St (gHead l) b p code) b fitHead := by
  unfold ireadHead gHead
  refine Out.bind (oNum hb hl ha) fun x1 p1 c1 _ a1 => Out.bind (oNum hb hl a1) fun x2 p2 c2 _ a2 => Out.must (by omega) a2 fun c2' a2' _ => Out.bind (oBelow hb hl (by omega) a2') fun x3 p3 c3 _ a3 => Out.bind (oHash hb hl a3) fun x4 p4 c4 h4 a4 => Out.bind (oHash hb hl a4) fun x5 p5 c5 h5 a5 => Out.bind (oQc hlim hb hl a5) fun q p6 c6 hq a6 => ?_
  simp only [iHead_matches_eq, Option.bind_some]
  exact Out.must (by omega) a6 fun c7 a7 _ => Out.ret ⟨h4.fit.1, h5.fit.1, h4.2, h5.2, hq⟩ a7
theorem pHead {l : DLimits} (hl : limitsOk l = true) : PP (gHead l) headB (fun h => HeadIs l h ∧ fitHead h) := by
  have hn := limitsOk_N hl
  have := PP.bind (γ := DHead) (fun z => z.1) (W := fun z a => isNum z.2.1 = true ∧ (z.2.1 != 0) = true ∧ (isNum z.2.2.1 = true ∧ z.2.2.1 < l.1) ∧ (z.2.2.2.1.length = 32 ∧ Bytes z.2.2.2.1) ∧ (z.2.2.2.2.1.length = 32 ∧ Bytes z.2.2.2.2.1) ∧ (QcIs l z.2.2.2.2.2.1 ∧ fitQc z.2.2.2.2.2.1) ∧ fits z = true ∧ z = (a, z.2.1, z.2.2.1, z.2.2.2.1, z.2.2.2.2.1, z.2.2.2.2.2.1, ())) (fun z x h => by rw [h.2.2.2.2.2.2.2]) pNum (fun a _ =>
    PP.bind (γ := DHead) (fun z => z.2.1) (W := fun z c => (c != 0) = true ∧ (isNum z.2.2.1 = true ∧ z.2.2.1 < l.1) ∧ (z.2.2.2.1.length = 32 ∧ Bytes z.2.2.2.1) ∧ (z.2.2.2.2.1.length = 32 ∧ Bytes z.2.2.2.2.1) ∧ (QcIs l z.2.2.2.2.2.1 ∧ fitQc z.2.2.2.2.2.1) ∧ fits z = true ∧ z = (a, c, z.2.2.1, z.2.2.2.1, z.2.2.2.2.1, z.2.2.2.2.2.1, ())) (fun z x h => by rw [h.2.2.2.2.2.2]) pNum (fun c _ => PP.chk (c := 5) fun _ =>
    PP.bind (γ := DHead) (fun z => z.2.2.1) (W := fun z d => (z.2.2.2.1.length = 32 ∧ Bytes z.2.2.2.1) ∧ (z.2.2.2.2.1.length = 32 ∧ Bytes z.2.2.2.2.1) ∧ (QcIs l z.2.2.2.2.2.1 ∧ fitQc z.2.2.2.2.2.1) ∧ fits z = true ∧ z = (a, c, d, z.2.2.2.1, z.2.2.2.2.1, z.2.2.2.2.2.1, ())) (fun z x h => by rw [h.2.2.2.2]) (pBelow l.1 5) (fun d _ =>
    PP.bind (γ := DHead) (fun z => z.2.2.2.1) (W := fun z e => (z.2.2.2.2.1.length = 32 ∧ Bytes z.2.2.2.2.1) ∧ (QcIs l z.2.2.2.2.2.1 ∧ fitQc z.2.2.2.2.2.1) ∧ fits z = true ∧ z = (a, c, d, e, z.2.2.2.2.1, z.2.2.2.2.2.1, ())) (fun z x h => by rw [h.2.2.2]) pHash (fun e _ =>
    PP.bind (γ := DHead) (fun z => z.2.2.2.2.1) (W := fun z f => (QcIs l z.2.2.2.2.2.1 ∧ fitQc z.2.2.2.2.2.1) ∧ fits z = true ∧ z = (a, c, d, e, f, z.2.2.2.2.2.1, ())) (fun z x h => by rw [h.2.2]) pHash (fun f _ =>
    PP.bind (γ := DHead) (fun z => z.2.2.2.2.2.1) (W := fun z q => fits z = true ∧ z = (a, c, d, e, f, q, ())) (fun z x h => by rw [h.2]) (pQc hl) (fun q _ =>
      (PP.chk (p := fits (a, c, d, e, f, q, ())) (c := 6) fun _ => PP.ret ((a, c, d, e, f, q, ()) : DHead)).congr (fun z => ⟨fun h => ⟨by rw [← h.2]; exact h.1, h.2⟩, fun h => ⟨by rw [h.2]; exact h.1, h.2⟩⟩) (fun _ _ => rfl)))))))
  refine PP.congr this (fun h => ?_) (fun h _ => by unfold headB; simp only [id, List.append_nil])
  constructor
  · rintro ⟨h, hf⟩
    refine ⟨h.view, h.heightNum, ?_, ⟨h.propNum, h.prop.2⟩, ⟨h.parent, hf.2.2.1⟩, ⟨h.root, hf.2.2.2.1⟩, ⟨h.qc, hf.2.2.2.2⟩, ?_, rfl⟩
    · rw [bne_iff_ne]; have := h.height; omega
    · have := headOk_iff.2 h
      simp only [headOk, Bool.and_eq_true] at this
      exact this.2.2.2.2.2
  · rintro ⟨h1, h2, h3, h4, h5, h6, h7, h8, _⟩
    rw [bne_iff_ne] at h3
    have hb1 := isNum_bd h2
    have hb2 := isNum_bd h4.1
    refine ⟨headOk_iff.1 ?_, by rw [h5.1]; omega, by rw [h6.1]; omega, h5.2, h6.2, h7.2⟩
    simp only [headOk, Bool.and_eq_true, List.all_cons, List.all_nil, Bool.and_true, hashB_iff, within_iff]
    exact ⟨qcOk_iff.2 h7.1, h1, ⟨by omega, hb1.2⟩, ⟨hb2.1, by rw [su_ok (by omega) (by omega)]; omega⟩, ⟨h5.1, h6.1⟩, h8⟩
/-! ### Blocks -/
def gBlock (l : DLimits) : List Int → Res DBlock := gBind (gHead l) fun h => gBind (gBelow (l.2.2.1 + 1) 3) fun n => gBind (gRep n.toNat (gText l.2.1)) fun ts => gChk (h.2.2.2.2.1 == root ts) 7 (gRet (h, ts, ()))
theorem oBlock {l : DLimits} (hlim : limitsOk l = true) {b : List Int} (hb : Bytes b) (hl : b.length < 1000000000) {p code : Int} (ha : At b p code) : Out (fun k => ireadBlock k l (b, p, code, ())) (St (gBlock l) b p code) b fitBlock := by
  have ht := limitsOk_txs hlim
  unfold ireadBlock gBlock
  rw [ad_ok (by omega) (by omega)]
  refine Out.bind (oHead hlim hb hl ha) fun h p1 c1 hh a1 => ?_
  obtain ⟨n, p2, c2, hy2, hn2, a2, e2, en2⟩ := oBelow (n := l.2.2.1 + 1) (c := 3) hb hl (by omega) a1
  have hnb := isNum_bd hn2
  -- the loop of texts: how many rounds it takes is bounded by what was read
  by_cases hc2 : c2 = 0
  · have hn8 : n < l.2.2.1 + 1 := by
      have e := e2 hc2
      have hs : ∃ s, gBelow (l.2.2.1 + 1) 3 s = .inl (n, b.drop p2.toNat) := by
        unfold St at e
        split at e
        · exact ⟨_, e⟩
        · cases e
      obtain ⟨s, hs⟩ := hs
      obtain ⟨x, r, _, e4⟩ := gBind_inl hs
      unfold gChk at e4
      cases hd : decide (x < l.2.2.1 + 1) with
      | false => rw [hd] at e4; cases e4
      | true =>
        rw [hd] at e4
        have : x = n := by
          have : (Sum.inl (x, r) : Res Int) = Sum.inl (n, b.drop p2.toNat) := e4
          injection this with h
          exact congrArg Prod.fst h
        rw [← this]
        exact of_decide_eq_true hd
    have hloop := oRepS (b := b) (f := fun k r => ireader_text k r l.2.1) (g := gText l.2.1) (fit := TextFit l.2.1) (fun p code ha => oText hb hl ha) (n := n.toNat) (by omega) (fun k r out i => ireadBlock_l0 k r l b0 (h, out, ()) n i) (fun r out => (r, b0, ((h, out, ()) : DBlock))) (fun k r out i => by rw [show ((n.toNat : Nat) : Int) = n by omega]; rfl) n.toNat 0 [] p2 c2 (by omega) rfl a2
    obtain ⟨ts, p3, c3, hy3, hlen, hfx, a3, g0, g1⟩ := hloop
    have hok : okL ts := ⟨by omega, fun x hx => ⟨by have := (hfx x hx).1; omega, (hfx x hx).2⟩⟩
    have hrest : Out (fun k => cond (((b, p3, c3, ()) : Dl01Cur).2.2.1 != 0) ((ireader_must (b, p3, c3, ()) true 7).bind fun v_6 => some (((h, ts, ()) : DBlock), v_6)) ((iTreeRoot k ts).bind fun v_7 => (iSameBytes h.2.2.2.2.1 v_7).bind fun v_8 => (ireader_must (b, p3, c3, ()) v_8 7).bind fun v_9 => some ((h, ts, ()), v_9))) (St (gChk (h.2.2.2.2.1 == root ts) 7 (gRet (h, ts, ()))) b p3 c3) b fitBlock := by
      by_cases hc3 : c3 = 0
      · have := Out.must (b := b) (F := fun _ r => some (((h, ts, ()) : DBlock), r)) (q := h.2.2.2.2.1 == root ts) (c := 7) (by omega) a3 (g2 := gRet (h, ts, ())) (fit2 := fitBlock) fun c4 a4 _ => Out.ret (x := (h, ts, ())) ⟨hh, hok⟩ a4
        obtain ⟨y, p4, c4, hy, r⟩ := this
        refine ⟨y, p4, c4, ?_, r⟩
        simp only [bne, nz_true hc3, Bool.not_true, cond_false, iSameBytes_eq]
        exact Y.bind (iRoot_Y hok) hy
      · refine ⟨(h, ts, ()), p3, c3, ?_, ⟨hh, hok⟩, a3, fun h => absurd h hc3, fun _ => by unfold St; rw [if_neg hc3]⟩
        simp only [bne, nz_false hc3, Bool.not_false, cond_true]
        unfold ireader_must
        rw [nz_false hc3]
        exact Y.pure _
    obtain ⟨y, p4, c4, hy4, hf4, a4, r0, r1⟩ := hrest
    refine ⟨y, p4, c4, Y.bind hy2 (Y.bind hy3 hy4), hf4, a4, ?_⟩
    have e : St (gBind (gBelow (l.2.2.1 + 1) 3) fun n => gBind (gRep n.toNat (gText l.2.1)) fun ts => gChk (h.2.2.2.2.1 == root ts) 7 (gRet (h, ts, ()))) b p1 c1 = St (gChk (h.2.2.2.2.1 == root ts) 7 (gRet (h, ts, ()))) b p3 c3 := by
      rw [St_bind, e2 hc2]
      have es : St (gRep n.toNat (gText l.2.1)) b p2 c2 = gRep n.toNat (gText l.2.1) (b.drop p2.toNat) := by unfold St; rw [if_pos hc2]
      rw [es] at g0 g1
      show gBind (gRep n.toNat (gText l.2.1)) (fun ts => gChk (h.2.2.2.2.1 == root ts) 7 (gRet (h, ts, ()))) (b.drop p2.toNat) = _
      unfold gBind
      by_cases hc3 : c3 = 0
      · rw [g0 hc3]; unfold St; rw [if_pos hc3]
      · rw [g1 hc3]; unfold St; rw [if_neg hc3]
    rw [e]
    exact ⟨r0, r1⟩
  · -- an error was noted before the loop: it runs no round
    refine ⟨(h, [], ()), p2, c2, Y.bind hy2 (Y.bind (a := ((b, p2, c2, ()), b0, (h, [], ()))) (Y.step ?_) ?_), ⟨hh, by show 0 < _; omega, fun x hx => absurd hx (List.not_mem_nil)⟩, a2, fun h => absurd h hc2, fun _ => by rw [St_bind, en2 hc2]⟩
    · simp only [ireadBlock_l0]
      rw [nz_false hc2]
      cases decide (0 < n) <;> exact Y.pure _
    · simp only [bne, nz_false hc2, Bool.not_false, cond_true]
      unfold ireader_must
      rw [nz_false hc2]
      exact Y.pure _
theorem pBlock {l : DLimits} (hl : limitsOk l = true) : PP (gBlock l) blockB (fun x => BlockIs l x ∧ fitBlock x) := by
  have ht := limitsOk_txs hl
  have := PP.bind (γ := DBlock) (fun z => z.1) (W := fun z h => (isNum (len z.2.1) = true ∧ len z.2.1 < l.2.2.1 + 1) ∧ (z.2.1.length = (len z.2.1).toNat ∧ ∀ t ∈ z.2.1, len t ≤ l.2.1 ∧ Bytes t) ∧ (h.2.2.2.2.1 == root z.2.1) = true ∧ z = (h, z.2.1, ())) (fun z x h => by rw [h.2.2.2]) (pHead hl) (fun h _ =>
    (PP.bind (γ := DBlock) (fun z => len z.2.1) (W := fun z n => (z.2.1.length = n.toNat ∧ ∀ t ∈ z.2.1, len t ≤ l.2.1 ∧ Bytes t) ∧ (h.2.2.2.2.1 == root z.2.1) = true ∧ z = (h, z.2.1, ()) ∧ len z.2.1 = n) (fun z x h => h.2.2.2) (pBelow (l.2.2.1 + 1) 3) (fun n hn =>
    (PP.bind (γ := DBlock) (fun z => z.2.1) (W := fun z ts => (h.2.2.2.2.1 == root ts) = true ∧ z = (h, ts, ())) (fun z x h => by rw [h.2]) (PP.rep [] (pText l.2.1 (by omega)) n.toNat) (fun ts _ => PP.chk (c := 7) fun _ => PP.ret ((h, ts, ()) : DBlock))).congr (fun z => by
      have := isNum_bd hn.1
      constructor
      · rintro ⟨a, b, c, _⟩; exact ⟨a, b, c⟩
      · rintro ⟨a, b, c⟩; exact ⟨a, b, c, by unfold len; omega⟩) (fun _ _ => rfl))).congr (fun z => ⟨fun ⟨a, b, c, d⟩ => ⟨a, b, c, d, rfl⟩, fun ⟨a, b, c, d, _⟩ => ⟨a, b, c, d⟩⟩) (fun _ _ => rfl))
  refine PP.congr this (fun x => ?_) (fun x _ => by unfold blockB; simp only [List.append_nil])
  constructor
  · rintro ⟨h, hf⟩
    have hs := h.small
    exact ⟨⟨h.head, hf.1⟩, ⟨len_num (by omega), by have := h.txs; unfold len; omega⟩, ⟨by simp [len], fun t ht => ⟨h.tx t ht, (hf.2.2 t ht).2⟩⟩, by rw [h.root]; simp, rfl⟩
  · rintro ⟨h1, ⟨_, h2⟩, ⟨_, h3⟩, h4, _⟩
    unfold len at h2
    refine ⟨⟨h1.1, by omega, fun t ht => (h3 t ht).1, by simpa using h4⟩, h1.2, by omega, fun t ht => ⟨by have := (h3 t ht).1; unfold len at this; omega, (h3 t ht).2⟩⟩
end Go.Ev.G
/- Readers of timeout certificates and proofs. -/
namespace Go.Ev.G
open Go.Ev
def bef (w : Int) : Option DEntry := some (w, 0, [], ())
def gEnts (n v : Int) : Nat → Int → List Int → Res (List DEntry)
  | 0, _ => gRet []
  | m + 1, w => gBind (gBelow n 5) fun a => gChk (decide (a > w)) 6 (gBind (gBelow v 6) fun c => gBind (gRaw 32) fun t => gBind (gEnts n v m a) fun es => gRet ((a, c, t, ()) :: es))
theorem entsOk_bef {n v : Int} {e : DEntry} {es : List DEntry} : entsOk n v (some e) es = entsOk n v (bef e.1) es := by
  cases es <;> rfl
def e0 : DEntry := (0, 0, [], ())
theorem pEnts (n v : Int) : ∀ (m : Nat) (w : Int), PP (gEnts n v m w) (fun es => (es.map entB).flatten) (fun es => es.length = m ∧ entsOk (n - 1) (v - 1) (bef w) es = true ∧ ∀ e ∈ es, (isNum e.1 = true ∧ isNum e.2.1 = true) ∧ Bytes e.2.2.1) := by
  intro m
  induction m with
  | zero =>
    intro w
    refine PP.congr (PP.ret ([] : List DEntry)) (fun es => ?_) (fun es h => ?_)
    · constructor
      · rintro ⟨h, _⟩; exact List.length_eq_zero_iff.1 h
      · rintro rfl; exact ⟨rfl, rfl, fun x hx => absurd hx (List.not_mem_nil)⟩
    · rw [List.length_eq_zero_iff.1 h.1]; rfl
  | succ m ih =>
    intro w
    have := PP.bind (γ := List DEntry) (fun z => (z.headD e0).1) (W := fun z a => decide (a > w) = true ∧ (isNum (z.headD e0).2.1 = true ∧ (z.headD e0).2.1 < v) ∧ ((z.headD e0).2.2.1.length = 32 ∧ Bytes (z.headD e0).2.2.1) ∧ (z.tail.length = m ∧ entsOk (n - 1) (v - 1) (bef a) z.tail = true ∧ ∀ e ∈ z.tail, (isNum e.1 = true ∧ isNum e.2.1 = true) ∧ Bytes e.2.2.1) ∧ z = (a, (z.headD e0).2.1, (z.headD e0).2.2.1, ()) :: z.tail) (fun z a h => by rw [h.2.2.2.2]; rfl) (pBelow n 5) (fun a _ => PP.chk (c := 6) fun _ =>
      PP.bind (γ := List DEntry) (fun z => (z.headD e0).2.1) (W := fun z c => ((z.headD e0).2.2.1.length = 32 ∧ Bytes (z.headD e0).2.2.1) ∧ (z.tail.length = m ∧ entsOk (n - 1) (v - 1) (bef a) z.tail = true ∧ ∀ e ∈ z.tail, (isNum e.1 = true ∧ isNum e.2.1 = true) ∧ Bytes e.2.2.1) ∧ z = (a, c, (z.headD e0).2.2.1, ()) :: z.tail) (fun z c h => by rw [h.2.2]; rfl) (pBelow v 6) (fun c _ =>
      PP.bind (γ := List DEntry) (fun z => (z.headD e0).2.2.1) (W := fun z t => (z.tail.length = m ∧ entsOk (n - 1) (v - 1) (bef a) z.tail = true ∧ ∀ e ∈ z.tail, (isNum e.1 = true ∧ isNum e.2.1 = true) ∧ Bytes e.2.2.1) ∧ z = (a, c, t, ()) :: z.tail) (fun z t h => by rw [h.2]; rfl) pHash (fun t _ =>
      PP.bind (γ := List DEntry) (fun z => z.tail) (W := fun z es => z = (a, c, t, ()) :: es) (fun z es h => by rw [h]; rfl) (ih a) (fun es _ => PP.ret ((a, c, t, ()) :: es)))))
    refine PP.congr this (fun es => ?_) (fun es h => ?_)
    · constructor
      · rintro ⟨h1, h2, h3⟩
        match es, h1 with
        | e :: es, h1 =>
          simp only [entsOk, bef, Bool.and_eq_true, decide_eq_true_eq] at h2
          have he := entOk_iff.1 h2.1.1
          have hb := h3 e (by simp)
          refine ⟨⟨hb.1.1, he.who.2⟩, decide_eq_true h2.1.2, ⟨hb.1.2, he.high.2⟩, ⟨he.tag, hb.2⟩, ⟨by simpa using h1, by rw [entsOk_bef] at h2; exact h2.2, fun x hx => h3 x (List.mem_cons_of_mem _ hx)⟩, rfl⟩
      · rintro ⟨⟨h1, h1'⟩, h2, ⟨h3, h3'⟩, ⟨h4, h4'⟩, ⟨h5, h6, h7⟩, h8⟩
        match es, h8 with
        | e :: es, _ =>
          have hb1 := isNum_bd h1
          have hb2 := isNum_bd h3
          refine ⟨by simpa using h5, ?_, fun x hx => ?_⟩
          · simp only [entsOk, bef, Bool.and_eq_true, decide_eq_true_eq]
            exact ⟨⟨entOk_iff.2 ⟨⟨hb1.1, h1'⟩, ⟨hb2.1, h3'⟩, h4⟩, of_decide_eq_true h2⟩, by rw [entsOk_bef]; exact h6⟩
          · rcases List.mem_cons.1 hx with rfl | hx
            · exact ⟨⟨h1, h3⟩, h4'⟩
            · exact h7 x hx
    · match es, h.1 with
      | e :: es, _ =>
        simp only [List.map_cons, List.flatten_cons, entB, id, List.headD_cons, List.tail_cons, List.append_nil, List.append_assoc]
def gTc (l : DLimits) : List Int → Res DTc := gBind gNum fun v => gBind (gBelow (l.1 + 1) 3) fun n => gBind (gEnts l.1 v n.toNat (-1)) fun es => gRet (v, es, ())
theorem below_lt {n c x : Int} {s r : List Int} (h : gBelow n c s = .inl (x, r)) : x < n := by
  obtain ⟨y, r', _, e⟩ := gBind_inl h
  unfold gChk at e
  cases hd : decide (y < n) with
  | false => rw [hd] at e; cases e
  | true =>
    rw [hd] at e
    have h1 : (Sum.inl (y, r') : Res Int) = Sum.inl (x, r) := e
    injection h1 with h2
    have : y = x := congrArg Prod.fst h2
    rw [← this]
    exact of_decide_eq_true hd
theorem St_below {n c x p code : Int} {b r : List Int} (h : St (gBelow n c) b p code = .inl (x, r)) : x < n := by
  unfold St at h
  split at h
  · exact below_lt h
  · cases h
def fitEnt (e : DEntry) : Prop := e.2.2.1.length < 1000000000 ∧ Bytes e.2.2.1
theorem oEnts {l : DLimits} {b : List Int} (hb : Bytes b) (hl : b.length < 1000000000) {n : Nat} (hn : n < 1000) {v : Int} : ∀ (m i : Nat) (out : List DEntry) (w p code : Int), i + m = n → out.length = i → At b p code → ∃ xs p' code', Y (fun k => ireadTc_l0 k (b, p, code, ()) l t0 (v, out, ()) n w i) ((b, p', code', ()), t0, (v, out ++ xs, ())) ∧ xs.length ≤ m ∧ OutL xs p' code' (St (gEnts l.1 v m w) b p code) b fitEnt := by
  intro m
  induction m with
  | zero =>
    intro i out w p code hi ho ha
    refine ⟨[], p, code, Y.step ?_, Nat.le_refl _, fun x hx => absurd hx (List.not_mem_nil), ha, fun h => ?_, fun h => ?_⟩
    · simp only [ireadTc_l0]
      rw [decide_eq_false (show ¬ (i : Int) < (n : Int) by omega), List.append_nil]
      exact Y.pure _
    · unfold St; rw [if_pos h]; rfl
    · unfold St; rw [if_neg h]
  | succ m ih =>
    intro i out w p code hi ho ha
    by_cases hcode : code = 0
    · -- one entry, then the others
      have hall : Out (fun k => (ireader_below k (b, p, code, ()) l.1 5).bind fun v_3 => (ireader_must v_3.2 (decide (v_3.1 > w)) 6).bind fun v_4 => (ireader_below k v_4 v 6).bind fun v_5 => (ireader_hash v_5.2).bind fun v_6 => some (((v_3.1, v_5.1, v_6.1, ()) : DEntry), v_6.2)) (St (gBind (gBelow l.1 5) fun a => gChk (decide (a > w)) 6 (gBind (gBelow v 6) fun c => gBind (gRaw 32) fun t => gRet (a, c, t, ()))) b p code) b fitEnt :=
        Out.bind (oBelow hb hl (by omega) ha) fun x1 p1 c1 _ a1 => Out.must (by omega) a1 fun c2 a2 _ => Out.bind (oBelow hb hl (by omega) a2) fun x3 p3 c3 _ a3 => Out.bind (oHash hb hl a3) fun x4 p4 c4 h4 a4 => Out.ret h4.fit a4
      obtain ⟨y, p1, c1, hy, hfy, ha1, h0, hnz⟩ := hall
      obtain ⟨xs, p', code', hy2, hx1, hx2, ha', h0', hn'⟩ := ih (i + 1) (out ++ [y]) y.1 p1 c1 (by omega) (by rw [List.length_append, ho]; rfl) ha1
      have hsplit : ∀ s, gEnts l.1 v (m + 1) w s = gBind (gBind (gBelow l.1 5) fun a => gChk (decide (a > w)) 6 (gBind (gBelow v 6) fun c => gBind (gRaw 32) fun t => gRet ((a, c, t, ()) : DEntry))) (fun e => gBind (gEnts l.1 v m e.1) fun es => gRet (e :: es)) s := by
        intro s
        show gBind (gBelow l.1 5) _ s = _
        unfold gBind
        cases gBelow l.1 5 s with
        | inr c => rfl
        | inl q =>
          obtain ⟨a, r⟩ := q
          simp only
          unfold gChk
          cases decide (a > w) with
          | false => rfl
          | true =>
            simp only [cond_true]
            cases gBelow v 6 r with
            | inr c => rfl
            | inl q =>
              obtain ⟨c, r⟩ := q
              simp only
              cases gRaw 32 r with
              | inr c => rfl
              | inl q => rfl
      have hres : St (gEnts l.1 v (m + 1) w) b p code = match St (gEnts l.1 v m y.1) b p1 c1 with | .inl (xs, r) => .inl (y :: xs, r) | .inr c => .inr c := by
        have e1 : St (gEnts l.1 v (m + 1) w) b p code = St (gBind (gBind (gBelow l.1 5) fun a => gChk (decide (a > w)) 6 (gBind (gBelow v 6) fun c => gBind (gRaw 32) fun t => gRet ((a, c, t, ()) : DEntry))) (fun e => gBind (gEnts l.1 v m e.1) fun es => gRet (e :: es))) b p code := by
          unfold St
          rw [hsplit]
        rw [e1, St_bind]
        by_cases hc : c1 = 0
        · rw [h0 hc]
          unfold St
          rw [if_pos hc]
          show gBind (gEnts l.1 v m y.1) (fun xs => gRet (y :: xs)) (b.drop p1.toNat) = _
          unfold gBind
          cases gEnts l.1 v m y.1 (b.drop p1.toNat) <;> rfl
        · rw [hnz hc]
          unfold St
          rw [if_neg hc]
      refine ⟨y :: xs, p', code', Y.step ?_, by simp; omega, fun x hx => ?_, ha', fun h => ?_, fun h => ?_⟩
      · simp only [ireadTc_l0]
        rw [decide_eq_true (show (i : Int) < (n : Int) by omega), nz_true hcode]
        simp only [cond_true]
        -- the entry's readings, with what follows them
        have hcont : Y (fun k => ((ireader_below k (b, p, code, ()) l.1 5).bind fun v_3 => (ireader_must v_3.2 (decide (v_3.1 > w)) 6).bind fun v_4 => (ireader_below k v_4 v 6).bind fun v_5 => (ireader_hash v_5.2).bind fun v_6 => some (((v_3.1, v_5.1, v_6.1, ()) : DEntry), v_6.2)).bind fun z => (app out [z.1]).bind fun v_7 => ireadTc_l0 k z.2 l t0 (v, v_7, ()) n z.1.1 (ad .i64 i 1)) ((b, p', code', ()), t0, (v, out ++ y :: xs, ())) := by
          refine Y.bind hy ?_
          simp only
          rw [app_ok (by simp only [List.length_cons, List.length_nil]; omega), ad_ok (by omega) (by omega)]
          rw [List.append_assoc] at hy2
          exact hy2
        refine Y.congr (fun k => ?_) hcont
        simp only [Option.bind_assoc, Option.bind_some]
      · rcases List.mem_cons.1 hx with rfl | hx
        · exact hfy
        · exact hx2 x hx
      · rw [hres, h0' h]
      · rw [hres, hn' h]
    · refine ⟨[], p, code, Y.step ?_, Nat.zero_le _, fun x hx => absurd hx (List.not_mem_nil), ha, fun h => absurd h hcode, fun h => ?_⟩
      · simp only [ireadTc_l0]
        rw [decide_eq_true (show (i : Int) < (n : Int) by omega), nz_false hcode, List.append_nil]
        exact Y.pure _
      · unfold St; rw [if_neg h]
end Go.Ev.G
/- Readers of timeout certificates and proofs, whole. -/
namespace Go.Ev.G
open Go.Ev
theorem entsOk_none (n v : Int) (es : List DEntry) : entsOk n v none es = entsOk n v (bef (-1)) es := by
  cases es with
  | nil => rfl
  | cons e es =>
    simp only [entsOk, bef, Bool.and_true]
    cases ho : entOk n v e with
    | false => rfl
    | true =>
      have : 0 ≤ e.1 := by
        simp only [entOk, Bool.and_eq_true, within_iff] at ho
        exact ho.1.1
      rw [decide_eq_true (show (-1 : Int) < e.1 by omega)]
      rfl
theorem pTc {l : DLimits} (hl : limitsOk l = true) : PP (gTc l) tcB (fun t => TcIs l t ∧ fitTc t) := by
  have hn := limitsOk_N hl
  have := PP.bind (γ := DTc) (fun z => z.1) (W := fun z v => (isNum (len z.2.1) = true ∧ len z.2.1 < l.1 + 1) ∧ (z.2.1.length = (len z.2.1).toNat ∧ entsOk (l.1 - 1) (v - 1) (bef (-1)) z.2.1 = true ∧ ∀ e ∈ z.2.1, (isNum e.1 = true ∧ isNum e.2.1 = true) ∧ Bytes e.2.2.1) ∧ z = (v, z.2.1, ())) (fun z v h => by rw [h.2.2]) pNum (fun v _ =>
    (PP.bind (γ := DTc) (fun z => len z.2.1) (W := fun z n => (z.2.1.length = n.toNat ∧ entsOk (l.1 - 1) (v - 1) (bef (-1)) z.2.1 = true ∧ ∀ e ∈ z.2.1, (isNum e.1 = true ∧ isNum e.2.1 = true) ∧ Bytes e.2.2.1) ∧ z = (v, z.2.1, ()) ∧ len z.2.1 = n) (fun z x h => h.2.2) (pBelow (l.1 + 1) 3) (fun n hn =>
    (PP.bind (γ := DTc) (fun z => z.2.1) (W := fun z es => z = (v, es, ())) (fun z x h => by rw [h]) (pEnts l.1 v n.toNat (-1)) (fun es _ => PP.ret ((v, es, ()) : DTc))).congr (fun z => by
      have := isNum_bd hn.1
      constructor
      · rintro ⟨a, b, _⟩; exact ⟨a, b⟩
      · rintro ⟨a, b⟩; exact ⟨a, b, by unfold len; omega⟩) (fun _ _ => rfl))).congr (fun z => ⟨fun ⟨a, b, c⟩ => ⟨a, b, c, rfl⟩, fun ⟨a, b, c, _⟩ => ⟨a, b, c⟩⟩) (fun _ _ => rfl))
  refine PP.congr this (fun t => ?_) (fun x _ => by unfold tcB; simp only [List.append_nil])
  constructor
  · rintro ⟨h, hf⟩
    have hs := h.each
    exact ⟨h.view, ⟨len_num (by omega), by have := h.size; unfold len; omega⟩, ⟨by simp [len], by rw [← entsOk_none]; exact h.ents, fun e he => ⟨(hs.2 e he).num h.lim h.view, (hf.2 e he).2⟩⟩, rfl⟩
  · rintro ⟨h1, ⟨_, h2⟩, ⟨_, h3, h4⟩, _⟩
    unfold len at h2
    have ht : TcIs l t := ⟨hl, h1, by omega, by rw [entsOk_none]; exact h3⟩
    have hs := ht.each
    exact ⟨ht, by omega, fun e he => ⟨by have := (hs.2 e he).tag; omega, (h4 e he).2⟩⟩
theorem oTc {l : DLimits} (hlim : limitsOk l = true) {b : List Int} (hb : Bytes b) (hl : b.length < 1000000000) {p code : Int} (ha : At b p code) : Out (fun k => ireadTc k l (b, p, code, ())) (St (gTc l) b p code) b fitTc := by
  have hn := limitsOk_N hlim
  unfold ireadTc gTc
  rw [ad_ok (by omega) (by omega)]
  refine Out.bind (oNum hb hl ha) fun v p1 c1 hv a1 => ?_
  obtain ⟨n, p2, c2, hy2, hn2, a2, e2, en2⟩ := oBelow (n := l.1 + 1) (c := 3) hb hl (by omega) a1
  have hnb := isNum_bd hn2
  by_cases hc2 : c2 = 0
  · have hn8 := St_below (e2 hc2)
    obtain ⟨es, p3, c3, hy3, hlen, hfx, a3, g0, g1⟩ := oEnts (l := l) (v := v) hb hl (n := n.toNat) (by omega) n.toNat 0 [] (-1) p2 c2 (by omega) rfl a2
    rw [show ((n.toNat : Nat) : Int) = n by omega] at hy3
    refine ⟨(v, es, ()), p3, c3, Y.bind hy2 (Y.bind hy3 (Y.pure _)), ⟨by show es.length < _; omega, hfx⟩, a3, ?_⟩
    have e : St (gBind (gBelow (l.1 + 1) 3) fun n => gBind (gEnts l.1 v n.toNat (-1)) fun es => gRet ((v, es, ()) : DTc)) b p1 c1 = match St (gEnts l.1 v n.toNat (-1)) b p2 c2 with | .inl (xs, r) => .inl ((v, xs, ()), r) | .inr c => .inr c := by
      rw [St_bind, e2 hc2]
      unfold St
      rw [if_pos hc2]
      show gBind (gEnts l.1 v n.toNat (-1)) (fun es => gRet ((v, es, ()) : DTc)) (b.drop p2.toNat) = _
      unfold gBind
      cases gEnts l.1 v n.toNat (-1) (b.drop p2.toNat) <;> rfl
    rw [e]
    exact ⟨fun h => by rw [g0 h], fun h => by rw [g1 h]⟩
  · refine ⟨(v, [], ()), p2, c2, Y.bind hy2 (Y.bind (a := ((b, p2, c2, ()), t0, (v, [], ()))) (Y.step ?_) (Y.pure _)), ⟨by show 0 < _; omega, fun x hx => absurd hx (List.not_mem_nil)⟩, a2, fun h => absurd h hc2, fun _ => by rw [St_bind, en2 hc2]⟩
    simp only [ireadTc_l0]
    rw [nz_false hc2]
    cases decide (0 < n) <;> exact Y.pure _
/-! ### Proofs of commits -/
def gProof (l : DLimits) : List Int → Res DProof := gBind gNum fun n => gChk (decide (n ≥ 3)) 5 (gChk (decide (n ≤ l.2.2.2.2.1)) 3 (gBind (gRep n.toNat (gHead l)) fun hs => gBind (gQc l) fun q => gChk (closes (hs, q, ())) 6 (gRet (hs, q, ()))))
theorem pProof {l : DLimits} (hl : limitsOk l = true) : PP (gProof l) proofB (fun p => ProofIs l p ∧ fitProof p) := by
  have hc := limitsOk_chain hl
  have := PP.bind (γ := DProof) (fun z => len z.1) (W := fun z n => decide (n ≥ 3) = true ∧ decide (n ≤ l.2.2.2.2.1) = true ∧ (z.1.length = n.toNat ∧ ∀ h ∈ z.1, HeadIs l h ∧ fitHead h) ∧ (QcIs l z.2.1 ∧ fitQc z.2.1) ∧ closes z = true ∧ z = (z.1, z.2.1, ()) ∧ len z.1 = n) (fun z n h => h.2.2.2.2.2.2) pNum (fun n hn => PP.chk (c := 5) fun h3 => PP.chk (c := 3) fun h5 =>
    (PP.bind (γ := DProof) (fun z => z.1) (W := fun z hs => (QcIs l z.2.1 ∧ fitQc z.2.1) ∧ closes z = true ∧ z = (hs, z.2.1, ())) (fun z x h => by rw [h.2.2]) (PP.rep h0 (pHead hl) n.toNat) (fun hs _ =>
    PP.bind (γ := DProof) (fun z => z.2.1) (W := fun z q => closes z = true ∧ z = (hs, q, ())) (fun z x h => by rw [h.2]) (pQc hl) (fun q _ =>
      (PP.chk (p := closes (hs, q, ())) (c := 6) fun _ => PP.ret ((hs, q, ()) : DProof)).congr (fun z => ⟨fun h => ⟨by rw [← h.2]; exact h.1, h.2⟩, fun h => ⟨by rw [h.2]; exact h.1, h.2⟩⟩) (fun _ _ => rfl)))).congr (fun z => by
      have := isNum_bd hn
      constructor
      · rintro ⟨a, b, c, d, _⟩; exact ⟨a, b, c, d⟩
      · rintro ⟨a, b, c, d⟩; exact ⟨a, b, c, d, by unfold len; omega⟩) (fun _ _ => rfl))
  refine PP.congr this (fun p => ?_) (fun x _ => by unfold proofB; simp only [List.append_nil])
  constructor
  · rintro ⟨h, hf⟩
    have hs := h.size
    exact ⟨len_num (by omega), decide_eq_true (by unfold len; omega), decide_eq_true (by unfold len; omega), ⟨by simp [len], fun x hx => ⟨h.heads x hx, hf.1.2 x hx⟩⟩, ⟨h.qc, hf.2⟩, h.closes, rfl, rfl⟩
  · rintro ⟨_, h2, h3, ⟨_, h4⟩, h5, h6, _⟩
    have h2' := of_decide_eq_true h2
    have h3' := of_decide_eq_true h3
    unfold len at h2' h3'
    exact ⟨⟨by omega, fun x hx => (h4 x hx).1, h5.1, h6⟩, ⟨by omega, fun x hx => (h4 x hx).2⟩, h5.2⟩
end Go.Ev.G
/- Readers of proofs; of whole messages. -/
namespace Go.Ev.G
open Go.Ev
section
variable {α β : Type} {b : List Int}
theorem St_code {g : List Int → Res α} {p code : Int} {y : α × List Int} (h : St g b p code = .inl y) : code = 0 := by
  unfold St at h
  split at h
  · assumption
  · cases h
/-- As Out.bind, with what was read at hand. -/
theorem Out.bindR {f : Nat → Option (α × Dl01Cur)} {F : Nat → α × Dl01Cur → Option (β × Dl01Cur)} {g1 : List Int → Res α} {g2 : α → List Int → Res β} {p code : Int} {fit1 : α → Prop} {fit2 : β → Prop} (h1 : Out f (St g1 b p code) b fit1)
    (h2 : ∀ y p' code', fit1 y → At b p' code' → (code' = 0 → ∃ r, St g1 b p code = .inl (y, r)) → Out (fun k => F k (y, (b, p', code', ()))) (St (g2 y) b p' code') b fit2) : Out (fun k => (f k).bind (F k)) (St (gBind g1 g2) b p code) b fit2 := by
  obtain ⟨y, p', code', hy, hf, ha, h0, hn⟩ := h1
  obtain ⟨z, p2, code2, hz, hf2, ha2, h02, hn2⟩ := h2 y p' code' hf ha (fun h => ⟨_, h0 h⟩)
  refine ⟨z, p2, code2, Y.bind hy hz, hf2, ha2, ?_⟩
  rw [St_bind]
  by_cases hc' : code' = 0
  · rw [h0 hc']
    have e3 : St (g2 y) b p' code' = g2 y (b.drop p'.toNat) := by unfold St; rw [if_pos hc']
    rw [e3] at h02 hn2
    exact ⟨h02, hn2⟩
  · rw [hn hc']
    have e3 : St (g2 y) b p' code' = .inr code' := by unfold St; rw [if_neg hc']
    rw [e3] at h02 hn2
    exact ⟨h02, hn2⟩
end
theorem gRep_len {α : Type} {g : List Int → Res α} : ∀ {m : Nat} {s r : List Int} {xs : List α}, gRep m g s = .inl (xs, r) → xs.length = m := by
  intro m
  induction m with
  | zero => intro s r xs h; cases h; rfl
  | succ m ih =>
    intro s r xs h
    obtain ⟨x, r1, _, h2⟩ := gBind_inl h
    obtain ⟨ys, r2, h3, h4⟩ := gBind_inl h2
    cases h4
    simp [ih h3]
theorem oProof {l : DLimits} (hlim : limitsOk l = true) {b : List Int} (hb : Bytes b) (hl : b.length < 1000000000) {p code : Int} (ha : At b p code) : Out (fun k => ireadProof k l (b, p, code, ())) (St (gProof l) b p code) b fitProof := by
  have hch := limitsOk_chain hlim
  unfold ireadProof gProof
  refine Out.bind (oNum hb hl ha) fun n p1 c1 hn a1 => Out.must (by omega) a1 fun c2 a2 m2 => Out.must (by omega) a2 fun c3 a3 m3 => ?_
  have hnb := isNum_bd hn
  -- the loop of headers
  have hloop : ∃ hs p4 c4, Y (fun k => ireadProof_l0 k (b, p1, c3, ()) l p0 p0 n 0) ((b, p4, c4, ()), l, p0, (hs, q0, ())) ∧ fitHeads hs ∧ At b p4 c4 ∧ (c4 = 0 → St (gRep n.toNat (gHead l)) b p1 c3 = .inl (hs, b.drop p4.toNat)) ∧ (c4 ≠ 0 → St (gRep n.toNat (gHead l)) b p1 c3 = .inr c4) ∧ (c4 = 0 → 1 ≤ hs.length) := by
    by_cases hc3 : c3 = 0
    · have h5 := of_decide_eq_true (m3 hc3).2
      have h3 := of_decide_eq_true (m2 (m3 hc3).1).2
      have := oRepS (b := b) (f := fun k r => ireadHead k l r) (g := gHead l) (fit := fitHead) (fun p code ha => oHead hlim hb hl ha) (n := n.toNat) (by omega) (fun k r out i => ireadProof_l0 k r l p0 (out, q0, ()) n i) (fun r out => (r, l, p0, ((out, q0, ()) : DProof))) (fun k r out i => by rw [show ((n.toNat : Nat) : Int) = n by omega]; rfl) n.toNat 0 [] p1 c3 (by omega) rfl a3
      obtain ⟨hs, p4, c4, hy, hlen, hfx, a4, g0, g1⟩ := this
      refine ⟨hs, p4, c4, hy, ⟨by omega, hfx⟩, a4, g0, g1, fun h => ?_⟩
      have e := g0 h
      unfold St at e
      rw [if_pos hc3] at e
      have := gRep_len e
      omega
    · refine ⟨[], p1, c3, Y.step ?_, ⟨by simp, fun x hx => absurd hx (List.not_mem_nil)⟩, a3, fun h => absurd h hc3, fun _ => by unfold St; rw [if_neg hc3], fun h => absurd h hc3⟩
      simp only [ireadProof_l0]
      rw [nz_false hc3]
      cases decide (0 < n) <;> exact Y.pure _
  obtain ⟨hs, p4, c4, hy4, hfh, a4, g0, g1, hpos⟩ := hloop
  have hrest : Out (fun k => (ireadQc k l (b, p4, c4, ())).bind fun v_7 => cond (v_7.2.2.2.1 != 0) ((ireader_must v_7.2 true 6).bind fun v_8 => some (((hs, v_7.1, ()) : DProof), v_8)) ((iProof_closes (hs, v_7.1, ())).bind fun v_9 => (ireader_must v_7.2 v_9 6).bind fun v_10 => some ((hs, v_7.1, ()), v_10))) (St (gBind (gQc l) fun q => gChk (closes (hs, q, ())) 6 (gRet (hs, q, ()))) b p4 c4) b fitProof := by
    refine Out.bindR (oQc hlim hb hl a4) fun q p5 c5 hq a5 hr => ?_
    by_cases hc5 : c5 = 0
    · obtain ⟨r, hr⟩ := hr hc5
      have h1 := hpos (St_code hr)
      have hcl : iProof_closes (hs, q, ()) = some (closes (hs, q, ())) := by
        unfold iProof_closes
        rw [last_rd (p := (hs, q, ())) h1 hfh.1]
        unfold closes
        simp only [Option.bind_some]
        cases (q.1 == (lastH (hs, q, ())).1) <;> rfl
      simp only [bne, nz_true hc5, Bool.not_true, cond_false, hcl, Option.bind_some]
      exact Out.must (by omega) a5 fun c6 a6 _ => Out.ret ⟨hfh, hq⟩ a6
    · refine ⟨(hs, q, ()), p5, c5, ?_, ⟨hfh, hq⟩, a5, fun h => absurd h hc5, fun _ => by unfold St; rw [if_neg hc5]⟩
      simp only [bne, nz_false hc5, Bool.not_false, cond_true]
      unfold ireader_must
      rw [nz_false hc5]
      exact Y.pure _
  obtain ⟨y, p5, c5, hy5, hf5, a5, r0, r1⟩ := hrest
  refine ⟨y, p5, c5, Y.bind hy4 hy5, hf5, a5, ?_⟩
  have e : St (gBind (gRep n.toNat (gHead l)) fun hs => gBind (gQc l) fun q => gChk (closes (hs, q, ())) 6 (gRet (hs, q, ()))) b p1 c3 = St (gBind (gQc l) fun q => gChk (closes (hs, q, ())) 6 (gRet (hs, q, ()))) b p4 c4 := by
    rw [St_bind]
    by_cases hc4 : c4 = 0
    · rw [g0 hc4]
      conv => rhs; unfold St
      rw [if_pos hc4]
    · rw [g1 hc4]
      conv => rhs; unfold St
      rw [if_neg hc4]
  rw [e]
  exact ⟨r0, r1⟩
/-! ### Proofs of transactions -/
def gIncl (l : DLimits) : List Int → Res DIncl := gBind gNum fun h => gBind gNum fun n => gChk (decide (n > 0)) 5 (gChk (decide (n ≤ l.2.2.1)) 3 (gBind (gBelow n 5) fun a => gBind (gText l.2.1) fun t => gBind (gRep (pathLen a n).toNat (gRaw 32)) fun ps => gRet (h, n, a, t, ps, ())))
theorem pIncl {l : DLimits} (hl : limitsOk l = true) : PP (gIncl l) inclB (fun x => InclIs l x ∧ fitIncl x) := by
  have ht := limitsOk_txs hl
  have := PP.bind (γ := DIncl) (fun z => z.1) (W := fun z h => isNum z.2.1 = true ∧ decide (z.2.1 > 0) = true ∧ decide (z.2.1 ≤ l.2.2.1) = true ∧ (isNum z.2.2.1 = true ∧ z.2.2.1 < z.2.1) ∧ (len z.2.2.2.1 ≤ l.2.1 ∧ Bytes z.2.2.2.1) ∧ (z.2.2.2.2.1.length = (pathLen z.2.2.1 z.2.1).toNat ∧ ∀ x ∈ z.2.2.2.2.1, x.length = 32 ∧ Bytes x) ∧ z = (h, z.2.1, z.2.2.1, z.2.2.2.1, z.2.2.2.2.1, ())) (fun z x h => by rw [h.2.2.2.2.2.2]) pNum (fun h _ =>
    PP.bind (γ := DIncl) (fun z => z.2.1) (W := fun z n => decide (n > 0) = true ∧ decide (n ≤ l.2.2.1) = true ∧ (isNum z.2.2.1 = true ∧ z.2.2.1 < n) ∧ (len z.2.2.2.1 ≤ l.2.1 ∧ Bytes z.2.2.2.1) ∧ (z.2.2.2.2.1.length = (pathLen z.2.2.1 n).toNat ∧ ∀ x ∈ z.2.2.2.2.1, x.length = 32 ∧ Bytes x) ∧ z = (h, n, z.2.2.1, z.2.2.2.1, z.2.2.2.2.1, ())) (fun z x h => by rw [h.2.2.2.2.2]) pNum (fun n _ => PP.chk (c := 5) fun _ => PP.chk (c := 3) fun _ =>
    PP.bind (γ := DIncl) (fun z => z.2.2.1) (W := fun z a => (len z.2.2.2.1 ≤ l.2.1 ∧ Bytes z.2.2.2.1) ∧ (z.2.2.2.2.1.length = (pathLen a n).toNat ∧ ∀ x ∈ z.2.2.2.2.1, x.length = 32 ∧ Bytes x) ∧ z = (h, n, a, z.2.2.2.1, z.2.2.2.2.1, ())) (fun z x h => by rw [h.2.2]) (pBelow n 5) (fun a _ =>
    PP.bind (γ := DIncl) (fun z => z.2.2.2.1) (W := fun z t => (z.2.2.2.2.1.length = (pathLen a n).toNat ∧ ∀ x ∈ z.2.2.2.2.1, x.length = 32 ∧ Bytes x) ∧ z = (h, n, a, t, z.2.2.2.2.1, ())) (fun z x h => by rw [h.2]) (pText l.2.1 (by omega)) (fun t _ =>
    PP.bind (γ := DIncl) (fun z => z.2.2.2.2.1) (W := fun z ps => z = (h, n, a, t, ps, ())) (fun z x h => by rw [h]) (PP.rep [] pHash (pathLen a n).toNat) (fun ps _ => PP.ret ((h, n, a, t, ps, ()) : DIncl))))))
  refine PP.congr this (fun x => ?_) (fun x _ => by unfold inclB; simp only [id, List.append_nil, List.map_id_fun])
  constructor
  · rintro ⟨h, hf⟩
    have hn := h.nums
    exact ⟨h.height, hn.1, decide_eq_true (by have := h.n; omega), decide_eq_true h.n.2, ⟨hn.2.1, h.pos.2⟩, ⟨h.tx, hf.1.2⟩, ⟨by have := h.path; omega, fun y hy => ⟨h.each y hy, (hf.2.2 y hy).2⟩⟩, rfl⟩
  · rintro ⟨h1, h2, h3, h4, ⟨h5, h5'⟩, ⟨h6, h6'⟩, ⟨h7, h7'⟩, _⟩
    have h3' := of_decide_eq_true h3
    have h4' := of_decide_eq_true h4
    have hb := isNum_bd h5
    have hp := pathLen_le (i := x.2.2.1) (n := x.2.1) (by omega)
    have hx : InclIs l x := ⟨hl, h1, ⟨by omega, h4'⟩, ⟨hb.1, h5'⟩, h6, by omega, fun y hy => (h7' y hy).1⟩
    have hn := hx.nums
    exact ⟨hx, ⟨by omega, h6'⟩, by omega, fun y hy => ⟨by rw [(h7' y hy).1]; omega, (h7' y hy).2⟩⟩
theorem oIncl {l : DLimits} (hlim : limitsOk l = true) {b : List Int} (hb : Bytes b) (hl : b.length < 1000000000) {p code : Int} (ha : At b p code) : Out (fun k => ireadIncl k l (b, p, code, ())) (St (gIncl l) b p code) b fitIncl := by
  have ht := limitsOk_txs hlim
  unfold ireadIncl gIncl
  refine Out.bind (oNum hb hl ha) fun h p1 c1 _ a1 => Out.bind (oNum hb hl a1) fun n p2 c2 hn a2 => Out.must (by omega) a2 fun c3 a3 m3 => Out.must (by omega) a3 fun c4 a4 m4 => Out.bindR (oBelow hb hl (by omega) a4) fun a p5 c5 hna a5 r5 => Out.bindR (oText hb hl a5) fun t p6 c6 hft a6 r6 => ?_
  have hab := isNum_bd hna
  by_cases hc6 : c6 = 0
  · obtain ⟨r, e6⟩ := r6 hc6
    have hc5 := St_code e6
    obtain ⟨r', e5⟩ := r5 hc5
    have hc4 := St_code e5
    have hlt := St_below e5
    have h8 := of_decide_eq_true (m4 hc4).2
    have h1 := of_decide_eq_true (m3 (m4 hc4).1).2
    have hp := pathLen_le (i := a) (n := n) (by omega)
    have hloop := oRep (b := b) (f := fun _ r => ireader_hash r) (g := gRaw 32) (fit := HashFit) (fun p code ha => oHash hb hl ha) (n := (pathLen a n).toNat) (by omega) (fun k r out i => ireadIncl_l0 k r i0 (h, n, a, t, out, ()) (pathLen a n) i) (fun r out => (r, i0, ((h, n, a, t, out, ()) : DIncl))) (fun k r out i => by rw [show (((pathLen a n).toNat : Nat) : Int) = pathLen a n by omega]; rfl) (pathLen a n).toNat 0 [] p6 c6 (by omega) rfl a6
    obtain ⟨ps, p7, c7, hy7, hlen, hfx, a7, g0, g1⟩ := hloop
    simp only [nz_true hc6, cond_true]
    refine ⟨(h, n, a, t, ps, ()), p7, c7, Y.bind (iPathLen_Y hab.1 hlt (by omega)) (Y.bind hy7 (Y.pure _)), ⟨⟨by show t.length < _; have := hft.1; omega, hft.2⟩, by show ps.length < _; omega, fun x hx => (hfx x hx).fit⟩, a7, ?_⟩
    have e : St (gBind (gRep (pathLen a n).toNat (gRaw 32)) fun ps => gRet ((h, n, a, t, ps, ()) : DIncl)) b p6 c6 = match St (gRep (pathLen a n).toNat (gRaw 32)) b p6 c6 with | .inl (xs, r) => .inl ((h, n, a, t, xs, ()), r) | .inr c => .inr c := by
      rw [St_bind]
      cases St (gRep (pathLen a n).toNat (gRaw 32)) b p6 c6 <;> rfl
    rw [e]
    exact ⟨fun h => by rw [g0 h], fun h => by rw [g1 h]⟩
  · simp only [nz_false hc6, cond_false]
    refine ⟨(h, n, a, t, [], ()), p6, c6, Y.pure _, ⟨⟨by show t.length < _; have := hft.1; omega, hft.2⟩, by show 0 < _; omega, fun x hx => absurd hx (List.not_mem_nil)⟩, a6, fun h => absurd h hc6, fun _ => by unfold St; rw [if_neg hc6]⟩
end Go.Ev.G
/- Decoding whole messages. -/
namespace Go.Ev.G
open Go.Ev
/-- What a Get answers. -/
def GetR {α : Type} (g : List Int → Res α) (b : List Int) (p : Int) (z : α) (fit : α → Prop) (v : α × Int × Int) : Prop :=
  fit v.1 ∧ ((v.2.2 = 0 ∧ 0 ≤ v.2.1 ∧ v.2.1 ≤ len b ∧ g (b.drop p.toNat) = .inl (v.1, b.drop v.2.1.toNat)) ∨ (v.2.2 ≠ 0 ∧ 1 ≤ v.2.2 ∧ v.2.2 ≤ 8 ∧ v.1 = z ∧ v.2.1 = 0 ∧ g (b.drop p.toNat) = .inr v.2.2))
theorem get_of {α : Type} {f : Nat → Option (α × Dl01Cur)} {g : List Int → Res α} {b : List Int} {p : Int} {z : α} {fit : α → Prop} (hz : fit z) (h : Out f (St g b p 0) b fit) :
    ∃ v, Y (fun k => (f k).bind fun v_2 => cond (v_2.2.2.2.1 != 0) (some (z, 0, v_2.2.2.2.1)) (some (v_2.1, v_2.2.2.1, 0))) v ∧ GetR g b p z fit v := by
  obtain ⟨y, p', c, hy, hf, ha, h0, hn⟩ := h
  have e : St g b p 0 = g (b.drop p.toNat) := rfl
  rw [e] at h0 hn
  by_cases hc : c = 0
  · have hp := ha.1 hc
    refine ⟨(y, p', 0), Y.bind hy ?_, hf, .inl ⟨rfl, hp.1, hp.2, h0 hc⟩⟩
    simp only [bne, nz_true hc, Bool.not_true, cond_false]
    exact Y.pure _
  · have hp := ha.2
    refine ⟨(z, 0, c), Y.bind hy ?_, hz, .inr ⟨hc, by show 1 ≤ c; omega, hp.2, rfl, rfl, hn hc⟩⟩
    simp only [bne, nz_false hc, Bool.not_false, cond_true]
    exact Y.pure _
section
variable {l : DLimits} (hlim : limitsOk l = true) {b : List Int} (hb : Bytes b) (hl : b.length < 1000000000) {p : Int} (h0 : 0 ≤ p) (h1 : p ≤ len b)
include hlim hb hl h0 h1
theorem at0 : At b p 0 := ⟨fun _ => ⟨h0, h1⟩, by omega, by omega⟩
theorem iGetVote_Y : ∃ v, Y (fun k => iGetVote k l b p) v ∧ GetR (gVote l) b p v0 fitVote v := by
  obtain ⟨v, hy, r⟩ := get_of (z := v0) v0_fit (oVote (l := l) hb hl (at0 hlim hb hl h0 h1))
  refine ⟨v, ?_, r⟩
  unfold iGetVote iget_implVote
  rw [iLimitsOk_eq, hlim]
  exact Y.bind hy (Y.pure _)
theorem iGetQc_Y : ∃ v, Y (fun k => iGetQc k l b p) v ∧ GetR (gQc l) b p q0 fitQc v := by
  obtain ⟨v, hy, r⟩ := get_of (z := q0) q0_fit (oQc hlim hb hl (at0 hlim hb hl h0 h1))
  refine ⟨v, ?_, r⟩
  unfold iGetQc iget_implQc
  rw [iLimitsOk_eq, hlim]
  exact Y.bind hy (Y.pure _)
theorem iGetHead_Y : ∃ v, Y (fun k => iGetHead k l b p) v ∧ GetR (gHead l) b p Go.Ev.G.h0 fitHead v := by
  obtain ⟨v, hy, r⟩ := get_of (z := Go.Ev.G.h0) h0_fit (oHead hlim hb hl (at0 hlim hb hl h0 h1))
  refine ⟨v, ?_, r⟩
  unfold iGetHead iget_implHead
  rw [iLimitsOk_eq, hlim]
  exact Y.bind hy (Y.pure _)
theorem iGetBlock_Y : ∃ v, Y (fun k => iGetBlock k l b p) v ∧ GetR (gBlock l) b p b0 fitBlock v := by
  obtain ⟨v, hy, r⟩ := get_of (z := b0) b0_fit (oBlock hlim hb hl (at0 hlim hb hl h0 h1))
  refine ⟨v, ?_, r⟩
  unfold iGetBlock iget_implBlock
  rw [iLimitsOk_eq, hlim]
  exact Y.bind hy (Y.pure _)
theorem iGetTc_Y : ∃ v, Y (fun k => iGetTc k l b p) v ∧ GetR (gTc l) b p t0 fitTc v := by
  obtain ⟨v, hy, r⟩ := get_of (z := t0) t0_fit (oTc hlim hb hl (at0 hlim hb hl h0 h1))
  refine ⟨v, ?_, r⟩
  unfold iGetTc iget_implTc
  rw [iLimitsOk_eq, hlim]
  exact Y.bind hy (Y.pure _)
theorem iGetProof_Y : ∃ v, Y (fun k => iGetProof k l b p) v ∧ GetR (gProof l) b p p0 fitProof v := by
  obtain ⟨v, hy, r⟩ := get_of (z := p0) p0_fit (oProof hlim hb hl (at0 hlim hb hl h0 h1))
  refine ⟨v, ?_, r⟩
  unfold iGetProof iget_implProof
  rw [iLimitsOk_eq, hlim]
  exact Y.bind hy (Y.pure _)
theorem iGetIncl_Y : ∃ v, Y (fun k => iGetIncl k l b p) v ∧ GetR (gIncl l) b p i0 fitIncl v := by
  obtain ⟨v, hy, r⟩ := get_of (z := i0) i0_fit (oIncl hlim hb hl (at0 hlim hb hl h0 h1))
  refine ⟨v, ?_, r⟩
  unfold iGetIncl iget_implIncl
  rw [iLimitsOk_eq, hlim]
  exact Y.bind hy (Y.pure _)
end
/-- What is told of a message of one kind. -/
structure Kd {α : Type} (l : DLimits) (K : Int) (g : List Int → Res α) (enc : α → List Int) (V : α → Prop) (mk : α → DMsg) : Prop where
  pp : PP g enc V
  inn : ∀ m, FitMsg m → msgOk l m = true → m.1 = K → ∃ x, V x ∧ m = mk x ∧ pB m = enc x
  out : ∀ x, V x → FitMsg (mk x) ∧ msgOk l (mk x) = true ∧ (mk x).1 = K ∧ pB (mk x) = enc x
/-- What is told of decoding bytes. -/
structure Dec (l : DLimits) (b : List Int) (m : DMsg) (c : Int) : Prop where
  fit : FitMsg m
  good : c = 0 → msgOk l m = true ∧ b = msgB m
  bad : c ≠ 0 → 1 ≤ c ∧ c ≤ 9 ∧ m = m0
  full : ∀ m', FitMsg m' → msgOk l m' = true → b = msgB m' → c = 0 ∧ m = m'
  short : ∀ m' t, FitMsg m' → msgOk l m' = true → msgB m' = b ++ t → t ≠ [] → c = 1
  left : ∀ m' t, FitMsg m' → msgOk l m' = true → b = msgB m' ++ t → t ≠ [] → c = 9
theorem m0_fit : FitMsg m0 := ⟨v0_fit, q0_fit, h0_fit, b0_fit, t0_fit, p0_fit, i0_fit⟩
theorem drop_end {b : List Int} {p : Int} (h0 : 0 ≤ p) (h1 : p ≤ len b) : b.drop p.toNat = [] ↔ p = len b := by
  rw [List.drop_eq_nil_iff]
  unfold len at *
  omega
def fin1 {α : Type} (mk : α → DMsg) (b : List Int) (v : α × Int × Int) : DMsg × Int := if v.2.2 = 0 then (if v.2.1 = len b then (mk v.1, 0) else (m0, 9)) else (m0, v.2.2)
theorem dec_core {α : Type} {l : DLimits} {K : Int} {g : List Int → Res α} {enc : α → List Int} {V : α → Prop} {mk : α → DMsg} (kd : Kd l K g enc V mk) {s : List Int} (hb : Bytes (K :: s)) {z : α} {fit : α → Prop} {v : α × Int × Int} (hr : GetR g (K :: s) 1 z fit v) :
    Dec l (K :: s) (fin1 mk (K :: s) v).1 (fin1 mk (K :: s) v).2 := by
  have hs : Bytes s := fun x hx => hb x (by simp [hx])
  obtain ⟨hf, hr⟩ := hr
  have hd : (K :: s).drop (1 : Int).toNat = s := rfl
  rw [hd] at hr
  have hkind : ∀ m' t, msgB m' = (K :: s) ++ t → m'.1 = K ∧ pB m' = s ++ t := fun m' t h => by
    unfold msgB at h
    injection h with h1 h2
    exact ⟨h1, h2⟩
  have hkind' : ∀ m' t, K :: s = msgB m' ++ t → m'.1 = K ∧ s = pB m' ++ t := fun m' t h => by
    unfold msgB at h
    injection h with h1 h2
    exact ⟨h1.symm, h2⟩
  rcases hr with ⟨c0, p0', p1, hg⟩ | ⟨c1, c2, c3, _, _, hg⟩
  · obtain ⟨hV, hse⟩ := kd.pp.sound s _ _ hs hg
    obtain ⟨o1, o2, o3, o4⟩ := kd.out _ hV
    by_cases hend : v.2.1 = len (K :: s)
    · have hnil := (drop_end p0' p1).2 hend
      rw [hnil, List.append_nil] at hse
      have e : fin1 mk (K :: s) v = (mk v.1, 0) := by unfold fin1; rw [if_pos c0, if_pos hend]
      rw [e]
      refine ⟨o1, fun _ => ⟨o2, by unfold msgB; rw [o3, o4, ← hse]⟩, fun h => absurd rfl h, fun m' f1 f2 f3 => ⟨rfl, ?_⟩, fun m' t f1 f2 f3 ht => ?_, fun m' t f1 f2 f3 ht => ?_⟩
      · obtain ⟨k1, k2⟩ := hkind m' [] (by rw [List.append_nil]; exact f3.symm)
        obtain ⟨x, x1, x2, x3⟩ := kd.inn m' f1 f2 k1
        have := kd.pp.full x [] x1
        rw [List.append_nil, ← x3, k2, List.append_nil, hg, hnil] at this
        have hx : v.1 = x := by
          injection this with h
          exact congrArg Prod.fst h
        rw [x2, hx]
      · obtain ⟨k1, k2⟩ := hkind m' t f3
        obtain ⟨x, x1, x2, x3⟩ := kd.inn m' f1 f2 k1
        have := kd.pp.short x s t x1 (by rw [← x3]; exact k2) ht
        rw [hg] at this
        cases this
      · obtain ⟨k1, k2⟩ := hkind' m' t f3
        obtain ⟨x, x1, x2, x3⟩ := kd.inn m' f1 f2 k1
        have := kd.pp.full x t x1
        rw [← x3, ← k2, hg, hnil] at this
        have : ([] : List Int) = t := by
          injection this with h
          exact congrArg Prod.snd h
        exact absurd this.symm ht
    · have hnil : ¬ (K :: s).drop v.2.1.toNat = [] := fun h => hend ((drop_end p0' p1).1 h)
      have e : fin1 mk (K :: s) v = (m0, 9) := by unfold fin1; rw [if_pos c0, if_neg hend]
      rw [e]
      refine ⟨m0_fit, fun h => (by cases h), fun _ => ⟨by show (1 : Int) ≤ 9; omega, by show (9 : Int) ≤ 9; omega, rfl⟩, fun m' f1 f2 f3 => ?_, fun m' t f1 f2 f3 ht => ?_, fun m' t f1 f2 f3 ht => rfl⟩
      · obtain ⟨k1, k2⟩ := hkind m' [] (by rw [List.append_nil]; exact f3.symm)
        obtain ⟨x, x1, x2, x3⟩ := kd.inn m' f1 f2 k1
        have := kd.pp.full x [] x1
        rw [List.append_nil, ← x3, k2, List.append_nil, hg] at this
        have : (K :: s).drop v.2.1.toNat = [] := by
          injection this with h
          exact congrArg Prod.snd h
        exact absurd this hnil
      · obtain ⟨k1, k2⟩ := hkind m' t f3
        obtain ⟨x, x1, x2, x3⟩ := kd.inn m' f1 f2 k1
        have := kd.pp.short x s t x1 (by rw [← x3]; exact k2) ht
        rw [hg] at this
        cases this
  · have e : fin1 mk (K :: s) v = (m0, v.2.2) := by unfold fin1; rw [if_neg c1]
    rw [e]
    refine ⟨m0_fit, fun h => absurd h c1, fun _ => ⟨c2, by show v.2.2 ≤ 9; omega, rfl⟩, fun m' f1 f2 f3 => ?_, fun m' t f1 f2 f3 ht => ?_, fun m' t f1 f2 f3 ht => ?_⟩
    · obtain ⟨k1, k2⟩ := hkind m' [] (by rw [List.append_nil]; exact f3.symm)
      obtain ⟨x, x1, x2, x3⟩ := kd.inn m' f1 f2 k1
      have := kd.pp.full x [] x1
      rw [List.append_nil, ← x3, k2, List.append_nil, hg] at this
      cases this
    · obtain ⟨k1, k2⟩ := hkind m' t f3
      obtain ⟨x, x1, x2, x3⟩ := kd.inn m' f1 f2 k1
      have := kd.pp.short x s t x1 (by rw [← x3]; exact k2) ht
      rw [hg] at this
      injection this
    · obtain ⟨k1, k2⟩ := hkind' m' t f3
      obtain ⟨x, x1, x2, x3⟩ := kd.inn m' f1 f2 k1
      have := kd.pp.full x t x1
      rw [← x3, ← k2, hg] at this
      cases this
end Go.Ev.G
/- Decoding, kind by kind; the law of decoding. -/
namespace Go.Ev.G
open Go.Ev
theorem msgOk_parts {l : DLimits} {m : DMsg} (h : msgOk l m = true) : pOk l m = true ∧ m = only m := by
  unfold msgOk at h
  simp only [Bool.and_eq_true, same_iff] at h
  exact h
theorem msgOk_of {l : DLimits} {m : DMsg} (h1 : pOk l m = true) (h2 : m = only m) : msgOk l m = true := by
  unfold msgOk
  rw [h1, same_true h2]
  rfl
section
variable {l : DLimits} (hl : limitsOk l = true)
include hl
theorem kVote : Kd l 1 (gVote l) vB (fun v => VoteIs l v ∧ fitVote v) (fun v => (1, v, q0, h0, b0, t0, p0, i0, ())) := by
  refine ⟨pVote hl, fun m hf ho hk => ?_, fun x hx => ⟨⟨hx.2, q0_fit, h0_fit, b0_fit, t0_fit, p0_fit, i0_fit⟩, msgOk_of (voteOk_iff.2 hx.1) rfl, rfl, rfl⟩⟩
  obtain ⟨h1, h2⟩ := msgOk_parts ho
  have e1 : pOk l m = voteOk l m.2.1 := by unfold pOk; rw [hk]; rfl
  have e2 : only m = (1, m.2.1, q0, h0, b0, t0, p0, i0, ()) := by unfold only; rw [hk]; rfl
  have e3 : pB m = vB m.2.1 := by unfold pB; rw [hk]; rfl
  rw [e1] at h1
  rw [e2] at h2
  exact ⟨m.2.1, ⟨voteOk_iff.1 h1, hf.vote⟩, h2, e3⟩
theorem kQc : Kd l 2 (gQc l) qcB (fun v => QcIs l v ∧ fitQc v) (fun v => (2, v0, v, h0, b0, t0, p0, i0, ())) := by
  refine ⟨pQc hl, fun m hf ho hk => ?_, fun x hx => ⟨⟨v0_fit, hx.2, h0_fit, b0_fit, t0_fit, p0_fit, i0_fit⟩, msgOk_of (qcOk_iff.2 hx.1) rfl, rfl, rfl⟩⟩
  obtain ⟨h1, h2⟩ := msgOk_parts ho
  have e1 : pOk l m = qcOk l m.2.2.1 := by unfold pOk; rw [hk]; rfl
  have e2 : only m = (2, v0, m.2.2.1, h0, b0, t0, p0, i0, ()) := by unfold only; rw [hk]; rfl
  have e3 : pB m = qcB m.2.2.1 := by unfold pB; rw [hk]; rfl
  rw [e1] at h1
  rw [e2] at h2
  exact ⟨m.2.2.1, ⟨qcOk_iff.1 h1, hf.qc⟩, h2, e3⟩
theorem kHead : Kd l 3 (gHead l) headB (fun v => HeadIs l v ∧ fitHead v) (fun v => (3, v0, q0, v, b0, t0, p0, i0, ())) := by
  refine ⟨pHead hl, fun m hf ho hk => ?_, fun x hx => ⟨⟨v0_fit, q0_fit, hx.2, b0_fit, t0_fit, p0_fit, i0_fit⟩, msgOk_of (headOk_iff.2 hx.1) rfl, rfl, rfl⟩⟩
  obtain ⟨h1, h2⟩ := msgOk_parts ho
  have e1 : pOk l m = headOk l m.2.2.2.1 := by unfold pOk; rw [hk]; rfl
  have e2 : only m = (3, v0, q0, m.2.2.2.1, b0, t0, p0, i0, ()) := by unfold only; rw [hk]; rfl
  have e3 : pB m = headB m.2.2.2.1 := by unfold pB; rw [hk]; rfl
  rw [e1] at h1
  rw [e2] at h2
  exact ⟨m.2.2.2.1, ⟨headOk_iff.1 h1, hf.head⟩, h2, e3⟩
theorem kBlock : Kd l 4 (gBlock l) blockB (fun v => BlockIs l v ∧ fitBlock v) (fun v => (4, v0, q0, h0, v, t0, p0, i0, ())) := by
  refine ⟨pBlock hl, fun m hf ho hk => ?_, fun x hx => ⟨⟨v0_fit, q0_fit, h0_fit, hx.2, t0_fit, p0_fit, i0_fit⟩, msgOk_of (blockOk_iff.2 hx.1) rfl, rfl, rfl⟩⟩
  obtain ⟨h1, h2⟩ := msgOk_parts ho
  have e1 : pOk l m = blockOk l m.2.2.2.2.1 := by unfold pOk; rw [hk]; rfl
  have e2 : only m = (4, v0, q0, h0, m.2.2.2.2.1, t0, p0, i0, ()) := by unfold only; rw [hk]; rfl
  have e3 : pB m = blockB m.2.2.2.2.1 := by unfold pB; rw [hk]; rfl
  rw [e1] at h1
  rw [e2] at h2
  exact ⟨m.2.2.2.2.1, ⟨blockOk_iff.1 h1, hf.block⟩, h2, e3⟩
theorem kTc : Kd l 5 (gTc l) tcB (fun v => TcIs l v ∧ fitTc v) (fun v => (5, v0, q0, h0, b0, v, p0, i0, ())) := by
  refine ⟨pTc hl, fun m hf ho hk => ?_, fun x hx => ⟨⟨v0_fit, q0_fit, h0_fit, b0_fit, hx.2, p0_fit, i0_fit⟩, msgOk_of (tcOk_iff.2 hx.1) rfl, rfl, rfl⟩⟩
  obtain ⟨h1, h2⟩ := msgOk_parts ho
  have e1 : pOk l m = tcOk l m.2.2.2.2.2.1 := by unfold pOk; rw [hk]; rfl
  have e2 : only m = (5, v0, q0, h0, b0, m.2.2.2.2.2.1, p0, i0, ()) := by unfold only; rw [hk]; rfl
  have e3 : pB m = tcB m.2.2.2.2.2.1 := by unfold pB; rw [hk]; rfl
  rw [e1] at h1
  rw [e2] at h2
  exact ⟨m.2.2.2.2.2.1, ⟨tcOk_iff.1 h1, hf.tc⟩, h2, e3⟩
theorem kProof : Kd l 6 (gProof l) proofB (fun v => ProofIs l v ∧ fitProof v) (fun v => (6, v0, q0, h0, b0, t0, v, i0, ())) := by
  refine ⟨pProof hl, fun m hf ho hk => ?_, fun x hx => ⟨⟨v0_fit, q0_fit, h0_fit, b0_fit, t0_fit, hx.2, i0_fit⟩, msgOk_of (proofOk_iff.2 hx.1) rfl, rfl, rfl⟩⟩
  obtain ⟨h1, h2⟩ := msgOk_parts ho
  have e1 : pOk l m = proofOk l m.2.2.2.2.2.2.1 := by unfold pOk; rw [hk]; rfl
  have e2 : only m = (6, v0, q0, h0, b0, t0, m.2.2.2.2.2.2.1, i0, ()) := by unfold only; rw [hk]; rfl
  have e3 : pB m = proofB m.2.2.2.2.2.2.1 := by unfold pB; rw [hk]; rfl
  rw [e1] at h1
  rw [e2] at h2
  exact ⟨m.2.2.2.2.2.2.1, ⟨proofOk_iff.1 h1, hf.proof⟩, h2, e3⟩
theorem kIncl : Kd l 7 (gIncl l) inclB (fun v => InclIs l v ∧ fitIncl v) (fun v => (7, v0, q0, h0, b0, t0, p0, v, ())) := by
  refine ⟨pIncl hl, fun m hf ho hk => ?_, fun x hx => ⟨⟨v0_fit, q0_fit, h0_fit, b0_fit, t0_fit, p0_fit, hx.2⟩, msgOk_of (inclOk_iff.2 hx.1) rfl, rfl, rfl⟩⟩
  obtain ⟨h1, h2⟩ := msgOk_parts ho
  have e1 : pOk l m = inclOk l m.2.2.2.2.2.2.2.1 := by unfold pOk; rw [hk]; rfl
  have e2 : only m = (7, v0, q0, h0, b0, t0, p0, m.2.2.2.2.2.2.2.1, ()) := by unfold only; rw [hk]; rfl
  have e3 : pB m = inclB m.2.2.2.2.2.2.2.1 := by unfold pB; rw [hk]; rfl
  rw [e1] at h1
  rw [e2] at h2
  exact ⟨m.2.2.2.2.2.2.2.1, ⟨inclOk_iff.1 h1, hf.incl⟩, h2, e3⟩
end
theorem dec_tail {α : Type} (v : α × Int × Int) (b : List Int) (mk : α → DMsg) : Y (fun _ => cond (v.2.2 == 0) (cond (v.2.1 != len b) (cond ((9 : Int) != 0) (some (m0, (9 : Int))) (some (mk v.1, 9))) (cond (v.2.2 != 0) (some (m0, v.2.2)) (some (mk v.1, 0)))) (cond (v.2.2 != 0) (some (m0, v.2.2)) (some (mk v.1, 0)))) (fin1 mk b v) := by
  unfold fin1
  by_cases h : v.2.2 = 0
  · rw [nz_true h, if_pos h]
    by_cases h2 : v.2.1 = len b
    · rw [if_pos h2, h2, show (len b != len b) = false by simp]
      simp only [cond_true, cond_false, bne, nz_true h, Bool.not_true]
      exact Y.pure _
    · rw [if_neg h2, show (v.2.1 != len b) = true by rw [bne_iff_ne]; exact h2]
      exact Y.pure _
  · rw [nz_false h, if_neg h]
    simp only [cond_false, bne, nz_false h, Bool.not_false, cond_true]
    exact Y.pure _
theorem kindName_bad {c : Int} (h0 : 0 ≤ c) (h : ¬ (1 ≤ c ∧ c ≤ 7)) : iKindName c = some [] := by
  unfold iKindName inameAt
  rw [iwithin_eq]
  by_cases hc : c = 0
  · subst hc; rfl
  · have : within c 0 (su .i64 (len ([[], [118, 111, 116, 101], [113, 99], [104, 101, 97, 100], [98, 108, 111, 99, 107], [116, 99], [112, 114, 111, 111, 102], [105, 110, 99, 108]] : List (List Int))) 1) = false := by
      rw [Bool.eq_false_iff]
      intro e
      have := (within_iff.1 e).2
      have e2 : su .i64 (len ([[], [118, 111, 116, 101], [113, 99], [104, 101, 97, 100], [98, 108, 111, 99, 107], [116, 99], [112, 114, 111, 111, 102], [105, 110, 99, 108]] : List (List Int))) 1 = 7 := rfl
      omega
    rw [this]
    rfl
/-- What Decode answers. -/
theorem iDecode_Y {l : DLimits} (hlim : limitsOk l = true) {b : List Int} (hb : Bytes b) (hl : b.length < 1000000000) : ∃ m c, Y (fun k => iDecode k l b) (m, c) ∧ Dec l b m c := by
  match b, hb, hl with
  | [], hb, hl =>
    refine ⟨m0, 1, ?_, m0_fit, fun h => (by cases h), fun _ => ⟨by omega, by omega, rfl⟩, fun m' _ _ h => ?_, fun m' t _ _ _ _ => rfl, fun m' t _ _ h _ => ?_⟩
    · unfold iDecode
      rw [iLimitsOk_eq, hlim]
      exact Y.pure _
    · unfold msgB at h; cases h
    · unfold msgB at h; cases h
  | K :: s, hb, hl =>
    have hK := hb K (by simp)
    have h1 : (1 : Int) ≤ len (K :: s) := by rw [len_cons]; have := len_nonneg s; omega
    have hne : (len (K :: s) == 0) = false := nz_false (by omega)
    have hcv : cv .i64 K = K := cv_i64 (by omega) (by omega)
    have hhead : ∀ k, iDecode k l (K :: s) = (iKindName K).bind fun v_3 => cond ((v_3 : List Int) == []) (some (m0, 8)) (
      cond (K == 1) ((iGetVote k l (K :: s) 1).bind fun v => cond (v.2.2 == 0) (cond (v.2.1 != len (K :: s)) (cond ((9 : Int) != 0) (some (m0, (9 : Int))) (some ((K, v.1, q0, h0, b0, t0, p0, i0, ()), 9))) (cond (v.2.2 != 0) (some (m0, v.2.2)) (some ((K, v.1, q0, h0, b0, t0, p0, i0, ()), 0)))) (cond (v.2.2 != 0) (some (m0, v.2.2)) (some ((K, v.1, q0, h0, b0, t0, p0, i0, ()), 0)))) <|
      cond (K == 2) ((iGetQc k l (K :: s) 1).bind fun v => cond (v.2.2 == 0) (cond (v.2.1 != len (K :: s)) (cond ((9 : Int) != 0) (some (m0, (9 : Int))) (some ((K, v0, v.1, h0, b0, t0, p0, i0, ()), 9))) (cond (v.2.2 != 0) (some (m0, v.2.2)) (some ((K, v0, v.1, h0, b0, t0, p0, i0, ()), 0)))) (cond (v.2.2 != 0) (some (m0, v.2.2)) (some ((K, v0, v.1, h0, b0, t0, p0, i0, ()), 0)))) <|
      cond (K == 3) ((iGetHead k l (K :: s) 1).bind fun v => cond (v.2.2 == 0) (cond (v.2.1 != len (K :: s)) (cond ((9 : Int) != 0) (some (m0, (9 : Int))) (some ((K, v0, q0, v.1, b0, t0, p0, i0, ()), 9))) (cond (v.2.2 != 0) (some (m0, v.2.2)) (some ((K, v0, q0, v.1, b0, t0, p0, i0, ()), 0)))) (cond (v.2.2 != 0) (some (m0, v.2.2)) (some ((K, v0, q0, v.1, b0, t0, p0, i0, ()), 0)))) <|
      cond (K == 4) ((iGetBlock k l (K :: s) 1).bind fun v => cond (v.2.2 == 0) (cond (v.2.1 != len (K :: s)) (cond ((9 : Int) != 0) (some (m0, (9 : Int))) (some ((K, v0, q0, h0, v.1, t0, p0, i0, ()), 9))) (cond (v.2.2 != 0) (some (m0, v.2.2)) (some ((K, v0, q0, h0, v.1, t0, p0, i0, ()), 0)))) (cond (v.2.2 != 0) (some (m0, v.2.2)) (some ((K, v0, q0, h0, v.1, t0, p0, i0, ()), 0)))) <|
      cond (K == 5) ((iGetTc k l (K :: s) 1).bind fun v => cond (v.2.2 == 0) (cond (v.2.1 != len (K :: s)) (cond ((9 : Int) != 0) (some (m0, (9 : Int))) (some ((K, v0, q0, h0, b0, v.1, p0, i0, ()), 9))) (cond (v.2.2 != 0) (some (m0, v.2.2)) (some ((K, v0, q0, h0, b0, v.1, p0, i0, ()), 0)))) (cond (v.2.2 != 0) (some (m0, v.2.2)) (some ((K, v0, q0, h0, b0, v.1, p0, i0, ()), 0)))) <|
      cond (K == 6) ((iGetProof k l (K :: s) 1).bind fun v => cond (v.2.2 == 0) (cond (v.2.1 != len (K :: s)) (cond ((9 : Int) != 0) (some (m0, (9 : Int))) (some ((K, v0, q0, h0, b0, t0, v.1, i0, ()), 9))) (cond (v.2.2 != 0) (some (m0, v.2.2)) (some ((K, v0, q0, h0, b0, t0, v.1, i0, ()), 0)))) (cond (v.2.2 != 0) (some (m0, v.2.2)) (some ((K, v0, q0, h0, b0, t0, v.1, i0, ()), 0)))) <|
      ((iGetIncl k l (K :: s) 1).bind fun v => cond (v.2.2 == 0) (cond (v.2.1 != len (K :: s)) (cond ((9 : Int) != 0) (some (m0, (9 : Int))) (some ((K, v0, q0, h0, b0, t0, p0, v.1, ()), 9))) (cond (v.2.2 != 0) (some (m0, v.2.2)) (some ((K, v0, q0, h0, b0, t0, p0, v.1, ()), 0)))) (cond (v.2.2 != 0) (some (m0, v.2.2)) (some ((K, v0, q0, h0, b0, t0, p0, v.1, ()), 0))))) := by
      intro k
      unfold iDecode
      rw [iLimitsOk_eq, hlim, show rd (K :: s) 0 = some K from rfl, hne]
      simp only [Option.bind_some, hcv]
      rfl
    by_cases hk : 1 ≤ K ∧ K ≤ 7
    · have hcases : K = 1 ∨ K = 2 ∨ K = 3 ∨ K = 4 ∨ K = 5 ∨ K = 6 ∨ K = 7 := by omega
      rcases hcases with rfl | rfl | rfl | rfl | rfl | rfl | rfl
      · obtain ⟨v, hy, hr⟩ := iGetVote_Y hlim hb hl (p := 1) (by omega) h1
        exact ⟨_, _, Y.congr hhead (Y.bind (Y.of (show iKindName 1 = some [118, 111, 116, 101] from rfl)) (Y.bind hy (dec_tail v (1 :: s) (fun v => (1, v, q0, h0, b0, t0, p0, i0, ()))))), dec_core (kVote hlim) hb hr⟩
      · obtain ⟨v, hy, hr⟩ := iGetQc_Y hlim hb hl (p := 1) (by omega) h1
        exact ⟨_, _, Y.congr hhead (Y.bind (Y.of (show iKindName 2 = some [113, 99] from rfl)) (Y.bind hy (dec_tail v (2 :: s) (fun v => (2, v0, v, h0, b0, t0, p0, i0, ()))))), dec_core (kQc hlim) hb hr⟩
      · obtain ⟨v, hy, hr⟩ := iGetHead_Y hlim hb hl (p := 1) (by omega) h1
        exact ⟨_, _, Y.congr hhead (Y.bind (Y.of (show iKindName 3 = some [104, 101, 97, 100] from rfl)) (Y.bind hy (dec_tail v (3 :: s) (fun v => (3, v0, q0, v, b0, t0, p0, i0, ()))))), dec_core (kHead hlim) hb hr⟩
      · obtain ⟨v, hy, hr⟩ := iGetBlock_Y hlim hb hl (p := 1) (by omega) h1
        exact ⟨_, _, Y.congr hhead (Y.bind (Y.of (show iKindName 4 = some [98, 108, 111, 99, 107] from rfl)) (Y.bind hy (dec_tail v (4 :: s) (fun v => (4, v0, q0, h0, v, t0, p0, i0, ()))))), dec_core (kBlock hlim) hb hr⟩
      · obtain ⟨v, hy, hr⟩ := iGetTc_Y hlim hb hl (p := 1) (by omega) h1
        exact ⟨_, _, Y.congr hhead (Y.bind (Y.of (show iKindName 5 = some [116, 99] from rfl)) (Y.bind hy (dec_tail v (5 :: s) (fun v => (5, v0, q0, h0, b0, v, p0, i0, ()))))), dec_core (kTc hlim) hb hr⟩
      · obtain ⟨v, hy, hr⟩ := iGetProof_Y hlim hb hl (p := 1) (by omega) h1
        exact ⟨_, _, Y.congr hhead (Y.bind (Y.of (show iKindName 6 = some [112, 114, 111, 111, 102] from rfl)) (Y.bind hy (dec_tail v (6 :: s) (fun v => (6, v0, q0, h0, b0, t0, v, i0, ()))))), dec_core (kProof hlim) hb hr⟩
      · obtain ⟨v, hy, hr⟩ := iGetIncl_Y hlim hb hl (p := 1) (by omega) h1
        exact ⟨_, _, Y.congr hhead (Y.bind (Y.of (show iKindName 7 = some [105, 110, 99, 108] from rfl)) (Y.bind hy (dec_tail v (7 :: s) (fun v => (7, v0, q0, h0, b0, t0, p0, v, ()))))), dec_core (kIncl hlim) hb hr⟩
    · have hkm : ∀ m', msgOk l m' = true → m'.1 ≠ K := fun m' h e => by
        have := within_iff.1 (pOk_kind (msgOk_parts h).1)
        omega
      refine ⟨m0, 8, Y.congr hhead ?_, m0_fit, fun h => (by cases h), fun _ => ⟨by omega, by omega, rfl⟩, fun m' _ h2 h => ?_, fun m' t _ h2 h _ => ?_, fun m' t _ h2 h _ => ?_⟩
      · rw [kindName_bad hK.1 hk]
        exact Y.pure _
      · unfold msgB at h; injection h with h3 _; exact absurd h3.symm (hkm m' h2)
      · unfold msgB at h; injection h with h3 _; exact absurd h3 (hkm m' h2)
      · unfold msgB at h; injection h with h3 _; exact absurd h3.symm (hkm m' h2)
end Go.Ev.G
/- The laws of decoding. -/
namespace Go.Ev.G
open Go.Ev
theorem numB_bytes (n : Int) : Bytes (numB n) := varB_bytes _
theorem flat_bytes {α : Type} {f : α → List Int} {xs : List α} (h : ∀ x ∈ xs, Bytes (f x)) : Bytes ((xs.map f).flatten) := by
  intro y hy
  obtain ⟨z, hz, hy⟩ := List.mem_flatten.1 hy
  obtain ⟨x, hx, rfl⟩ := List.mem_map.1 hz
  exact h x hx y hy
theorem textB_bytes {x : List Int} (h : Bytes x) : Bytes (textB x) := Bytes.append (numB_bytes _) h
theorem pB_fact {l : DLimits} {m : DMsg} (hf : FitMsg m) (h : pOk l m = true) : Bytes (pB m) ∧ (pB m).length ≤ 3000 := by
  have hk := within_iff.1 (pOk_kind h)
  have hc : m.1 = 1 ∨ m.1 = 2 ∨ m.1 = 3 ∨ m.1 = 4 ∨ m.1 = 5 ∨ m.1 = 6 ∨ m.1 = 7 := by omega
  rcases hc with hk | hk | hk | hk | hk | hk | hk
  · have e1 : pOk l m = voteOk l m.2.1 := by unfold pOk; rw [hk]; rfl
    have e3 : pB m = vB m.2.1 := by unfold pB; rw [hk]; rfl
    rw [e1] at h
    rw [e3]
    have := vB_len (voteOk_iff.1 h)
    exact ⟨Bytes.append (numB_bytes _) (Bytes.append (numB_bytes _) (Bytes.append hf.vote.1.2 (Bytes.append (numB_bytes _) hf.vote.2.2))), by omega⟩
  · have e1 : pOk l m = qcOk l m.2.2.1 := by unfold pOk; rw [hk]; rfl
    have e3 : pB m = qcB m.2.2.1 := by unfold pB; rw [hk]; rfl
    rw [e1] at h
    rw [e3]
    have := qcB_len (qcOk_iff.1 h)
    exact ⟨qcB_bytes hf.qc, by omega⟩
  · have e1 : pOk l m = headOk l m.2.2.2.1 := by unfold pOk; rw [hk]; rfl
    have e3 : pB m = headB m.2.2.2.1 := by unfold pB; rw [hk]; rfl
    rw [e1] at h
    rw [e3]
    have := headB_len (headOk_iff.1 h)
    exact ⟨headB_bytes hf.head, by omega⟩
  · have e1 : pOk l m = blockOk l m.2.2.2.2.1 := by unfold pOk; rw [hk]; rfl
    have e3 : pB m = blockB m.2.2.2.2.1 := by unfold pB; rw [hk]; rfl
    rw [e1] at h
    rw [e3]
    have := blockB_len (blockOk_iff.1 h)
    exact ⟨Bytes.append (headB_bytes hf.block.1) (Bytes.append (numB_bytes _) (flat_bytes fun t ht => textB_bytes (hf.block.2.2 t ht).2)), by omega⟩
  · have e1 : pOk l m = tcOk l m.2.2.2.2.2.1 := by unfold pOk; rw [hk]; rfl
    have e3 : pB m = tcB m.2.2.2.2.2.1 := by unfold pB; rw [hk]; rfl
    rw [e1] at h
    rw [e3]
    have := tcB_len (tcOk_iff.1 h)
    exact ⟨Bytes.append (numB_bytes _) (Bytes.append (numB_bytes _) (flat_bytes fun e he => Bytes.append (numB_bytes _) (Bytes.append (numB_bytes _) (hf.tc.2 e he).2))), by omega⟩
  · have e1 : pOk l m = proofOk l m.2.2.2.2.2.2.1 := by unfold pOk; rw [hk]; rfl
    have e3 : pB m = proofB m.2.2.2.2.2.2.1 := by unfold pB; rw [hk]; rfl
    rw [e1] at h
    rw [e3]
    have := proofB_len (proofOk_iff.1 h)
    exact ⟨Bytes.append (numB_bytes _) (Bytes.append (flat_bytes fun x hx => headB_bytes (hf.proof.1.2 x hx)) (qcB_bytes hf.proof.2)), by omega⟩
  · have e1 : pOk l m = inclOk l m.2.2.2.2.2.2.2.1 := by unfold pOk; rw [hk]; rfl
    have e3 : pB m = inclB m.2.2.2.2.2.2.2.1 := by unfold pB; rw [hk]; rfl
    rw [e1] at h
    rw [e3]
    have := inclB_len (inclOk_iff.1 h)
    refine ⟨Bytes.append (numB_bytes _) (Bytes.append (numB_bytes _) (Bytes.append (numB_bytes _) (Bytes.append (textB_bytes hf.incl.1.2) ?_))), by omega⟩
    intro y hy
    obtain ⟨z, hz, hy⟩ := List.mem_flatten.1 hy
    exact (hf.incl.2.2 z hz).2 y hy
theorem msgB_fact {l : DLimits} {m : DMsg} (hf : FitMsg m) (h : msgOk l m = true) : Bytes (msgB m) ∧ (msgB m).length ≤ 3001 ∧ 1 ≤ (msgB m).length := by
  have hp := (msgOk_parts h).1
  have hk := within_iff.1 (pOk_kind hp)
  have := pB_fact hf hp
  refine ⟨Bytes.cons (by omega) (by omega) this.1, ?_, ?_⟩
  · show (pB m).length + 1 ≤ _; omega
  · show 1 ≤ (pB m).length + 1; omega
theorem kindName_good {c : Int} (h : 1 ≤ c ∧ c ≤ 7) : ∃ s, iKindName c = some s ∧ ((s : List Int) == []) = false := by
  have hc : c = 1 ∨ c = 2 ∨ c = 3 ∨ c = 4 ∨ c = 5 ∨ c = 6 ∨ c = 7 := by omega
  rcases hc with rfl | rfl | rfl | rfl | rfl | rfl | rfl <;> exact ⟨_, rfl, rfl⟩
theorem bne_int_self (a : Int) : (a != a) = false := by simp
theorem enc_ok {l : DLimits} {m : DMsg} (h : msgOk l m = true) : enc l m = (msgB m, true) := by unfold enc; rw [h]; rfl
theorem fnDecode_Y (code : List Int) : Y (fun k => wFnDecode k code) true := by
  unfold wFnDecode
  refine Y.cnd' (fun _ => Y.pure _) (fun hlen => ?_)
  have hlen' : code.length < 1000000000 := by
    have := of_decide_eq_false hlen
    unfold len at this
    omega
  obtain ⟨l, hyl, hlim, _⟩ := makeLimits_ok hlen'
  obtain ⟨m, hym, hf, ho⟩ := makeMsg_ok hlen' hlim
  obtain ⟨hb, hl1, hl2⟩ := msgB_fact hf ho
  have hkind := within_iff.1 (pOk_kind (msgOk_parts ho).1)
  have hbl : (1 : Int) ≤ len (msgB m) ∧ len (msgB m) ≤ 3001 := by unfold len; omega
  obtain ⟨m1, c1, hy1, d1⟩ := iDecode_Y hlim hb (by omega)
  obtain ⟨e1, e2⟩ := d1.full m hf ho rfl
  subst e1 e2
  obtain ⟨n, hyn, n0, n1⟩ := makeNum_ok hlen' (n := len (msgB m1)) (by omega)
  have hcut : cut (msgB m1) 0 n = (msgB m1).take n.toNat := by unfold cut; simp
  obtain ⟨m2, c2, hy2, d2⟩ := iDecode_Y hlim (b := (msgB m1).take n.toNat) (hb.take _) (by rw [List.length_take]; omega)
  have hc2 := d2.short m1 ((msgB m1).drop n.toNat) hf ho (List.take_append_drop _ _).symm (by
    intro h
    rw [List.drop_eq_nil_iff] at h
    unfold len at n1
    omega)
  obtain ⟨m3, c3, hy3, d3⟩ := iDecode_Y hlim (b := msgB m1 ++ [0]) (Bytes.append hb (Bytes.cons (by omega) (by omega) Bytes.nil)) (by simp only [List.length_append, List.length_cons, List.length_nil]; omega)
  have hc3 := d3.left m1 [0] hf ho rfl (by simp)
  subst hc2 hc3
  obtain ⟨s, hs1, hs2⟩ := kindName_good hkind
  refine Y.bind hyl (Y.bind hym (Y.bind (iEncode_Y hf) ?_))
  rw [enc_ok ho]
  refine Y.bind hy1 ?_
  rw [nz_false (show ¬ len (msgB m1) = 0 by omega)]
  simp only [cond_false, Bool.not_true]
  rw [show ((0 : Int) != 0) = false from rfl]
  simp only [cond_false]
  refine Y.bind (iMsgSame_Y hf) ?_
  rw [same_true rfl]
  simp only [cond_false, Bool.not_true]
  refine Y.bind (iMsgSize_Y hf) ?_
  rw [enc_ok ho, bne_int_self, show rd (msgB m1) 0 = some m1.1 from rfl]
  simp only [cond_false, Option.bind_some]
  rw [cv_i64 (show -9223372036854775808 ≤ m1.1 by omega) (by omega), bne_int_self]
  simp only [cond_false]
  refine Y.bind hyn ?_
  rw [sub_ok (by omega) n0 (by omega), hcut, app_nil (by omega)]
  simp only [Option.bind_some]
  refine Y.bind hy2 ?_
  rw [app_ok (by simp only [List.length_cons, List.length_nil]; omega)]
  simp only [Option.bind_some]
  refine Y.bind hy3 ?_
  rw [show ((1 : Int) == 1) = true from rfl, show ((9 : Int) == 9) = true from rfl, hs1]
  simp only [cond_true, Option.bind_some, hs2]
  exact Y.pure _
end Go.Ev.G
