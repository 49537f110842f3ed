/- The evaluator against the model: how a row's inputs are read. No condition. -/
import Derived.Test.YtmbpdaffnabjcaaGreatEG
import Derived.ChangeSlices
import Derived.ProofKit
import Derived.Below
set_option linter.unusedVariables false
set_option linter.unusedSimpArgs false
set_option linter.unusedSectionVars false
/- What comes in is read as data; a law's end. -/
namespace Go.Ev
/-- No arrays, no slices of elements without size. -/
def posE : Ty → Bool
  | .slice e => !(Nat.beq (size e) 0) && posE e
  | .arr _ _ => false
  | .ifc => false
  | .pair a b => posE a && posE b
  | _ => true
/-- Each number is of its kind, each length fits. -/
def InR : (t : Ty) → den t → Prop
  | .int k, x => inK k x = true
  | .str, x => (x : List Int).length ≤ big ∧ ∀ c ∈ (x : List Int), 0 ≤ c ∧ c ≤ 255
  | .slice e, xs => xs.length ≤ big ∧ ∀ x ∈ xs, InR e x
  | .arr _ e, xs => ∀ x ∈ xs, InR e x
  | .pair a b, x => InR a x.1 ∧ InR b x.2
  | _, _ => True
theorem InR_of {w : World} {I : Nat → Prop} : ∀ {t : Ty} {x : den t} {cs : List Value}, RdL w I t x cs → InR t x := by
  intro t
  induction t with
  | int k => intro x cs h; exact h.2
  | bool => intro x cs h; trivial
  | str =>
    intro x cs h
    obtain ⟨s, _, rfl, hs⟩ := h
    refine ⟨by rw [bytesL_length]; exact hs, fun c hc => ?_⟩
    simp only [bytesL, List.mem_map] at hc
    obtain ⟨b, _, rfl⟩ := hc
    have := b.toNat_lt
    omega
  | slice e ih =>
    intro x cs h
    obtain ⟨v, _, hb, h⟩ := h
    refine ⟨hb, fun y hy => ?_⟩
    obtain ⟨j, hj, rfl⟩ := List.getElem_of_mem hy
    rcases h with ⟨h, _⟩ | ⟨b, off, cap, _, _, h⟩
    · subst h; simp at hj
    · obtain ⟨_, arr, ty, fr, _, _, h⟩ := h (by omega)
      exact ih (h j hj)
  | arr n e ih =>
    intro x cs h y hy
    obtain ⟨j, hj, rfl⟩ := List.getElem_of_mem hy
    exact ih (h.2.2 j hj)
  | ifc => intro x cs h; trivial
  | unit => intro x cs h; trivial
  | pair a b iha ihb => intro x cs h; exact ⟨iha h.1, ihb h.2⟩
section
variable {P : Program} {tt : Nat → Option Ty} {H : Type} {enc : TypeId × Value → H} {w : World} {base : Nat} {spare : Nat → Bool} {held : Bool}
theorem cellsOf_ok (hT : TOK P tt) {t : TypeId} {T : Ty} (ht : tt t = some T) : P.cellsOf t = size T := by
  obtain ⟨i, h1, _, h2, _⟩ := hT.info t T ht
  simp [Program.cellsOf, h1, h2]
theorem cells_at {a : Addr} {n : Nat} {cs : List Value} (h : w.cells? base a n = some cs) (hn : 0 < n) : a.spot = none ∧ ∃ arr ty fr, w.heap[a.block]? = some (.cells arr ty fr) ∧ a.off + n ≤ arr.size ∧ cs = seg arr.toList a.off n := by
  obtain ⟨_, hl, hc⟩ := World.cells?_some h
  have h0 := hc 0 hn
  have e0 : cs[0]? = some (cs[0]'(by omega)) := List.getElem?_eq_getElem _
  rw [e0] at h0
  have hsp : a.spot = none := by simpa [Addr.add] using World.cell?_spot h0
  obtain ⟨b, off, spot⟩ := a
  simp only at hsp
  subst hsp
  have hb : ∃ arr ty fr, w.heap[b]? = some (.cells arr ty fr) := by
    unfold World.cell? at h0
    simp only [Addr.add] at h0
    split at h0
    · rename_i c ty fr hb; exact ⟨c, ty, fr, by simpa using hb⟩
    · cases h0
  obtain ⟨arr, ty, fr, hb⟩ := hb
  have each : ∀ i, i < n → arr[off + i]? = cs[i]? := fun i hi => by
    have := hc i hi
    rw [add_lit, cell_block hb] at this
    exact this
  refine ⟨rfl, arr, ty, fr, hb, ?_, ?_⟩
  · have := each (n - 1) (by omega)
    rw [List.getElem?_eq_getElem (by omega)] at this
    have := (Array.getElem?_eq_some_iff.1 this).1
    show off + n ≤ arr.size
    omega
  · apply List.ext_getElem?
    intro i
    unfold seg
    rw [List.getElem?_take]
    split
    · rename_i hi
      rw [List.getElem?_drop, ← each i hi]
      simp
    · exact List.getElem?_eq_none (by omega)
def RdOf (P : Program) (tt : Nat → Option Ty) {H : Type} (enc : TypeId × Value → H) (w : World) (base : Nat) (spare : Nat → Bool) (held : Bool) (T : Ty) : Prop :=
  posE T = true → ∀ {t : TypeId} {fuel : Nat} {cs : List Value} {x : DataW H × List MemPlace}, tt t = some T → DataW.trod enc P w base spare held fuel t cs = some x → ∃ d : den T, RdL w (fun b => b < w.heap.size) T d cs
theorem trod_rd' (hT : TOK P tt) : ∀ (T : Ty), RdOf P tt enc w base spare held T ∧ ∀ (i : Nat) U, fldTy i T = some U → RdOf P tt enc w base spare held U := by
  have fields : ∀ (T : Ty), (∀ (i : Nat) U, fldTy i T = some U → ∀ {t : TypeId} {fuel : Nat} {cs : List Value} {x : DataW H × List MemPlace}, tt t = some U → DataW.trod enc P w base spare held fuel t cs = some x → ∃ d : den U, RdL w (fun b => b < w.heap.size) U d cs) →
      ∀ {fs : List Field} {o n : Nat} {cs : List Value}, FieldsR tt fs T o → cs.length = o + size T → (∀ f ∈ fs, ∃ x, DataW.trod enc P w base spare held n f.type ((cs.drop f.offset).take (P.cellsOf f.type)) = some x) → ∃ d : den T, RdL w (fun b => b < w.heap.size) T d (cs.drop o) := by
    intro T
    induction T with
    | unit =>
      intro _ fs o n cs hf hl _
      refine ⟨(), ?_⟩
      show cs.drop o = []
      rw [List.drop_eq_nil_iff]
      simp [size] at hl
      omega
    | pair a b _ ihb =>
      intro hU fs o n cs hf hl hx
      cases fs with
      | nil => exact hf.elim
      | cons f fs =>
        obtain ⟨h1, h2, h3⟩ := hf
        obtain ⟨y, hy⟩ := hx f (by simp)
        rw [cellsOf_ok hT h2, h1] at hy
        obtain ⟨d1, hd1⟩ := hU 0 a rfl h2 hy
        simp only [size] at hl
        obtain ⟨d2, hd2⟩ := ihb (fun i U hi => hU (i + 1) U hi) (cs := cs) h3 (by omega) (fun g hg => hx g (by simp [hg]))
        refine ⟨(d1, d2), hd1, ?_⟩
        rw [List.drop_drop]
        exact hd2
    | _ => intro _ fs o n cs hf; cases fs <;> exact hf.elim
  intro T
  induction T with
  | int k =>
    refine ⟨?_, fun i U h => by cases i <;> cases h⟩
    intro _ t fuel cs x ht h
    obtain ⟨n, rfl, _, hw⟩ := DataW.trod_int (hT.und t _ ht) h
    refine ⟨n, rfl, ?_⟩
    simp only [Lit.wf, Bool.and_eq_true, decide_eq_true_eq] at hw
    exact inK_iff.2 hw
  | bool =>
    refine ⟨?_, fun i U h => by cases i <;> cases h⟩
    intro _ t fuel cs x ht h
    obtain ⟨b, rfl, _⟩ := DataW.trod_bool (hT.und t _ ht) h
    exact ⟨b, rfl⟩
  | str =>
    refine ⟨?_, fun i U h => by cases i <;> cases h⟩
    intro _ t fuel cs x ht h
    obtain ⟨s, rfl, _, hs⟩ := DataW.trod_string (hT.und t _ ht) h
    exact ⟨bytesL s, s, rfl, rfl, (by simp only [Go.maxLen] at hs; simp only [big]; omega)⟩
  | slice e ih =>
    refine ⟨?_, fun i U h => by cases i <;> cases h⟩
    intro hp t fuel cs x ht h
    simp only [posE, Bool.and_eq_true, Bool.not_eq_true'] at hp
    have hpos : 0 < size e := by
      cases hz : size e with
      | zero => rw [hz] at hp; simp at hp
      | succ n => omega
    obtain ⟨te, hu, hte⟩ := hT.und t _ ht
    rcases DataW.trod_slice hu h with ⟨rfl, _⟩ | ⟨a, len, cap, elems, rest, n, rfl, rfl, _, _, hl, hm, hlen, hel, _, _⟩
    · exact ⟨[], _, rfl, by simp, .inl ⟨rfl, _, _, rfl⟩⟩
    · rw [cellsOf_ok hT hte] at hel
      have each : ∀ i, i < len → ∃ d : den e, ∃ cs, w.cells? base (a.add (i * size e)) (size e) = some cs ∧ RdL w (fun b => b < w.heap.size) e d cs := by
        intro i hi
        have h1 := hel i hi
        rw [List.getElem?_eq_getElem (by omega), Option.bind_eq_some_iff] at h1
        obtain ⟨cs, h2, h3⟩ := h1
        obtain ⟨d, hd⟩ := ih.1 hp.2 hte h3
        exact ⟨d, cs, h2, hd⟩
      have hlist : ∃ ds : List (den e), ds.length = len ∧ ∀ i (hi : i < ds.length), ∃ cs, w.cells? base (a.add (i * size e)) (size e) = some cs ∧ RdL w (fun b => b < w.heap.size) e (ds[i]'hi) cs := by
        refine ⟨List.ofFn (n := len) fun i => (each i.1 i.2).choose, by simp, fun i hi => ?_⟩
        rw [List.getElem_ofFn]
        exact (each i (by simpa using hi)).choose_spec
      obtain ⟨ds, hds, hd⟩ := hlist
      refine ⟨ds, _, rfl, by rw [hds]; simp only [big]; simp only [Go.maxLen] at hm; omega, ?_⟩
      by_cases hz : 0 < len
      · right
        obtain ⟨cs0, hc0, _⟩ := hd 0 (by omega)
        obtain ⟨hsp, arr, ty, fr, hb, _, _⟩ := cells_at hc0 hpos
        obtain ⟨b, off, spot⟩ := a
        have : spot = none := by simpa [Addr.add] using hsp
        subst this
        refine ⟨b, off, cap, by rw [hds], by omega, fun _ => ?_⟩
        have hb' : w.heap[b]? = some (.cells arr ty fr) := by simpa [Addr.add] using hb
        refine ⟨(Array.getElem?_eq_some_iff.1 hb').1, arr, ty, fr, hb', ?_, fun j hj => ?_⟩
        · obtain ⟨cs1, hc1, _⟩ := hd (len - 1) (by omega)
          rw [add_lit] at hc1
          obtain ⟨_, arr1, ty1, fr1, hb1, hs1, _⟩ := cells_at hc1 hpos
          rw [hb'] at hb1
          cases hb1
          rw [hds]
          have : (len - 1) * size e + size e = len * size e := by
            rw [← Nat.succ_mul]; congr 1; omega
          simp only at hs1
          omega
        · obtain ⟨cs1, hc1, hr1⟩ := hd j hj
          rw [add_lit] at hc1
          obtain ⟨_, arr1, ty1, fr1, hb1, _, e1⟩ := cells_at hc1 hpos
          rw [hb'] at hb1
          cases hb1
          rw [e1] at hr1
          exact hr1
      · obtain rfl : len = 0 := by omega
        exact .inl ⟨List.eq_nil_of_length_eq_zero hds, _, _, rfl⟩
  | arr n e _ => exact ⟨fun hp => (by cases hp), fun i U h => (by cases i <;> cases h)⟩
  | ifc => exact ⟨fun hp => (by cases hp), fun i U h => (by cases i <;> cases h)⟩
  | unit =>
    refine ⟨?_, fun i U h => by cases i <;> cases h⟩
    intro _ t fuel cs x ht h
    obtain ⟨fs, hu, hf⟩ := hT.und t _ ht
    obtain ⟨xs, n, _, _, hl, _, hx⟩ := DataW.trod_struct hu h
    rw [cellsOf_ok hT ht] at hl
    exact ⟨(), List.length_eq_zero_iff.1 hl⟩
  | pair a b iha ihb =>
    have hfl : ∀ (i : Nat) U, fldTy i (.pair a b) = some U → RdOf P tt enc w base spare held U := by
      intro i U h
      cases i with
      | zero => cases h; exact iha.1
      | succ i => exact ihb.2 i U h
    refine ⟨?_, hfl⟩
    intro hp t fuel cs x ht h
    obtain ⟨fs, hu, hf⟩ := hT.und t _ ht
    obtain ⟨xs, n, _, _, hl, hxl, hx⟩ := DataW.trod_struct hu h
    rw [cellsOf_ok hT ht] at hl
    have hpos : ∀ (T : Ty) (i : Nat) U, posE T = true → fldTy i T = some U → posE U = true := by
      intro T
      induction T with
      | pair a b _ ihb =>
        intro i U hp h
        simp only [posE, Bool.and_eq_true] at hp
        cases i with
        | zero => cases h; exact hp.1
        | succ i => exact ihb i U hp.2 h
      | _ => intro i U _ h; cases i <;> cases h
    have key := fields (.pair a b) (fun i U hi => hfl i U hi (hpos _ i U hp hi)) (n := n) (cs := cs) hf (by omega) (fun f hf' => by
      obtain ⟨i, hi, hfi⟩ := List.getElem_of_mem hf'
      have hfi' : fs[i]? = some f := by
        rw [← Array.getElem?_toList, List.getElem?_eq_getElem hi, hfi]
      have := hx i f hfi'
      rw [List.getElem?_eq_getElem (by rw [hxl]; simpa using hi)] at this
      exact ⟨_, this⟩)
    simpa using key
theorem trod_rd (hT : TOK P tt) {T : Ty} (hp : posE T = true) {t : TypeId} {fuel : Nat} {cs : List Value} {x : DataW H × List MemPlace} (ht : tt t = some T) (h : DataW.trod enc P w base spare held fuel t cs = some x) : ∃ d : den T, RdL w (fun b => b < w.heap.size) T d cs :=
  (trod_rd' hT T).1 hp ht h
/-- A value of a program's type, as its cells have it. -/
theorem okWide_ofC (hT : TOK P tt) {t : TypeId} {T : Ty} (hp : posE T = true) (ht : tt t = some T) {r : Reach} {v : Value} (h : Value.okWide P w r base t v) : v = ofC (isAgg T) v.cells.toList := by
  have hu := hT.und t _ ht
  cases T with
  | int k => obtain ⟨n, rfl⟩ := WideShapes.okWide_int hu h; rfl
  | bool => obtain ⟨n, rfl⟩ := WideShapes.okWide_bool hu h; rfl
  | str => obtain ⟨n, rfl⟩ := WideShapes.okWide_string hu h; rfl
  | slice e => obtain ⟨te, hu, _⟩ := hu; obtain ⟨a, l, c, rfl⟩ := WideShapes.okWide_slice hu h; rfl
  | arr n e => cases hp
  | ifc => cases hp
  | unit => obtain ⟨fs, hu, _⟩ := hu; obtain ⟨cs, rfl, _⟩ := WideShapes.okWide_struct hu h; rfl
  | pair a b => obtain ⟨fs, hu, _⟩ := hu; obtain ⟨cs, rfl, _⟩ := WideShapes.okWide_struct hu h; rfl
theorem below_of {w w' : World} (h : Ext (fun b => b ∈ blks []) w w') : RowKit.Below w.heap.size w w' := ⟨h.os, h.tape, h.output, h.size, fun k hk => h.block k hk (by simp [blks])⟩
/-- A call that returns one bool. -/
theorem end_bool {w' : World} {J' : Nat → Prop} {y : Bool} {e : Ending} {css outs : List (List Value)} {bs' : List (Bool × Nat)} (h1 : e = .returned (retV [.sh .bool] css)) (h2 : resL w' J' [.sh .bool] y (css ++ outs) bs') (h3 : css.length = 1) : e = .returned (.bool y) := by
  match css, h3 with
  | [cs], _ =>
    obtain ⟨cs', h4, h5, _⟩ := h2
    simp only [List.cons_append, List.nil_append, List.cons.injEq] at h4
    obtain ⟨rfl, _⟩ := h4
    simp only [RdL] at h5
    rw [h1, h5]
    rfl
end
end Go.Ev
