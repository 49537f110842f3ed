/- The evaluator against the model: frames and memory. No condition. -/
import Derived.Test.YtmbpdaffnabjcaaGreatEB
import Derived.Laws.Closers25b
set_option linter.unusedVariables false
set_option linter.unusedSimpArgs false
set_option linter.unusedSectionVars false
/- Parts of values and of cells; reading. -/
namespace Go.Ev

theorem beq_refl : ∀ t : Ty, t.beq t = true := by
  intro t
  induction t with
  | int k => cases k <;> rfl
  | bool => rfl
  | str => rfl
  | slice e ih => simpa [Ty.beq] using ih
  | arr n e ih => simp [Ty.beq, ih]
  | ifc => rfl
  | unit => rfl
  | pair a b iha ihb => simp [Ty.beq, iha, ihb]
theorem loK_eq (k : IntKind) : loK k = k.min := by cases k <;> rfl
theorem hiK_eq (k : IntKind) : hiK k = k.max := by cases k <;> rfl
theorem inK_iff {k : IntKind} {n : Int} : inK k n = true ↔ k.min ≤ n ∧ n ≤ k.max := by
  rw [inK, Bool.and_eq_true, decide_eq_true_eq, decide_eq_true_eq, loK_eq, hiK_eq]
theorem inK_wrap (k : IntKind) (n : Int) : inK k (k.wrap n) = true := inK_iff.2 (wrap_within k n)
theorem toD_some {t u : Ty} {x : den u} {y : den t} (h : toD t x = some y) : ∃ e : u = t, y = e ▸ x := by
  unfold toD at h
  split at h
  · rename_i hb
    cases h
    exact ⟨Ty.beq_eq hb, by
      have := Ty.beq_eq hb
      subst this
      rfl⟩
  · cases h
theorem toL_some {t u : Ty} {x : List (den u)} {y : List (den t)} (h : toL t x = some y) : ∃ e : u = t, y = e ▸ x := by
  unfold toL at h
  split at h
  · rename_i hb
    cases h
    exact ⟨Ty.beq_eq hb, by
      have := Ty.beq_eq hb
      subst this
      rfl⟩
  · cases h

theorem shp_size : ∀ {a : AV} {T : Ty}, shp a T → csize a = size T := by
  intro a
  induction a with
  | val t x => intro T h; simp only [shp] at h; subst h; rfl
  | junk t => intro T h; simp only [shp] at h; subst h; rfl
  | nil => intro T h; obtain ⟨e, rfl⟩ := h; rfl
  | row g => intro T h; obtain ⟨e, rfl⟩ := h; rfl
  | view g lo hi => intro T h; obtain ⟨e, rfl⟩ := h; rfl
  | unit => intro T h; simp only [shp] at h; subst h; rfl
  | pair a b iha ihb => intro T h; obtain ⟨x, y, rfl, h1, h2⟩ := h; simp only [csize, size, iha h1, ihb h2]
  | _ => intro T h; exact h.elim
theorem shp_agg : ∀ {a : AV} {T : Ty}, shp a T → aggV a = isAgg T := by
  intro a
  cases a with
  | val t x => intro T h; simp only [shp] at h; subst h; rfl
  | junk t => intro T h; simp only [shp] at h; subst h; rfl
  | nil => intro T h; obtain ⟨e, rfl⟩ := h; rfl
  | row g => intro T h; obtain ⟨e, rfl⟩ := h; rfl
  | view g lo hi => intro T h; obtain ⟨e, rfl⟩ := h; rfl
  | unit => intro T h; simp only [shp] at h; subst h; rfl
  | pair a b => intro T h; obtain ⟨x, y, rfl, h1, h2⟩ := h; rfl
  | _ => intro T h; exact h.elim
theorem fits_shp {L : Look} : ∀ {a : AV} {T : Ty}, fits L a T = true → shp a T := by
  intro a
  induction a with
  | val t x => intro T h; exact Ty.beq_eq h
  | nil => intro T h; cases T with
    | slice e => exact ⟨e, rfl⟩
    | _ => simp [fits] at h
  | row g => intro T h; cases T with
    | slice e => exact ⟨e, rfl⟩
    | _ => simp [fits] at h
  | view g lo hi => intro T h; cases T with
    | slice e => exact ⟨e, rfl⟩
    | _ => simp [fits] at h
  | unit => intro T h; cases T with
    | unit => rfl
    | _ => simp [fits] at h
  | pair a b iha ihb => intro T h; cases T with
    | pair x y =>
      simp only [fits, Bool.and_eq_true] at h
      exact ⟨x, y, rfl, iha h.1, ihb h.2⟩
    | _ => simp [fits] at h
  | _ => intro T h; cases T <;> simp [fits] at h
theorem zav_shp : ∀ T : Ty, shp (zav T) T := by
  intro T
  induction T with
  | pair a b iha ihb => exact ⟨a, b, rfl, iha, ihb⟩
  | slice e _ => exact ⟨e, rfl⟩
  | _ => rfl

/-! ### Fields -/
theorem seg_seg {l : List Value} {o n p m : Nat} (h : p + m ≤ n) : seg (seg l o n) p m = seg l (o + p) m := by
  unfold seg
  rw [List.drop_take, List.take_take, List.drop_drop, Nat.min_eq_left (by omega)]
theorem seg_all {l : List Value} {n : Nat} (h : l.length = n) : seg l 0 n = l := by
  unfold seg
  simp [← h]
theorem seg_length {l : List Value} {o n : Nat} (h : o + n ≤ l.length) : (seg l o n).length = n := by
  unfold seg
  simp
  omega
theorem seg_take {l : List Value} {o n m : Nat} (h : m ≤ n) : (seg l o n).take m = seg l o m := by
  unfold seg
  rw [List.take_take, Nat.min_eq_left h]
theorem seg_drop {l : List Value} {o n m : Nat} : (seg l o n).drop m = seg l (o + m) (n - m) := by
  unfold seg
  rw [List.drop_take, List.drop_drop]
theorem fldTy_off : ∀ {i : Nat} {T U : Ty}, fldTy i T = some U → ∃ o, offF i T = some o ∧ o + size U ≤ size T := by
  intro i
  induction i with
  | zero => intro T U h; cases T with
    | pair a b => simp only [fldTy, Option.some.injEq] at h; subst h; exact ⟨0, rfl, by simp [size]⟩
    | _ => simp [fldTy] at h
  | succ i ih => intro T U h; cases T with
    | pair a b =>
      simp only [fldTy] at h
      obtain ⟨o, ho, hs⟩ := ih h
      exact ⟨size a + o, by simp [offF, ho], by simp only [size]; omega⟩
    | _ => simp [fldTy] at h
theorem fld_cells {w : World} {I : Nat → Prop} {L : Look} {C : Conc} : ∀ {i : Nat} {a b : AV} {T : Ty}, shp a T → fld i a = some b →
    ∃ U o, fldTy i T = some U ∧ offF i T = some o ∧ o + size U ≤ size T ∧ shp b U ∧ (∀ g ∈ ids b, g ∈ ids a) ∧ (∀ cs, AVL w I L C a cs → AVL w I L C b (seg cs o (size U))) := by
  intro i
  induction i with
  | zero =>
    intro a b T hs h
    cases a with
    | pair x y =>
      simp only [fld, Option.some.injEq] at h; subst h
      obtain ⟨u, v, rfl, h1, h2⟩ := hs
      exact ⟨u, 0, rfl, rfl, by simp [size], h1, fun g hg => by simp [ids, hg], fun cs hc => by
        have := hc.1
        rw [shp_size h1] at this
        simpa [seg] using this⟩
    | val t x => cases t with
      | pair u v =>
        simp only [fld, Option.some.injEq] at h; subst h
        simp only [shp] at hs; subst hs
        exact ⟨u, 0, rfl, rfl, by simp [size], rfl, fun g hg => by simp [ids] at hg, fun cs hc => by
          have := hc.1
          simpa [seg, AVL] using this⟩
      | _ => simp [fld] at h
    | _ => simp [fld] at h
  | succ i ih =>
    intro a b T hs h
    cases a with
    | pair x y =>
      simp only [fld] at h
      obtain ⟨u, v, rfl, h1, h2⟩ := hs
      obtain ⟨U, o, hU, ho, hle, hsh, hid, hc⟩ := ih h2 h
      refine ⟨U, size u + o, by simpa [fldTy] using hU, by simp [offF, ho], by simp only [size]; omega, hsh, fun g hg => by simp [ids, hid g hg], fun cs hcs => ?_⟩
      have := hc _ hcs.2
      rw [shp_size h1] at this
      simpa [seg, List.drop_drop] using this
    | val t x => cases t with
      | pair u v =>
        simp only [fld] at h
        simp only [shp] at hs; subst hs
        obtain ⟨U, o, hU, ho, hle, hsh, hid, hc⟩ := ih (a := .val v x.2) (T := v) rfl h
        refine ⟨U, size u + o, by simpa [fldTy] using hU, by simp [offF, ho], by simp only [size]; omega, hsh, fun g hg => by have := hid g hg; simp [ids] at this, fun cs hcs => ?_⟩
        have := hc (cs.drop (size u)) (by simpa [AVL] using hcs.2)
        simpa [seg, List.drop_drop] using this
      | _ => simp [fld] at h
    | _ => simp [fld] at h
theorem getP_cells {w : World} {I : Nat → Prop} {L : Look} {C : Conc} : ∀ {p : List Nat} {a b : AV} {T : Ty}, shp a T → getP p a = some b →
    ∃ U o, tyP T p = some U ∧ offP T p = some o ∧ o + size U ≤ size T ∧ shp b U ∧ (∀ g ∈ ids b, g ∈ ids a) ∧ (∀ cs, AVL w I L C a cs → AVL w I L C b (seg cs o (size U))) := by
  intro p
  induction p with
  | nil =>
    intro a b T hs h
    simp only [getP, Option.some.injEq] at h; subst h
    exact ⟨T, 0, rfl, rfl, by omega, hs, fun g hg => hg, fun cs hc => by rw [seg_all (by rw [AVL.length hc, shp_size hs])]; exact hc⟩
  | cons i p ih =>
    intro a b T hs h
    simp only [getP] at h
    cases hf : fld i a with
    | none => simp [hf] at h
    | some c =>
      rw [hf] at h
      obtain ⟨U, o, hU, ho, hle, hsh, hid, hc⟩ := fld_cells (w := w) (I := I) (L := L) (C := C) hs hf
      obtain ⟨V, o', hV, ho', hle', hsh', hid', hc'⟩ := ih hsh h
      refine ⟨V, o + o', by simp [tyP, hU, hV], by simp [offP, hU, ho, ho'], by omega, hsh', fun g hg => hid g (hid' g hg), fun cs hcs => ?_⟩
      have := hc' _ (hc cs hcs)
      rwa [seg_seg hle'] at this
theorem tyP_off : ∀ {p : List Nat} {T U : Ty}, tyP T p = some U → ∃ o, offP T p = some o ∧ o + size U ≤ size T := by
  intro p
  induction p with
  | nil => intro T U h; simp only [tyP, Option.some.injEq] at h; subst h; exact ⟨0, rfl, by omega⟩
  | cons i p ih =>
    intro T U h
    simp only [tyP] at h
    cases hf : fldTy i T with
    | none => simp [hf] at h
    | some V =>
      rw [hf] at h
      obtain ⟨o, ho, hle⟩ := fldTy_off hf
      obtain ⟨o', ho', hle'⟩ := ih h
      exact ⟨o + o', by simp [offP, hf, ho, ho'], by omega⟩
theorem tyP_snoc : ∀ {p : List Nat} {i : Nat} {T U V : Ty} {o o' : Nat}, tyP T p = some U → offP T p = some o → fldTy i U = some V → offF i U = some o' →
    tyP T (p ++ [i]) = some V ∧ offP T (p ++ [i]) = some (o + o') := by
  intro p
  induction p with
  | nil =>
    intro i T U V o o' h ho hf ho'
    simp only [tyP, Option.some.injEq] at h; subst h
    simp only [offP, Option.some.injEq] at ho; subst ho
    simp [tyP, offP, hf, ho']
  | cons j p ih =>
    intro i T U V o o' h ho hf ho'
    simp only [tyP] at h
    simp only [offP] at ho
    cases hj : fldTy j T with
    | none => simp [hj] at h
    | some W =>
      rw [hj] at h ho
      cases hoj : offF j T with
      | none => simp [hoj] at ho
      | some oj =>
        simp only [hoj] at ho
        cases hop : offP W p with
        | none => simp [hop] at ho
        | some op =>
          simp only [hop, Option.some.injEq] at ho
          subst ho
          obtain ⟨h1, h2⟩ := ih h hop hf ho'
          simp [tyP, offP, hj, hoj, h1, h2, Nat.add_assoc]

/-- Cells put in the place of others. -/
def splice (cs : List Value) (o : Nat) (vs : List Value) : List Value := cs.take o ++ vs ++ cs.drop (o + vs.length)
theorem splice_length {cs vs : List Value} {o : Nat} (h : o + vs.length ≤ cs.length) : (splice cs o vs).length = cs.length := by
  unfold splice
  simp
  omega
theorem splice_take {cs vs : List Value} {o n : Nat} (h : n ≤ o) (ho : o ≤ cs.length) : (splice cs o vs).take n = cs.take n := by
  unfold splice
  rw [List.append_assoc, List.take_append_of_le_length (by simp; omega), List.take_take, Nat.min_eq_left h]
theorem splice_drop {cs vs : List Value} {o n : Nat} (h : o + vs.length ≤ n) (ho : o ≤ cs.length) : (splice cs o vs).drop n = cs.drop n := by
  unfold splice
  rw [List.drop_append, List.drop_append]
  simp only [List.length_append, List.length_take, List.drop_drop]
  rw [List.drop_eq_nil_of_le (by simp; omega), List.drop_eq_nil_of_le (by simp only [Nat.min_eq_left ho]; omega), List.nil_append, List.nil_append, Nat.min_eq_left ho]
  congr 1
  omega
theorem splice_shift {cs vs : List Value} {o k : Nat} (h : k ≤ o) (ho : o ≤ cs.length) : (splice cs o vs).drop k = splice (cs.drop k) (o - k) vs := by
  unfold splice
  rw [List.append_assoc, List.drop_append_of_le_length (by simp; omega), List.append_assoc, List.drop_take, List.drop_drop]
  congr 3
  omega
theorem splice_front {cs vs : List Value} {n : Nat} (h : vs.length = n) (_hn : n ≤ cs.length) : (splice cs 0 vs).take n = vs ∧ (splice cs 0 vs).drop n = cs.drop n := by
  unfold splice
  subst h
  simp
theorem setFld_cells {w : World} {I : Nat → Prop} {L : Look} {C : Conc} : ∀ {i : Nat} {a v a' : AV} {T U : Ty} {o : Nat}, shp a T → fldTy i T = some U → offF i T = some o → shp v U → setFld i a v = some a' →
    shp a' T ∧ (∀ g ∈ ids a', g ∈ ids a ∨ g ∈ ids v) ∧ (∀ cs vs, AVL w I L C a cs → AVL w I L C v vs → AVL w I L C a' (splice cs o vs)) := by
  intro i
  induction i with
  | zero =>
    intro a v a' T U o hs hU ho hv h
    cases a with
    | pair x y =>
      simp only [setFld, Option.some.injEq] at h; subst h
      obtain ⟨u, u', rfl, h1, h2⟩ := hs
      simp only [fldTy, Option.some.injEq] at hU; subst hU
      simp only [offF, Option.some.injEq] at ho; subst ho
      refine ⟨⟨_, _, rfl, hv, h2⟩, fun g hg => ?_, fun cs vs hc hvs => ?_⟩
      · simp only [ids, List.mem_append] at hg ⊢
        rcases hg with hg | hg
        · exact .inr hg
        · exact .inl (.inr hg)
      · have hl := AVL.length hvs
        have hcl := AVL.length hc
        simp only [csize] at hcl
        obtain ⟨f1, f2⟩ := splice_front (cs := cs) (vs := vs) (n := csize v) hl (by rw [shp_size hv, ← shp_size h1]; omega)
        exact ⟨by rw [f1]; exact hvs, by rw [f2, shp_size hv, ← shp_size h1]; exact hc.2⟩
    | val t x => cases t with
      | pair u u' =>
        simp only [setFld, Option.some.injEq] at h; subst h
        simp only [shp] at hs; subst hs
        simp only [fldTy, Option.some.injEq] at hU; subst hU
        simp only [offF, Option.some.injEq] at ho; subst ho
        refine ⟨⟨_, _, rfl, hv, rfl⟩, fun g hg => ?_, fun cs vs hc hvs => ?_⟩
        · simp only [ids, List.mem_append] at hg ⊢
          rcases hg with hg | hg
          · exact .inr hg
          · simp at hg
        · have hl := AVL.length hvs
          have hcl := RdL.length (t := .pair u u') hc
          simp only [size] at hcl
          obtain ⟨f1, f2⟩ := splice_front (cs := cs) (vs := vs) (n := csize v) hl (by rw [shp_size hv]; omega)
          exact ⟨by rw [f1]; exact hvs, by rw [f2, shp_size hv]; exact hc.2⟩
      | _ => simp [setFld] at h
    | _ => simp [setFld] at h
  | succ i ih =>
    intro a v a' T U o hs hU ho hv h
    cases a with
    | pair x y =>
      obtain ⟨u, u', rfl, h1, h2⟩ := hs
      simp only [setFld] at h
      simp only [fldTy] at hU
      simp only [offF] at ho
      cases hy : setFld i y v with
      | none => simp [hy] at h
      | some y' =>
        simp only [hy, Option.some.injEq] at h; subst h
        cases hoi : offF i u' with
        | none => simp [hoi] at ho
        | some oi =>
          simp only [hoi, Option.some.injEq] at ho; subst ho
          obtain ⟨s1, s2, s3⟩ := ih h2 hU hoi hv hy
          obtain ⟨o2, ho2, hle⟩ := fldTy_off hU
          rw [hoi] at ho2; cases ho2
          refine ⟨⟨_, _, rfl, h1, s1⟩, fun g hg => ?_, fun cs vs hc hvs => ?_⟩
          · simp only [ids, List.mem_append] at hg ⊢
            rcases hg with hg | hg
            · exact .inl (.inl hg)
            · rcases s2 g hg with hg | hg
              · exact .inl (.inr hg)
              · exact .inr hg
          · have hcl := AVL.length hc
            simp only [csize] at hcl
            have hy1 := shp_size h2
            refine ⟨?_, ?_⟩
            · rw [splice_take (by rw [shp_size h1]; omega) (by rw [← shp_size h1]; omega)]; exact hc.1
            · rw [splice_shift (by rw [shp_size h1]; omega) (by rw [← shp_size h1]; omega)]
              have := s3 _ _ hc.2 hvs
              rw [shp_size h1] at this ⊢
              rwa [Nat.add_sub_cancel_left]
    | val t x => cases t with
      | pair u u' =>
        simp only [shp] at hs; subst hs
        simp only [setFld] at h
        simp only [fldTy] at hU
        simp only [offF] at ho
        cases hy : setFld i (.val u' x.2) v with
        | none => simp [hy] at h
        | some y' =>
          simp only [hy, Option.some.injEq] at h; subst h
          cases hoi : offF i u' with
          | none => simp [hoi] at ho
          | some oi =>
            simp only [hoi, Option.some.injEq] at ho; subst ho
            obtain ⟨s1, s2, s3⟩ := ih (a := .val u' x.2) (T := u') rfl hU hoi hv hy
            obtain ⟨o2, ho2, hle⟩ := fldTy_off hU
            rw [hoi] at ho2; cases ho2
            refine ⟨⟨_, _, rfl, rfl, s1⟩, fun g hg => ?_, fun cs vs hc hvs => ?_⟩
            · simp only [ids, List.mem_append, List.nil_append] at hg ⊢
              rcases s2 g hg with hg | hg
              · simp [ids] at hg
              · exact .inr hg
            · have hcl := RdL.length (t := .pair u u') hc
              simp only [size] at hcl
              refine ⟨?_, ?_⟩
              · show AVL w I L C (.val u x.1) ((splice cs (size u + oi) vs).take (size u))
                rw [splice_take (by omega) (by omega)]; exact hc.1
              · show AVL w I L C y' ((splice cs (size u + oi) vs).drop (size u))
                rw [splice_shift (by omega) (by omega)]
                have := s3 (cs.drop (size u)) _ hc.2 hvs
                rwa [Nat.add_sub_cancel_left]
      | _ => simp [setFld] at h
    | _ => simp [setFld] at h
end Go.Ev
/- Parts of values, deeper; reading values as data. -/
namespace Go.Ev

theorem splice_seg {cs vs : List Value} {o n p : Nat} (hp : p + vs.length ≤ n) (hn : o + n ≤ cs.length) :
    splice cs (o + p) vs = splice cs o (splice (seg cs o n) p vs) := by
  have hsl : (seg cs o n).length = n := seg_length hn
  have hl : (splice (seg cs o n) p vs).length = n := by rw [splice_length (by omega), hsl]
  unfold splice at hl ⊢
  rw [hl]
  have e1 : (seg cs o n).take p = seg cs o p := seg_take (by omega)
  have e2 : (seg cs o n).drop (p + vs.length) = seg cs (o + (p + vs.length)) (n - (p + vs.length)) := seg_drop
  rw [e1, e2]
  have e3 : cs.take (o + p) = cs.take o ++ seg cs o p := by unfold seg; rw [← List.take_add]
  have e4 : cs.drop (o + p + vs.length) = seg cs (o + (p + vs.length)) (n - (p + vs.length)) ++ cs.drop (o + n) := by
    unfold seg
    rw [show o + p + vs.length = o + (p + vs.length) from by omega, show cs.drop (o + n) = (cs.drop (o + (p + vs.length))).drop (n - (p + vs.length)) from by rw [List.drop_drop]; congr 1; omega, List.take_append_drop]
  rw [e3, e4]
  simp [List.append_assoc]
theorem setP_cells {w : World} {I : Nat → Prop} {L : Look} {C : Conc} : ∀ {p : List Nat} {a v a' : AV} {T U : Ty} {o : Nat}, shp a T → tyP T p = some U → offP T p = some o → shp v U → setP p a v = some a' →
    shp a' T ∧ (∀ g ∈ ids a', g ∈ ids a ∨ g ∈ ids v) ∧ (∀ cs vs, AVL w I L C a cs → AVL w I L C v vs → AVL w I L C a' (splice cs o vs)) := by
  intro p
  induction p with
  | nil =>
    intro a v a' T U o hs hU ho hv h
    simp only [setP, Option.some.injEq] at h; subst h
    simp only [tyP, Option.some.injEq] at hU; subst hU
    simp only [offP, Option.some.injEq] at ho; subst ho
    refine ⟨hv, fun g hg => .inr hg, fun cs vs hc hvs => ?_⟩
    have h1 := AVL.length hc
    have h2 := AVL.length hvs
    rw [shp_size hs] at h1
    rw [shp_size hv] at h2
    have : splice cs 0 vs = vs := by unfold splice; simp; omega
    rw [this]; exact hvs
  | cons i p ih =>
    intro a v a' T U o hs hU ho hv h
    simp only [tyP] at hU
    simp only [offP] at ho
    simp only [setP] at h
    cases hf : fldTy i T with
    | none => simp [hf] at hU
    | some V =>
      rw [hf] at hU ho
      cases hof : offF i T with
      | none => simp [hof] at ho
      | some oi =>
        simp only [hof] at ho
        cases hop : offP V p with
        | none => simp [hop] at ho
        | some op =>
          simp only [hop, Option.some.injEq] at ho; subst ho
          cases hb : fld i a with
          | none => simp [hb] at h
          | some b =>
            simp only [hb] at h
            cases hb' : setP p b v with
            | none => simp [hb'] at h
            | some b' =>
              simp only [hb'] at h
              obtain ⟨V', o', hV', ho', hle, hsb, hid, hc⟩ := fld_cells (w := w) (I := I) (L := L) (C := C) hs hb
              rw [hf] at hV'; cases hV'
              rw [hof] at ho'; cases ho'
              obtain ⟨s1, s2, s3⟩ := ih hsb hU hop hv hb'
              obtain ⟨t1, t2, t3⟩ := setFld_cells (w := w) (I := I) (L := L) (C := C) hs hf hof s1 h
              refine ⟨t1, fun g hg => ?_, fun cs vs hcs hvs => ?_⟩
              · rcases t2 g hg with hg | hg
                · exact .inl hg
                · rcases s2 g hg with hg | hg
                  · exact .inl (hid g hg)
                  · exact .inr hg
              · have := t3 _ _ hcs (s3 _ _ (hc _ hcs) hvs)
                obtain ⟨o2, ho2, hle2⟩ := tyP_off hU
                rw [hop] at ho2; cases ho2
                have hvl := AVL.length hvs
                rw [shp_size hv] at hvl
                have hcl := AVL.length hcs
                rw [shp_size hs] at hcl
                rwa [← splice_seg (by omega) (by omega)] at this

/-- What may be read of an abstract value: what is fixed, and what its objects own. -/
def IP (I : Nat → Prop) (C : Conc) (gs : List Nat) (b : Nat) : Prop := I b ∨ ∃ g ∈ gs, b ∈ C.β g
theorem IP.sub {I : Nat → Prop} {C : Conc} {gs hs : List Nat} (h : ∀ g ∈ gs, g ∈ hs) {b : Nat} (hb : IP I C gs b) : IP I C hs b :=
  hb.imp id fun ⟨g, hg, hb⟩ => ⟨g, h g hg, hb⟩

theorem row_rd {w : World} {I : Nat → Prop} {L : Look} {C : Conc} {g : Nat} {e : Ty} {nn : Bool} {xs : List (den e)} (h : ObjR w I L C g (.row e nn xs)) :
    RdL w (IP I C [g]) (.slice e) xs [C.ρ g] := by
  obtain ⟨hb, h⟩ := h
  simp only [RdL]
  refine ⟨_, rfl, hb, ?_⟩
  rcases h with ⟨h1, h2, _⟩ | ⟨b, off, cap, arr, ty, h1, h2, h3, h4, h5, h6⟩
  · exact .inl ⟨h2, none, 0, h1⟩
  · refine .inr ⟨b, off, cap, h1, h2, fun hl => ⟨.inr ⟨g, by simp, by simp [h3]⟩, arr, ty, _, h4, ?_, fun j hj => RdL.mono (fun b hb => ⟨.inl hb, rfl⟩) (h6 j hj)⟩⟩
    have : xs.length * size e ≤ cap * size e := Nat.mul_le_mul_right _ h2
    omega
theorem frz_rd {w : World} {I : Nat → Prop} {L : Look} {C : Conc} {g : Nat} {e : Ty} {xs : List (den e)} (h : ObjR w I L C g (.frz e xs)) :
    RdL w I (.slice e) xs [C.ρ g] := h.2
/-- A part of a slice. -/
theorem RdL.sub {w : World} {I : Nat → Prop} {e : Ty} {xs : List (den e)} {A : Option Addr} {len cap lo hi : Nat} (h : RdL w I (.slice e) xs [.slice A len cap])
    (h1 : lo ≤ hi) (h2 : hi ≤ xs.length) : RdL w I (.slice e) ((xs.take hi).drop lo) [.slice (if cap = lo then A else A.map (·.add (lo * size e))) (hi - lo) (cap - lo)] := by
  simp only [RdL] at h ⊢
  obtain ⟨v, hv, hb, h⟩ := h
  simp only [List.cons.injEq, and_true] at hv
  subst hv
  have hlen : ((xs.take hi).drop lo).length = hi - lo := by simp; omega
  refine ⟨_, rfl, by rw [hlen]; omega, ?_⟩
  rcases h with ⟨h4, _, _, h3⟩ | ⟨b, off, cap', h3, h4, h5⟩
  · cases h3
    subst h4
    simp at h2
    have e1 : lo = 0 := by omega
    subst e1 h2
    exact .inl ⟨by simp, _, _, rfl⟩
  · injection h3 with e1 e2 e3
    subst e1 e2 e3
    right
    by_cases hc : cap = lo
    · have e1 : hi = lo := by omega
      refine ⟨b, off, cap - lo, by simp [hc, hlen], by omega, fun hl => by omega⟩
    · refine ⟨b, off + lo * size e, cap - lo, ?_, by omega, fun hl => ?_⟩
      · simp only [hc, if_false, hlen]
        congr 2
        simp only [Option.map_some, Addr.add]
        split
        · rename_i h0
          simp [h0]
        · rfl
      · obtain ⟨h6, arr, ty, fr, h7, h8, h9⟩ := h5 (by omega)
        refine ⟨h6, arr, ty, fr, h7, ?_, fun j hj => ?_⟩
        · rw [hlen]
          have e2 : lo * size e + (hi - lo) * size e = hi * size e := by rw [← Nat.add_mul, Nat.add_sub_cancel' h1]
          have e4 : hi * size e ≤ xs.length * size e := Nat.mul_le_mul_right _ h2
          rw [Nat.add_assoc, e2]
          exact Nat.le_trans (Nat.add_le_add_left e4 _) h8
        · have hj' : lo + j < xs.length := by omega
          have := h9 (lo + j) hj'
          rw [Nat.add_mul, ← Nat.add_assoc] at this
          have e3 : ((xs.take hi).drop lo)[j]'hj = xs[lo + j]'hj' := by simp
          rw [e3]
          exact this
theorem view_rd {w : World} {I : Nat → Prop} {e : Ty} {xs : List (den e)} {v ρ : Value} {lo hi : Int} (h : RdL w I (.slice e) xs [ρ])
    (hv : 0 ≤ lo ∧ lo ≤ hi ∧ hi ≤ (xs.length : Int) ∧ ∃ A len cap, ρ = .slice A len cap ∧ v = .slice (if cap = lo.toNat then A else A.map (·.add (lo.toNat * size e))) (hi.toNat - lo.toNat) (cap - lo.toNat)) :
    RdL w I (.slice e) ((xs.take hi.toNat).drop lo.toNat) [v] := by
  obtain ⟨h0, h1, h2, A, len, cap, rfl, rfl⟩ := hv
  exact RdL.sub h (by omega) (by omega)

/-- Objects that a value leads to lie as they are told. -/
def ObjsR (w : World) (I : Nat → Prop) (L : Look) (C : Conc) : Prop := ∀ g o, L g = some o → ObjR w I L C g o

theorem rdv_sound {w : World} {I : Nat → Prop} {L M : Look} {C : Conc} (hM : ∀ g o, L g = some o → M g = some o ∧ ObjR w I M C g o) :
    ∀ {a : AV} {t : Ty} {x : den t}, rdv L a t = some x → shp a t ∧ ∀ cs, AVL w I M C a cs → RdL w (IP I C (ids a)) t x cs := by
  intro a
  induction a with
  | val u y =>
    intro t x h
    obtain ⟨e, rfl⟩ := toD_some (by simpa only [rdv] using h)
    subst e
    exact ⟨rfl, fun cs hc => RdL.mono (fun b hb => ⟨.inl hb, rfl⟩) hc⟩
  | nil =>
    intro t x h
    cases t with
    | slice e =>
      simp only [rdv, Option.some.injEq] at h; subst h
      exact ⟨⟨e, rfl⟩, fun cs hc => by simp only [AVL] at hc; subst hc; exact ⟨_, rfl, by simp, .inl ⟨rfl, _, _, rfl⟩⟩⟩
    | _ => simp [rdv] at h
  | row g =>
    intro t x h
    cases t with
    | slice e =>
      simp only [rdv] at h
      refine ⟨⟨e, rfl⟩, fun cs hc => ?_⟩
      obtain ⟨v, rfl, hv⟩ := hc
      cases hg : L g with
      | none => simp [hg] at h
      | some o =>
        obtain ⟨hm, ho⟩ := hM g o hg
        rw [hg] at h
        cases o with
        | box T c => simp at h
        | row u nn xs =>
          obtain ⟨e1, rfl⟩ := toL_some h
          subst e1
          have : v = C.ρ g := hv (by rw [hm]; simp [rowTy])
          rw [this]
          exact RdL.mono (fun b hb => ⟨by simpa [ids] using hb, rfl⟩) (row_rd ho)
        | frz u xs =>
          obtain ⟨e1, rfl⟩ := toL_some h
          subst e1
          have : v = C.ρ g := hv (by rw [hm]; simp [rowTy])
          rw [this]
          exact RdL.mono (fun b hb => ⟨.inl hb, rfl⟩) (frz_rd ho)
    | _ => simp [rdv] at h
  | view g lo hi =>
    intro t x h
    cases t with
    | slice e =>
      simp only [rdv] at h
      refine ⟨⟨e, rfl⟩, fun cs hc => ?_⟩
      obtain ⟨v, rfl, hv⟩ := hc
      cases hg : L g with
      | none => simp [hg] at h
      | some o =>
        obtain ⟨hm, ho⟩ := hM g o hg
        rw [hg] at h
        cases o with
        | box T c => simp at h
        | row u nn xs =>
          obtain ⟨e1, rfl⟩ := toL_some h
          subst e1
          have := hv u (by rw [hm]; rfl)
          rw [hm] at this
          exact RdL.mono (fun b hb => ⟨by simpa [ids] using hb, rfl⟩) (view_rd (row_rd ho) this)
        | frz u xs =>
          obtain ⟨e1, rfl⟩ := toL_some h
          subst e1
          have := hv u (by rw [hm]; rfl)
          rw [hm] at this
          exact RdL.mono (fun b hb => ⟨.inl hb, rfl⟩) (view_rd (frz_rd ho) this)
    | _ => simp [rdv] at h
  | unit =>
    intro t x h
    cases t with
    | unit => exact ⟨rfl, fun cs hc => hc⟩
    | _ => simp [rdv] at h
  | pair a b iha ihb =>
    intro t x h
    cases t with
    | pair u v =>
      simp only [rdv] at h
      cases hp : rdv L a u with
      | none => simp [hp] at h
      | some p =>
        cases hq : rdv L b v with
        | none => simp [hp, hq] at h
        | some q =>
          simp only [hp, hq, Option.some.injEq] at h; subst h
          obtain ⟨a1, a2⟩ := iha hp
          obtain ⟨b1, b2⟩ := ihb hq
          refine ⟨⟨u, v, rfl, a1, b1⟩, fun cs hc => ⟨?_, ?_⟩⟩
          · rw [← shp_size a1]
            exact RdL.mono (fun b hb => ⟨IP.sub (fun g hg => by simp [ids, hg]) hb, rfl⟩) (a2 _ hc.1)
          · rw [← shp_size a1]
            exact RdL.mono (fun b hb => ⟨IP.sub (fun g hg => by simp [ids, hg]) hb, rfl⟩) (b2 _ hc.2)
    | _ => simp [rdv] at h
  | _ => intro t x h; cases t <;> simp [rdv] at h
end Go.Ev
/- The simulation: an abstract state stands for the frame and the memory of a call that runs. -/
namespace Go.Ev

structure Ext (M : Nat → Prop) (w w' : World) : Prop where
  os : w'.os = w.os
  tape : w'.tape = w.tape
  output : w'.output = w.output
  size : w.heap.size ≤ w'.heap.size
  block : ∀ b, b < w.heap.size → ¬ M b → w'.heap[b]? = w.heap[b]?
theorem Ext.refl (M : Nat → Prop) (w : World) : Ext M w w := ⟨rfl, rfl, rfl, Nat.le_refl _, fun _ _ _ => rfl⟩
theorem Ext.trans {M : Nat → Prop} {a b c : World} (h : Ext M a b) (k : Ext M b c) : Ext M a c :=
  ⟨k.os.trans h.os, k.tape.trans h.tape, k.output.trans h.output, Nat.le_trans h.size k.size,
    fun i hi hm => (k.block i (Nat.lt_of_lt_of_le hi h.size) hm).trans (h.block i hi hm)⟩

/-- The frame of a call: where it began, what is fixed, which old blocks may change, how many slots, which objects keep their place. -/
structure Fr where
  w0 : World
  J : Nat → Prop
  Mb : Nat → Prop
  Mr : Nat → Prop
  n : Nat
  fixed : List (Nat × Value)
/-- An old block that an object may have: a box behind a pointer that was handed in, or a row that such a box owns. -/
def Fr.M (F : Fr) (o : Option Obj) (b : Nat) : Prop := match o with
  | some (.box _ _) => F.Mb b
  | _ => F.Mr b
def Imm (F : Fr) (w : World) (S : AState) (C : Conc) (b : Nat) : Prop :=
  b < w.heap.size ∧ (b < F.w0.heap.size → F.J b) ∧ ∀ g, S.obj g ≠ none → b ∉ C.β g

structure Sim (F : Fr) (S : AState) (a : Act) (w : World) (C : Conc) : Prop where
  nt : a.tmps.size = F.n
  nd : a.defers = []
  tmp : ∀ t, AVR w (Imm F w S C) S.obj C (S.tmp t) (a.tmps.getD t undef)
  obj : ∀ g o, S.obj g = some o → ObjR w (Imm F w S C) S.obj C g o
  nod : ∀ g, S.obj g ≠ none → (C.β g).Nodup
  sep : ∀ g h b, S.obj g ≠ none → S.obj h ≠ none → b ∈ C.β g → b ∈ C.β h → g = h
  own : ∀ g b, S.obj g ≠ none → b ∈ C.β g → b < w.heap.size ∧ (F.w0.heap.size ≤ b ∨ F.M (S.obj g) b)
  use1 : ∀ t g, g ∈ ids (S.tmp t) → S.used g = true
  use2 : ∀ g T c h, S.obj g = some (.box T c) → h ∈ ids c → S.used h = true
  use3 : ∀ g, S.obj g ≠ none → S.used g = true
  ext : Ext (fun b => F.Mb b ∨ F.Mr b) F.w0 w
  fix : ∀ g v, (g, v) ∈ F.fixed → C.ρ g = v ∧ S.used g = true
  jm : ∀ b, F.J b → ¬ F.Mb b ∧ ¬ F.Mr b ∧ b < F.w0.heap.size

theorem ObjR.mono {w w' : World} {I I' : Nat → Prop} {L L' : Look} {C C' : Conc} {g : Nat} {o : Obj} (hI : ∀ b, I b → I' b ∧ w'.heap[b]? = w.heap[b]?)
    (hg : C'.ρ g = C.ρ g ∧ C'.β g = C.β g ∧ ∀ b ∈ C.β g, w'.heap[b]? = w.heap[b]?)
    (hids : ∀ T c, o = .box T c → ∀ h ∈ ids c, Alike (L h) (L' h) ∧ C'.ρ h = C.ρ h) (h : ObjR w I L C g o) : ObjR w' I' L' C' g o := by
  obtain ⟨h1, h2, h3⟩ := hg
  cases o with
  | box T c =>
    obtain ⟨b, arr, ty, k1, k2, k3, k4, k5⟩ := h
    exact ⟨b, arr, ty, h1.trans k1, h2.trans k2, (h3 b (by simp [k2])).trans k3, AVL.mono hI (hids T c rfl) k4, k5⟩
  | row e nn xs =>
    obtain ⟨hb, h⟩ := h
    refine ⟨hb, ?_⟩
    rcases h with ⟨k1, k2, k3, k4⟩ | ⟨b, off, cap, arr, ty, k1, k2, k3, k4, k5, k6⟩
    · exact .inl ⟨h1.trans k1, k2, k3, h2.trans k4⟩
    · exact .inr ⟨b, off, cap, arr, ty, h1.trans k1, k2, h2.trans k3, (h3 b (by simp [k3])).trans k4, k5, fun j hj => RdL.mono hI (k6 j hj)⟩
  | frz e xs => exact ⟨h2.trans h.1, by rw [h1]; exact RdL.mono hI h.2⟩

theorem Sim.upd {F : Fr} {S : AState} {a : Act} {w : World} {C : Conc} (h : Sim F S a w C) (u : Upd) (nw : List Nat) (w' : World) (C' : Conc)
    (hρ : ∀ g, S.used g = true → C'.ρ g = C.ρ g)
    (hal : ∀ g, S.used g = true → Alike (S.obj g) ((S.upd u nw).obj g))
    (hext : Ext (fun b => ∃ g, S.obj g ≠ none ∧ b ∈ C.β g) w w')
    (himm : ∀ b, Imm F w S C b → (∀ g, (S.upd u nw).obj g ≠ none → b ∉ C'.β g) ∧ w'.heap[b]? = w.heap[b]?)
    (hsame : ∀ g o, S.obj g = some o → assoc u g = none → C'.β g = C.β g ∧ ∀ b ∈ C.β g, w'.heap[b]? = w.heap[b]?)
    (hobj : (∀ b, Imm F w S C b → Imm F w' (S.upd u nw) C' b ∧ w'.heap[b]? = w.heap[b]?) → ∀ g o, assoc u g = some (some o) → ObjR w' (Imm F w' (S.upd u nw) C') (S.upd u nw).obj C' g o)
    (hnod : ∀ g, (S.upd u nw).obj g ≠ none → (C'.β g).Nodup)
    (hsep : ∀ g h b, (S.upd u nw).obj g ≠ none → (S.upd u nw).obj h ≠ none → b ∈ C'.β g → b ∈ C'.β h → g = h)
    (hown : ∀ g b, (S.upd u nw).obj g ≠ none → b ∈ C'.β g → b < w'.heap.size ∧ (F.w0.heap.size ≤ b ∨ F.M ((S.upd u nw).obj g) b))
    (hbox : ∀ g T c h, assoc u g = some (some (.box T c)) → h ∈ ids c → (S.upd u nw).used h = true)
    (huse : ∀ g o, assoc u g = some (some o) → (S.upd u nw).used g = true) :
    Sim F (S.upd u nw) a w' C' ∧ ∀ b, Imm F w S C b → Imm F w' (S.upd u nw) C' b ∧ w'.heap[b]? = w.heap[b]? := by
  have hi : ∀ b, Imm F w S C b → Imm F w' (S.upd u nw) C' b ∧ w'.heap[b]? = w.heap[b]? := fun b hb =>
    ⟨⟨Nat.lt_of_lt_of_le hb.1 hext.size, hb.2.1, (himm b hb).1⟩, (himm b hb).2⟩
  have hus : ∀ g, S.used g = true → (S.upd u nw).used g = true := fun g hg => by simp [AState.upd, hg]
  refine ⟨⟨h.nt, h.nd, fun t => ?_, fun g o hg => ?_, hnod, hsep, hown, fun t g hg => hus g (h.use1 t g hg), fun g T c k hg hk => ?_, fun g hg => ?_, ?_, fun g v hg => ?_, h.jm⟩, hi⟩
  · exact AVR.mono hi (fun g hg => ⟨hal g (h.use1 t g hg), hρ g (h.use1 t g hg)⟩) (h.tmp t)
  · cases ha : assoc u g with
    | some o' =>
      have : (S.upd u nw).obj g = o' := by simp [AState.upd, ha]
      rw [this] at hg
      subst hg
      exact hobj hi g o ha
    | none =>
      have e : (S.upd u nw).obj g = S.obj g := by simp [AState.upd, ha]
      rw [e] at hg
      obtain ⟨s1, s2⟩ := hsame g o hg ha
      have hu := h.use3 g (by rw [hg]; simp)
      exact ObjR.mono hi ⟨hρ g hu, s1, s2⟩ (fun T c ho k hk => by
        subst ho
        have := h.use2 g T c k hg hk
        exact ⟨hal k this, hρ k this⟩) (h.obj g o hg)
  · cases ha : assoc u g with
    | some o' =>
      have : (S.upd u nw).obj g = o' := by simp [AState.upd, ha]
      rw [this] at hg
      subst hg
      exact hbox g T c k ha hk
    | none =>
      have e : (S.upd u nw).obj g = S.obj g := by simp [AState.upd, ha]
      rw [e] at hg
      exact hus k (h.use2 g T c k hg hk)
  · cases ha : assoc u g with
    | some o' =>
      have : (S.upd u nw).obj g = o' := by simp [AState.upd, ha]
      rw [this] at hg
      cases o' with
      | none => exact absurd rfl hg
      | some o => exact huse g o ha
    | none =>
      have e : (S.upd u nw).obj g = S.obj g := by simp [AState.upd, ha]
      rw [e] at hg
      exact hus g (h.use3 g hg)
  · have he := h.ext
    refine ⟨hext.os.trans he.os, hext.tape.trans he.tape, hext.output.trans he.output, Nat.le_trans he.size hext.size, fun b hb hn => ?_⟩
    refine (hext.block b (Nat.lt_of_lt_of_le hb he.size) fun ⟨g, hg, hm⟩ => hn ?_).trans (he.block b hb hn)
    rcases (h.own g b hg hm).2 with hm | hm
    · omega
    · unfold Fr.M at hm
      split at hm
      · exact .inl hm
      · exact .inr hm
  · obtain ⟨f1, f2⟩ := h.fix g v hg
    exact ⟨(hρ g f2).trans f1, hus g f2⟩

theorem Sim.set {F : Fr} {S : AState} {a : Act} {w : World} {C : Conc} (h : Sim F S a w C) {t : Nat} (ht : t < F.n) {v : AV} {x : Value}
    (hv : AVR w (Imm F w S C) S.obj C v x) (hu : ∀ g ∈ ids v, S.used g = true) : Sim F (S.set t v) { a with tmps := a.tmps.setIfInBounds t x } w C := by
  refine ⟨by simpa using h.nt, h.nd, fun s => ?_, h.obj, h.nod, h.sep, h.own, fun s g hg => ?_, h.use2, h.use3, h.ext, h.fix, h.jm⟩
  · have ht' : t < a.tmps.size := by rw [h.nt]; exact ht
    show AVR w (Imm F w S C) S.obj C (bif Nat.beq s t then v else S.tmp s) _
    by_cases hs : s = t
    · subst hs
      have : (a.tmps.setIfInBounds s x).getD s undef = x := by simp [Array.getD, ht']
      rw [this]
      simpa using hv
    · have e : Nat.beq s t = false := by
        cases hb : Nat.beq s t
        · rfl
        · exact absurd (Nat.eq_of_beq_eq_true hb) hs
      have : (a.tmps.setIfInBounds t x).getD s undef = a.tmps.getD s undef := by
        have hne : ¬ t = s := fun h => hs h.symm
        simp [Array.getD_eq_getD_getElem?, Array.getElem?_setIfInBounds, hne]
      rw [this, e]
      exact h.tmp s
  · have hg' : g ∈ ids (bif Nat.beq s t then v else S.tmp s) := hg
    cases hb : Nat.beq s t with
    | true => rw [hb] at hg'; exact hu g hg'
    | false => rw [hb] at hg'; exact h.use1 s g hg'

theorem upd_nil (S : AState) : S.upd [] [] = S := rfl
/-- A slot that nobody reads any more may stand for anything. -/
theorem AVR.undef_dead {w : World} {I : Nat → Prop} {L : Look} {C : Conc} {v : Value} : AVR w I L C .dead v := trivial

/-- What an operand stands for. -/
theorem opnd_rep {F : Fr} {S : AState} {a : Act} {w : World} {C : Conc} (h : Sim F S a w C) (x : Operand) :
    AVR w (Imm F w S C) S.obj C (S.opnd x) (a.eval x) ∧ ∀ g ∈ ids (S.opnd x), S.used g = true := by
  cases x with
  | tmp t => exact ⟨h.tmp t, h.use1 t⟩
  | global g => exact ⟨trivial, fun g hg => by simp [AState.opnd, ids] at hg⟩
  | func f => exact ⟨⟨_, rfl, rfl⟩, fun g hg => by simp [AState.opnd, ids] at hg⟩
  | const v =>
    refine ⟨?_, fun g hg => ?_⟩
    · show AVR w _ _ _ (cav v) v
      unfold cav
      split
      · rename_i k n
        cases hk : inK k n with
        | true => exact ⟨[.int k n], ⟨rfl, hk⟩, rfl⟩
        | false => trivial
      · exact ⟨[.bool _], rfl, rfl⟩
      · rename_i s
        cases hk : Nat.ble s.size 281474976710656 with
        | true => exact ⟨[.string s], ⟨s, rfl, rfl, (by have := Nat.le_of_ble_eq_true hk; simp only [big]; omega)⟩, rfl⟩
        | false => trivial
      · exact ⟨_, rfl, rfl⟩
      · exact ⟨_, rfl, rfl⟩
      · exact ⟨[.nilIface], ⟨_, rfl, .inl ⟨rfl, rfl⟩⟩, rfl⟩
      · trivial
    · have : ids (cav v) = [] := by
        unfold cav
        split <;> first
          | rfl
          | (cases inK _ _ <;> rfl)
          | (cases Nat.ble _ _ <;> rfl)
      rw [show S.opnd (.const v) = cav v from rfl, this] at hg
      cases hg
end Go.Ev
/- Operations that only compute. -/
namespace Go.Ev

theorem tmod_in (a b : Int) : (0 ≤ a → 0 ≤ a.tmod b ∧ a.tmod b ≤ a) ∧ (a ≤ 0 → a ≤ a.tmod b ∧ a.tmod b ≤ 0) := by
  have key : ∀ m n : Nat, m % n ≤ m := Nat.mod_le
  cases a with
  | ofNat m => cases b with
    | ofNat n => have := key m n; constructor <;> intro h <;> simp only [Int.tmod] <;> constructor <;> simp only [Int.ofNat_eq_natCast] at * <;> omega
    | negSucc n => have := key m (n + 1); constructor <;> intro h <;> simp only [Int.tmod] <;> constructor <;> simp only [Int.ofNat_eq_natCast, Nat.succ_eq_add_one] at * <;> omega
  | negSucc m => cases b with
    | ofNat n => have := key (m + 1) n; constructor <;> intro h <;> simp only [Int.tmod] <;> constructor <;> simp only [Int.ofNat_eq_natCast, Nat.succ_eq_add_one] at * <;> omega
    | negSucc n => have := key (m + 1) (n + 1); constructor <;> intro h <;> simp only [Int.tmod] <;> constructor <;> simp only [Int.ofNat_eq_natCast, Nat.succ_eq_add_one] at * <;> omega
theorem min_max (k : IntKind) : k.min ≤ 0 ∧ 0 ≤ k.max := by cases k <;> decide
theorem inK_tmod {k : IntKind} {a : Int} (b : Int) (h : inK k a = true) : inK k (a.tmod b) = true := by
  rw [inK_iff] at h ⊢
  have := tmod_in a b
  have := min_max k
  by_cases h0 : 0 ≤ a
  · have := (tmod_in a b).1 h0; omega
  · have := (tmod_in a b).2 (by omega); omega
theorem fdiv_in (a : Int) (n : Nat) : (0 ≤ a → 0 ≤ a.fdiv (2 ^ n) ∧ a.fdiv (2 ^ n) ≤ a) ∧ (a ≤ 0 → a ≤ a.fdiv (2 ^ n) ∧ a.fdiv (2 ^ n) ≤ 0) := by
  have hp : (1 : Int) ≤ 2 ^ n := by
    have : 0 < (2 : Int) ^ n := Int.pow_pos (by decide)
    omega
  generalize (2 : Int) ^ n = d at hp
  rw [Int.fdiv_eq_ediv_of_nonneg a (by omega)]
  constructor
  · intro h
    exact ⟨Int.ediv_nonneg h (by omega), Int.ediv_le_self d h⟩
  · intro h
    refine ⟨(Int.le_ediv_iff_mul_le (by omega)).2 ?_, ?_⟩
    · have : a * d ≤ a * 1 := Int.mul_le_mul_of_nonpos_left h hp
      omega
    · have : a / d ≤ 0 / d := Int.ediv_le_ediv (by omega) h
      simpa using this
theorem inK_fdiv {k : IntKind} {a : Int} (n : Nat) (h : inK k a = true) : inK k (a.fdiv (2 ^ n)) = true := by
  rw [inK_iff] at h ⊢
  have := min_max k
  by_cases h0 : 0 ≤ a
  · have := (fdiv_in a n).1 h0; omega
  · have := (fdiv_in a n).2 (by omega); omega

theorem arithC_ok {R : Type} {op : BinOp} {k l : IntKind} {a b : Int} {K : AV → Option R} {r : R} (hk : k = l ∨ isShift op = true) (ha : inK k a = true)
    (h : arithC op k a b K = some r) : ∃ t x v, K (.val t x) = some r ∧ (∀ P w T, (Go.binOp op T (.int k a) (.int l b)).run P w = .ok v w) ∧ (∀ w I, RdL w I t x [v]) ∧ isAgg t = false := by
  cases op with
  | add => rcases hk with rfl | hk
           · exact ⟨.int k, _, _, h, fun P w T => by simp [Go.binOp, Op.intArith]; rfl, fun w I => ⟨rfl, inK_wrap _ _⟩, rfl⟩
           · simp [isShift] at hk
  | sub => rcases hk with rfl | hk
           · exact ⟨.int k, _, _, h, fun P w T => by simp [Go.binOp, Op.intArith]; rfl, fun w I => ⟨rfl, inK_wrap _ _⟩, rfl⟩
           · simp [isShift] at hk
  | mul => rcases hk with rfl | hk
           · exact ⟨.int k, _, _, h, fun P w T => by simp [Go.binOp, Op.intArith]; rfl, fun w I => ⟨rfl, inK_wrap _ _⟩, rfl⟩
           · simp [isShift] at hk
  | quo => rcases hk with rfl | hk
           · simp only [arithC] at h
             cases hb : (b == 0) with
             | true => simp [hb] at h
             | false =>
               simp only [hb, cond_false] at h
               exact ⟨.int k, _, _, h, fun P w T => by simp [Go.binOp, Op.intDiv, (by simpa using hb : ¬ b = 0)]; rfl, fun w I => ⟨rfl, inK_wrap _ _⟩, rfl⟩
           · simp [isShift] at hk
  | rem => rcases hk with rfl | hk
           · simp only [arithC] at h
             cases hb : (b == 0) with
             | true => simp [hb] at h
             | false =>
               simp only [hb, cond_false] at h
               exact ⟨.int k, _, _, h, fun P w T => by simp [Go.binOp, Op.intDiv, (by simpa using hb : ¬ b = 0)]; rfl, fun w I => ⟨rfl, inK_tmod b ha⟩, rfl⟩
           · simp [isShift] at hk
  | and => rcases hk with rfl | hk
           · exact ⟨.int k, _, _, h, fun P w T => by simp [Go.binOp, Op.intBits]; rfl, fun w I => ⟨rfl, inK_wrap _ _⟩, rfl⟩
           · simp [isShift] at hk
  | or => rcases hk with rfl | hk
          · exact ⟨.int k, _, _, h, fun P w T => by simp [Go.binOp, Op.intBits]; rfl, fun w I => ⟨rfl, inK_wrap _ _⟩, rfl⟩
          · simp [isShift] at hk
  | xor => rcases hk with rfl | hk
           · exact ⟨.int k, _, _, h, fun P w T => by simp [Go.binOp, Op.intBits]; rfl, fun w I => ⟨rfl, inK_wrap _ _⟩, rfl⟩
           · simp [isShift] at hk
  | andNot => rcases hk with rfl | hk
              · exact ⟨.int k, _, _, h, fun P w T => by simp only [Go.binOp, Op.intBits, ne_eq, not_true_eq_false, if_false]; rfl, fun w I => ⟨rfl, inK_wrap _ _⟩, rfl⟩
              · simp [isShift] at hk
  | shl =>
    simp only [arithC] at h
    cases hb : decide (b < 0) with
    | true => simp [hb] at h
    | false =>
      simp only [hb, cond_false] at h
      exact ⟨.int k, _, _, h, fun P w T => by simp [Go.binOp, Op.shift, (by simpa using hb : ¬ b < 0)]; rfl, fun w I => ⟨rfl, inK_wrap _ _⟩, rfl⟩
  | shr =>
    simp only [arithC] at h
    cases hb : decide (b < 0) with
    | true => simp [hb] at h
    | false =>
      simp only [hb, cond_false] at h
      exact ⟨.int k, _, _, h, fun P w T => by simp [Go.binOp, Op.shift, (by simpa using hb : ¬ b < 0)]; rfl, fun w I => ⟨rfl, inK_fdiv _ ha⟩, rfl⟩
  | eql => rcases hk with rfl | hk
           · exact ⟨.bool, _, _, h, fun P w T => by simp [Go.binOp, Op.intCmp], fun w I => rfl, rfl⟩
           · simp [isShift] at hk
  | neq => rcases hk with rfl | hk
           · exact ⟨.bool, _, _, h, fun P w T => by simp [Go.binOp, Op.intCmp], fun w I => rfl, rfl⟩
           · simp [isShift] at hk
  | lss => rcases hk with rfl | hk
           · exact ⟨.bool, _, _, h, fun P w T => by simp [Go.binOp, Op.intCmp], fun w I => rfl, rfl⟩
           · simp [isShift] at hk
  | leq => rcases hk with rfl | hk
           · exact ⟨.bool, _, _, h, fun P w T => by simp [Go.binOp, Op.intCmp], fun w I => rfl, rfl⟩
           · simp [isShift] at hk
  | gtr => rcases hk with rfl | hk
           · exact ⟨.bool, _, _, h, fun P w T => by simp [Go.binOp, Op.intCmp], fun w I => rfl, rfl⟩
           · simp [isShift] at hk
  | geq => rcases hk with rfl | hk
           · exact ⟨.bool, _, _, h, fun P w T => by simp [Go.binOp, Op.intCmp], fun w I => rfl, rfl⟩
           · simp [isShift] at hk
end Go.Ev
/- What is asked of the program's types; comparisons; conversions; parts. -/
namespace Go.Ev

def zcells : Ty → List Value
  | .int k => [.int k 0]
  | .bool => [.bool false]
  | .str => [.string .empty]
  | .slice _ => [.slice none 0 0]
  | .arr n e => (List.replicate n (zcells e)).flatten
  | .ifc => [.nilIface]
  | .unit => []
  | .pair a b => zcells a ++ zcells b
theorem zcells_length : ∀ T : Ty, (zcells T).length = size T := by
  intro T
  induction T with
  | arr n e ih => simp [zcells, size, ih]
  | pair a b iha ihb => simp [zcells, size, iha, ihb]
  | _ => rfl
theorem seg_flatten_replicate {n m : Nat} {l : List Value} (hl : l.length = m) : ∀ j, j < n → seg (List.replicate n l).flatten (j * m) m = l := by
  induction n with
  | zero => intro j h; omega
  | succ n ih =>
    intro j h
    simp only [List.replicate_succ, List.flatten_cons]
    cases j with
    | zero => unfold seg; simp [← hl]
    | succ j =>
      have := ih j (by omega)
      unfold seg at this ⊢
      rw [show (j + 1) * m = l.length + j * m from by rw [Nat.add_mul, hl]; omega, List.drop_append, List.drop_eq_nil_of_le (by omega), List.nil_append, Nat.add_sub_cancel_left]
      exact this
theorem zero_rd (w : World) (I : Nat → Prop) : ∀ T : Ty, RdL w I T (zero T) (zcells T) := by
  intro T
  induction T with
  | int k => exact ⟨rfl, by cases k <;> decide⟩
  | bool => exact rfl
  | str => exact ⟨_, rfl, rfl, by simp [big]⟩
  | slice e _ => exact ⟨_, rfl, by simp [zero], .inl ⟨rfl, _, _, rfl⟩⟩
  | arr n e ih =>
    refine ⟨by simp [zero], by simp [zcells, zcells_length], fun j hj => ?_⟩
    have hj' : j < n := by simpa [zero] using hj
    rw [show zcells (.arr n e) = (List.replicate n (zcells e)).flatten from rfl, seg_flatten_replicate (zcells_length e) j hj']
    have : (zero (.arr n e))[j]'hj = zero e := by simp [zero]
    rw [this]
    exact ih
  | ifc => exact ⟨_, rfl, .inl ⟨rfl, rfl⟩⟩
  | unit => exact rfl
  | pair a b iha ihb =>
    have h1 := zcells_length a
    exact ⟨by simpa [zcells, ← h1, zero] using iha, by simpa [zcells, ← h1, zero] using ihb⟩
theorem zav_rd (w : World) (I : Nat → Prop) (L : Look) (C : Conc) : ∀ T : Ty, AVL w I L C (zav T) (zcells T) := by
  intro T
  induction T with
  | slice e _ => exact rfl
  | unit => exact rfl
  | pair a b iha ihb =>
    have h1 := zcells_length a
    have h2 := shp_size (zav_shp a)
    refine ⟨?_, ?_⟩
    · rw [h2, ← h1]; simpa [zcells] using iha
    · rw [h2, ← h1]; simpa [zcells] using ihb
  | int k => exact zero_rd w I (.int k)
  | bool => exact zero_rd w I .bool
  | str => exact zero_rd w I .str
  | arr n e _ => exact zero_rd w I (.arr n e)
  | ifc => exact zero_rd w I .ifc
theorem zav_ids : ∀ T : Ty, ids (zav T) = [] := by
  intro T
  induction T with
  | pair a b iha ihb => simp [zav, ids, iha, ihb]
  | _ => rfl

def FieldsR (tt : Nat → Option Ty) : List Field → Ty → Nat → Prop
  | [], .unit, _ => True
  | f :: r, .pair a b, o => f.offset = o ∧ tt f.type = some a ∧ FieldsR tt r b (o + size a)
  | _, _, _ => False
def UndR (P : Program) (tt : Nat → Option Ty) (t : TypeId) : Ty → Prop
  | .int k => P.underlying t = some (.int k)
  | .bool => P.underlying t = some .bool
  | .str => P.underlying t = some .string
  | .slice e => ∃ te, P.underlying t = some (.slice te) ∧ tt te = some e
  | .arr n e => ∃ te, P.underlying t = some (.array n te) ∧ tt te = some e
  | .ifc => ∃ ms, P.underlying t = some (.interface ms)
  | .unit => ∃ fs, P.underlying t = some (.struct fs) ∧ FieldsR tt fs.toList .unit 0
  | .pair a b => ∃ fs, P.underlying t = some (.struct fs) ∧ FieldsR tt fs.toList (.pair a b) 0
/-- What is asked of a program's types. -/
structure TOK (P : Program) (tt : Nat → Option Ty) : Prop where
  info : ∀ t T, tt t = some T → ∃ i, P.info? t = some i ∧ i.zero = some (ofC (isAgg T) (zcells T)) ∧ i.size = size T ∧ i.bytes ≤ 2048
  und : ∀ t T, tt t = some T → UndR P tt t T
  eqs : ∀ t T, tt t = some T → isAgg T = true → comparable T = true → ∀ (w : World) (I : Nat → Prop) (x y : den T) (cs ds : List Value) (a b : Operand), RdL w I T x cs → RdL w I T y ds →
    (do eqGuard .eql t a b (.agg cs.toArray) (.agg ds.toArray); Go.binOp .eql t (.agg cs.toArray) (.agg ds.toArray) : Sem Value).run P w = .ok (.bool (eqd T x y)) w ∧
    (do eqGuard .neq t a b (.agg cs.toArray) (.agg ds.toArray); Go.binOp .neq t (.agg cs.toArray) (.agg ds.toArray) : Sem Value).run P w = .ok (.bool (!(eqd T x y))) w

section
variable {w : World} {I : Nat → Prop} {L : Look} {C : Conc}
theorem AVR_int {k : IntKind} {a : Int} {v : Value} : AVR w I L C (.val (.int k) a) v ↔ v = .int k a ∧ inK k a = true := by
  constructor
  · rintro ⟨cs, ⟨rfl, h⟩, rfl⟩; exact ⟨rfl, h⟩
  · rintro ⟨rfl, h⟩; exact ⟨_, ⟨rfl, h⟩, rfl⟩
theorem AVR_bool {b : Bool} {v : Value} : AVR w I L C (.val .bool b) v ↔ v = .bool b := by
  constructor
  · rintro ⟨cs, h, rfl⟩; simp only [AVL, RdL] at h; subst h; rfl
  · rintro rfl; exact ⟨_, rfl, rfl⟩
theorem AVR_str {x : List Int} {v : Value} : AVR w I L C (.val .str x) v ↔ ∃ s : ByteArray, v = .string s ∧ bytesL s = x ∧ s.size ≤ big := by
  constructor
  · rintro ⟨cs, ⟨s, rfl, h⟩, rfl⟩; exact ⟨s, rfl, h⟩
  · rintro ⟨s, rfl, h⟩; exact ⟨_, ⟨s, rfl, h⟩, rfl⟩
theorem AVR_ifc {x : Bool} {v : Value} : AVR w I L C (.val .ifc x) v ↔ (x = true ∧ v = .nilIface) ∨ (x = false ∧ ∃ t u, v = .iface t u) := by
  constructor
  · rintro ⟨cs, ⟨s, rfl, h⟩, rfl⟩; exact h
  · rintro h; exact ⟨_, ⟨v, rfl, h⟩, rfl⟩
theorem AVR_nil {v : Value} : AVR w I L C .nil v ↔ v = .slice none 0 0 := by
  constructor
  · rintro ⟨cs, h, rfl⟩; simp only [AVL] at h; subst h; rfl
  · rintro rfl; exact ⟨_, rfl, rfl⟩
/-- A value by its cells. -/
theorem AVR_cells {a : AV} {T : Ty} {v : Value} (hs : shp a T) (h : AVR w I L C a v) : ∃ cs, AVL w I L C a cs ∧ v = ofC (isAgg T) cs ∧ cs.length = size T := by
  have : AV1 w I L C a v := by
    cases a with
    | dead => exact hs.elim
    | undef => exact hs.elim
    | tup _ => exact hs.elim
    | _ => exact h
  obtain ⟨cs, h1, h2⟩ := this
  exact ⟨cs, h1, by rw [← shp_agg hs]; exact h2, by rw [AVL.length h1, shp_size hs]⟩
theorem AVR_of_cells {a : AV} {T : Ty} {cs : List Value} (hs : shp a T) (h : AVL w I L C a cs) : AVR w I L C a (ofC (isAgg T) cs) := by
  have : AV1 w I L C a (ofC (isAgg T) cs) := ⟨cs, h, by rw [shp_agg hs]⟩
  cases a with
  | dead => exact hs.elim
  | undef => exact hs.elim
  | tup _ => exact hs.elim
  | _ => exact this
end
theorem ofC_cells {T : Ty} {cs : List Value} (h : cs.length = size T) (hone : ∀ t x, T ≠ .arr t x) : (ofC (isAgg T) cs).cells = cs.toArray ∨ isAgg T = false := by
  cases hT : isAgg T
  · exact .inr rfl
  · exact .inl rfl
theorem bytesL_inj {a b : ByteArray} (h : bytesL a = bytesL b) : a = b := by
  have h1 : a.data.toList = b.data.toList := by
    have := h
    unfold bytesL at this
    exact (List.map_inj_right (fun x y hxy => by
      have : x.toNat = y.toNat := by omega
      exact UInt8.toNat_inj.1 this)).1 this
  cases a; cases b
  simp only at h1
  rw [Array.toList_inj.1 h1]
theorem bytesL_length (s : ByteArray) : (bytesL s).length = s.size := by
  unfold bytesL
  rw [List.length_map, Array.length_toList]
  rfl
theorem bytesL_append (a b : ByteArray) : bytesL (a ++ b) = bytesL a ++ bytesL b := by
  simp [bytesL]

theorem str_beq (a b : ByteArray) : (a.toList == b.toList) = ((bytesL a : List Int) == bytesL b) := by
  rw [Bool.eq_iff_iff, beq_iff_eq, beq_iff_eq, ByteArray.toList_eq, ByteArray.toList_eq]
  constructor
  · intro h
    unfold bytesL
    rw [h]
  · intro h
    rw [bytesL_inj h]
end Go.Ev
/- Comparisons and sums of values. -/
namespace Go.Ev

theorem eqGuard_ok (P : Program) (w : World) (op : BinOp) (t : TypeId) (a b : Operand) (x y : Value) (h1 : ¬ (x = .nilIface ∧ y = .nilIface)) (h2 : (∀ c, x ≠ .agg c) ∨ (∀ c, y ≠ .agg c)) : (eqGuard op t a b x y).run P w = .ok () w := by
  unfold eqGuard
  split <;> (try simp) <;> (try rfl)
  all_goals
    split <;> first
      | simp
      | skip
  all_goals first
    | (exact absurd ⟨rfl, rfl⟩ h1)
    | (rcases h2 with h2 | h2 <;> exact absurd rfl (h2 _))

theorem isNilConst_eq {a : Operand} (h : isNilConst a = true) : a = .const .nilIface := by
  unfold isNilConst at h
  split at h
  · rfl
  · cases h
theorem eqGuard_nil (P : Program) (w : World) (op : BinOp) (t : TypeId) (a b : Operand) (h : (isNilConst a || isNilConst b) = true) : (eqGuard op t a b .nilIface .nilIface).run P w = .ok () w := by
  rw [Bool.or_eq_true] at h
  rcases h with h | h
  · rw [isNilConst_eq h]
    cases op <;> simp [eqGuard]
  · rw [isNilConst_eq h]
    cases op <;> simp [eqGuard]
theorem eqIn {P : Program} {w : World} {t : TypeId} {d : Nat} {x y : Value} {b : Bool} (h : ∀ d, (Op.equalIn (d + 1) t x y).run P w = .ok b w) : (Op.equal t x y).run P w = .ok b w := h 9999
theorem eqIn_nn {P : Program} {w : World} {t : TypeId} {ms} (hu : P.underlying t = some (.interface ms)) (d : Nat) : (Op.equalIn (d + 1) t .nilIface .nilIface).run P w = .ok true w := by
  simp [Op.equalIn, run_underlying hu]
theorem eqIn_in {P : Program} {w : World} {t : TypeId} {ms} (hu : P.underlying t = some (.interface ms)) (u : TypeId) (x : Value) (d : Nat) : (Op.equalIn (d + 1) t (.iface u x) .nilIface).run P w = .ok false w := by
  simp [Op.equalIn, run_underlying hu]
theorem eqIn_b {P : Program} {w : World} {t : TypeId} (hu : P.underlying t = some .bool) (x y : Bool) (d : Nat) : (Op.equalIn (d + 1) t (.bool x) (.bool y)).run P w = .ok (x == y) w := by
  simp [Op.equalIn, run_underlying hu]
theorem eqIn_s {P : Program} {w : World} {t : TypeId} {te} (hu : P.underlying t = some (.slice te)) (d : Nat) : (Op.equalIn (d + 1) t (.slice none 0 0) (.slice none 0 0)).run P w = .ok true w := by
  simp [Op.equalIn, run_underlying hu]
theorem eqIn_r {P : Program} {w : World} {t : TypeId} {te} (hu : P.underlying t = some (.slice te)) (a : Addr) (l c : Nat) (d : Nat) : (Op.equalIn (d + 1) t (.slice (some a) l c) (.slice none 0 0)).run P w = .ok false w := by
  simp [Op.equalIn, run_underlying hu]
/-- '==' and '!=' where the operands are no numbers and no strings. -/
theorem bin_eq {P : Program} {w : World} {t : TypeId} {x y : Value} {b : Bool} (a c : Operand) (h : ∀ d, (Op.equalIn (d + 1) t x y).run P w = .ok b w)
    (he : Go.binOp .eql t x y = (do pure (.bool (← Op.equal t x y)))) (hn : Go.binOp .neq t x y = (do pure (.bool (!(← Op.equal t x y)))))
    (hg : ∀ op, (eqGuard op t a c x y).run P w = .ok () w) :
    (do eqGuard .eql t a c x y; Go.binOp .eql t x y : Sem Value).run P w = .ok (.bool b) w ∧ (do eqGuard .neq t a c x y; Go.binOp .neq t x y : Sem Value).run P w = .ok (.bool (!b)) w := by
  have := eqIn (P := P) (d := 0) h
  constructor
  · simp [hg, he, this]
  · simp [hg, hn, this]

theorem binC_ok {P : Program} {tt : Nat → Option Ty} (hT : TOK P tt) {w : World} {I : Nat → Prop} {L M : Look} {C : Conc} (hM : ∀ g o, L g = some o → M g = some o ∧ ObjR w I M C g o)
    {R : Type} {t : TypeId} {op : BinOp} {ns : Bool} {xo yo : Operand} {x y : AV} {vx vy : Value} {K : AV → Option R} {r : R}
    (hx : AVR w I M C x vx) (hy : AVR w I M C y vy) (hn : ns = true → (isNilConst xo || isNilConst yo) = true) (h : binC (tt t) L op ns x y K = some r) :
    ∃ u z v, K (.val u z) = some r ∧ (do eqGuard op t xo yo vx vy; Go.binOp op t vx vy : Sem Value).run P w = .ok v w ∧ RdL w I u z [v] ∧ isAgg u = false := by
  unfold binC at h
  split at h
  · -- integers
    rename_i k a l b
    obtain ⟨rfl, ha⟩ := AVR_int.1 hx
    obtain ⟨rfl, hb⟩ := AVR_int.1 hy
    cases hk : (Nat.beq (kb k) (kb l) || isShift op) with
    | false => rw [hk] at h; cases h
    | true =>
      rw [hk, cond_true] at h
      obtain ⟨u, z, v, h1, h2, h3, h4⟩ := arithC_ok (l := l) (by rw [Bool.or_eq_true] at hk; exact hk.imp kb_inj id) ha h
      exact ⟨u, z, v, h1, by simp [eqGuard_ok, h2], h3 w I, h4⟩
  · -- strings
    rename_i a b
    obtain ⟨s, rfl, hs1, hs2⟩ := AVR_str.1 hx
    obtain ⟨s', rfl, hs1', hs2'⟩ := AVR_str.1 hy
    cases op with
    | add =>
      simp only at h
      split at h
      · rename_i c hc
        unfold app at hc
        split at hc
        · rename_i hlt
          cases hc
          have e1 : s.size + s'.size < maxLen := by
            have := bytesL_length s
            have := bytesL_length s'
            rw [hs1] at *
            rw [hs1'] at *
            omega
          refine ⟨.str, _, .string (s ++ s'), h, ?_, ⟨_, rfl, ?_, ?_⟩, rfl⟩
          · have : ¬ ((9223372036854775807 : Int) < (s.size : Int) + (s'.size : Int)) := by simp only [maxLen] at e1; omega
            simp [eqGuard_ok, Go.binOp, Op.stringOp, IntKind.max, IntKind.signed, IntKind.bits, this]
          · rw [bytesL_append, hs1, hs1']
          · simp only [ByteArray.size_append, maxLen, big] at *; omega
        · cases hc
      · cases h
    | eql => exact ⟨.bool, _, _, h, by simp [eqGuard_ok, Go.binOp, Op.stringOp, str_beq, hs1, hs1'], rfl, rfl⟩
    | neq => exact ⟨.bool, _, _, h, by simp [eqGuard_ok, Go.binOp, Op.stringOp, str_beq, hs1, hs1'], rfl, rfl⟩
    | _ => cases h
  · -- an interface value against nil
    rename_i b
    have hx' := AVR_ifc.1 hx
    have hy' := AVR_ifc.1 hy
    cases hc : (ns && isTy (tt t) .ifc) with
    | false => rw [hc] at h; cases h
    | true =>
      rw [hc, cond_true] at h
      rw [Bool.and_eq_true] at hc
      have ho := hn hc.1
      obtain ⟨ms, hu⟩ : ∃ ms, P.underlying t = some (.interface ms) := by
        cases ht : tt t with
        | none => rw [ht] at hc; cases hc.2
        | some T =>
          rw [ht] at hc
          have := Ty.beq_eq hc.2
          subst this
          exact hT.und t _ ht
      have e2 : vy = .nilIface := by
        rcases hy' with ⟨_, e⟩ | ⟨e, _⟩
        · exact e
        · cases e
      subst e2
      rcases hx' with ⟨rfl, rfl⟩ | ⟨rfl, t', u', rfl⟩
      · have := bin_eq xo yo (eqIn_nn (P := P) (w := w) hu) rfl rfl (fun op => eqGuard_nil P w op t xo yo ho)
        cases op with
        | eql => exact ⟨.bool, _, _, h, this.1, rfl, rfl⟩
        | neq => exact ⟨.bool, _, _, h, this.2, rfl, rfl⟩
        | _ => cases h
      · have := bin_eq xo yo (eqIn_in (P := P) (w := w) hu t' u') rfl rfl (fun op => eqGuard_ok P w op t xo yo _ _ (by simp) (by simp))
        cases op with
        | eql => exact ⟨.bool, _, _, h, this.1, rfl, rfl⟩
        | neq => exact ⟨.bool, _, _, h, this.2, rfl, rfl⟩
        | _ => cases h
  · -- other data
    rename_i T a U b hne1 hne2 hne3
    split at h
    · rename_i b' hb
      obtain ⟨e, rfl⟩ := toD_some hb
      subst e
      cases hc : (comparable U && isTy (tt t) U) with
      | false => rw [hc] at h; cases h
      | true =>
        rw [hc, cond_true] at h
        rw [Bool.and_eq_true] at hc
        have ht : tt t = some U := by
          cases ht : tt t with
          | none => rw [ht] at hc; cases hc.2
          | some T => rw [ht] at hc; rw [Ty.beq_eq hc.2]
        obtain ⟨cs, h1, rfl, _⟩ := AVR_cells (a := .val U a) (T := U) rfl hx
        obtain ⟨ds, h2, rfl, _⟩ := AVR_cells (a := .val U b) (T := U) rfl hy
        simp only [AVL] at h1 h2
        cases hag : isAgg U with
        | true =>
          have := hT.eqs t U ht hag hc.1 w I a b cs ds xo yo h1 h2
          cases op with
          | eql => exact ⟨.bool, _, _, h, by simpa [ofC] using this.1, rfl, rfl⟩
          | neq => exact ⟨.bool, _, _, h, by simpa [ofC] using this.2, rfl, rfl⟩
          | _ => cases h
        | false =>
          cases U with
          | bool =>
            simp only [RdL] at h1 h2
            subst h1 h2
            have hu := hT.und t _ ht
            simp only [UndR] at hu
            have := bin_eq xo yo (eqIn_b (P := P) (w := w) hu a b) rfl rfl (fun op => eqGuard_ok P w op t xo yo _ _ (by simp) (by simp))
            cases op with
            | eql => exact ⟨.bool, _, _, h, this.1, rfl, rfl⟩
            | neq => exact ⟨.bool, _, _, h, this.2, rfl, rfl⟩
            | _ => cases h
          | int k => exact (hne1 k a k b rfl HEq.rfl rfl HEq.rfl).elim
          | str => exact (hne2 a b rfl HEq.rfl rfl HEq.rfl).elim
          | _ => simp [comparable, isAgg] at hc hag
    · cases h
  · -- nil, nil
    rw [AVR_nil.1 hx, AVR_nil.1 hy]
    cases hc : isSlT (tt t) with
    | false => rw [hc] at h; cases h
    | true =>
      rw [hc, cond_true] at h
      obtain ⟨te, hu⟩ : ∃ te, P.underlying t = some (.slice te) := by
        cases ht : tt t with
        | none => rw [ht] at hc; cases hc
        | some T =>
          cases T with
          | slice e => obtain ⟨te, h, _⟩ := hT.und t _ ht; exact ⟨te, h⟩
          | _ => rw [ht] at hc; cases hc
      have := bin_eq xo yo (eqIn_s (P := P) (w := w) hu) rfl rfl (fun op => eqGuard_ok P w op t xo yo _ _ (by simp) (by simp))
      cases op with
      | eql => exact ⟨.bool, _, _, h, this.1, rfl, rfl⟩
      | neq => exact ⟨.bool, _, _, h, this.2, rfl, rfl⟩
      | _ => cases h
  · -- a row that is not nil
    rename_i g
    split at h
    · rename_i e xs hg
      cases hc : isSlT (tt t) with
      | false => rw [hc] at h; cases h
      | true =>
        rw [hc, cond_true] at h
        obtain ⟨te, hu⟩ : ∃ te, P.underlying t = some (.slice te) := by
          cases ht : tt t with
          | none => rw [ht] at hc; cases hc
          | some T =>
            cases T with
            | slice e => obtain ⟨te, h, _⟩ := hT.und t _ ht; exact ⟨te, h⟩
            | _ => rw [ht] at hc; cases hc
        rw [AVR_nil.1 hy]
        obtain ⟨hm, ho⟩ := hM g _ hg
        rcases hx with ⟨cs, ⟨v0, hcs, hv⟩, hvx⟩
        subst hcs
        have e0 : vx = v0 := hvx
        subst e0
        have e1 : vx = C.ρ g := hv (by rw [hm]; simp [rowTy])
        rcases ho.2 with ⟨_, _, e2, _⟩ | ⟨b, off, cap, arr, ty, k1, _⟩
        · cases e2
        · rw [k1] at e1
          subst e1
          have := bin_eq xo yo (eqIn_r (P := P) (w := w) hu ⟨b, off, none⟩ xs.length cap) rfl rfl (fun op => eqGuard_ok P w op t xo yo _ _ (by simp) (by simp))
          cases op with
          | eql => exact ⟨.bool, _, _, h, this.1, rfl, rfl⟩
          | neq => exact ⟨.bool, _, _, h, this.2, rfl, rfl⟩
          | _ => cases h
    · cases h
  · cases h
end Go.Ev
/- Loads, addresses, parts: operations that read memory. -/
namespace Go.Ev

theorem rd_some {α : Type} {xs : List α} {i : Int} {x : α} (h : rd xs i = some x) : 0 ≤ i ∧ ∃ hl : i.toNat < xs.length, xs[i.toNat]'hl = x := by
  unfold rd at h
  split at h
  · cases h
  · rename_i h0
    obtain ⟨h1, h2⟩ := List.getElem?_eq_some_iff.1 h
    exact ⟨by omega, h1, h2⟩
theorem isTy_some {o : Option Ty} {t : Ty} (h : isTy o t = true) : o = some t := by
  unfold isTy at h
  split at h
  · rw [Ty.beq_eq h]
  · cases h
theorem isAgg_und {P : Program} {tt : Nat → Option Ty} (hT : TOK P tt) {t : TypeId} {T : Ty} (ht : tt t = some T) (w : World) : (Go.isAgg t).run P w = .ok (isAgg T) w := by
  have hu := hT.und t T ht
  unfold Go.isAgg
  cases T with
  | int k => simp [run_underlying hu, isAgg]
  | bool => simp [run_underlying hu, isAgg]
  | str => simp [run_underlying hu, isAgg]
  | slice e => obtain ⟨te, hu, _⟩ := hu; simp [run_underlying hu, isAgg]
  | arr n e => obtain ⟨te, hu, _⟩ := hu; simp [run_underlying hu, isAgg]
  | ifc => obtain ⟨te, hu⟩ := hu; simp [run_underlying hu, isAgg]
  | unit => obtain ⟨te, hu, _⟩ := hu; simp [run_underlying hu, isAgg]
  | pair a b => obtain ⟨te, hu, _⟩ := hu; simp [run_underlying hu, isAgg]
theorem sizeOf_ok {P : Program} {tt : Nat → Option Ty} (hT : TOK P tt) {t : TypeId} {T : Ty} (ht : tt t = some T) (w : World) : (Go.sizeOf t).run P w = .ok (size T) w := by
  obtain ⟨i, hi, _, hs, _⟩ := hT.info t T ht
  simp [Go.sizeOf, typeInfo, hi, hs]
theorem add_lit (b o n : Nat) : (⟨b, o, none⟩ : Addr).add n = ⟨b, o + n, none⟩ := by
  unfold Addr.add
  split
  · rename_i h; subst h; rfl
  · rfl
theorem cell_block {w : World} {b o : Nat} {arr : Array Value} {ty : TypeId} {fr : Nat × Nat} (h : w.heap[b]? = some (.cells arr ty fr)) : w.cell? ⟨b, o, none⟩ = arr[o]? := by
  simp [World.cell?, h]
theorem seg_get {l : List Value} {o n j : Nat} {v : Value} (h : (seg l o n)[j]? = some v) : l[o + j]? = some v ∧ j < n := by
  unfold seg at h
  rw [List.getElem?_take] at h
  split at h
  · rename_i hj
    rw [List.getElem?_drop] at h
    exact ⟨h, hj⟩
  · cases h
theorem loadAt_ok {P : Program} {tt : Nat → Option Ty} (hT : TOK P tt) {t : TypeId} {T : Ty} (ht : tt t = some T) {w : World} {b o : Nat} {arr : Array Value} {ty : TypeId} {fr : Nat × Nat}
    (hb : w.heap[b]? = some (.cells arr ty fr)) (hs : o + size T ≤ arr.size) :
    (Instr.loadAt t (.pointer (some ⟨b, o, none⟩))).run P w = .ok (ofC (isAgg T) (seg arr.toList o (size T))) w := by
  have hl : (seg arr.toList o (size T)).length = size T := seg_length (by simpa using hs)
  have hc : ∀ j v, (seg arr.toList o (size T))[j]? = some v → w.cell? ((⟨b, o, none⟩ : Addr).add j) = some v := by
    intro j v hv
    rw [add_lit, cell_block hb]
    have := (seg_get hv).1
    simpa using this
  cases hag : isAgg T with
  | true =>
    have := run_loadCells_list (P := P) w ⟨b, o, none⟩ _ hc
    rw [hl] at this
    simp [Instr.loadAt, Instr.sureAddr, loadVar, isAgg_und hT ht, sizeOf_ok hT ht, hag, this, ofC]
  | false =>
    have h1 : size T = 1 := by cases T <;> first | rfl | simp [isAgg] at hag
    obtain ⟨v, hv⟩ : ∃ v, seg arr.toList o (size T) = [v] := List.length_eq_one_iff.1 (by rw [hl, h1])
    have := hc 0 v (by rw [hv]; rfl)
    rw [add_lit] at this
    simp at this
    simp [Instr.loadAt, Instr.sureAddr, loadVar, isAgg_und hT ht, hag, this, ofC, hv]

section
variable {P : Program} {tt : Nat → Option Ty} {w : World} {I : Nat → Prop} {L M : Look} {C : Conc}
theorem AVL_of_AVR {a : AV} {v : Value} (h : AVR w I M C a v) (hd : ∀ x, a ≠ .tup x) (h1 : a ≠ .dead) (h2 : a ≠ .undef) : ∃ cs, AVL w I M C a cs ∧ v = ofC (aggV a) cs := by
  cases a with
  | dead => exact absurd rfl h1
  | undef => exact absurd rfl h2
  | tup x => exact absurd rfl (hd x)
  | _ => exact h
/-- A slice that reads as a list: one element of it. -/
theorem RdL.at {e : Ty} {xs : List (den e)} {b off len cap : Nat} (h : RdL w I (.slice e) xs [.slice (some ⟨b, off, none⟩) len cap]) {j : Nat} (hj : j < xs.length) :
    I b ∧ ∃ arr ty fr, w.heap[b]? = some (.cells arr ty fr) ∧ off + j * size e + size e ≤ arr.size ∧ RdL w I e (xs[j]'hj) (seg arr.toList (off + j * size e) (size e)) := by
  simp only [RdL] at h
  obtain ⟨v, hv, _, h⟩ := h
  simp only [List.cons.injEq, and_true] at hv
  subst hv
  rcases h with ⟨h, _⟩ | ⟨b', off', cap', h1, _, h2⟩
  · subst h; simp at hj
  · injection h1 with e1 e2 e3
    injection e1 with e1
    injection e1 with e1 e4
    subst e1 e4
    obtain ⟨h3, arr, ty, fr, h4, h5, h6⟩ := h2 (by omega)
    refine ⟨h3, arr, ty, fr, h4, ?_, h6 j hj⟩
    have : (j + 1) * size e ≤ xs.length * size e := Nat.mul_le_mul_right _ hj
    rw [Nat.add_mul, Nat.one_mul] at this
    omega
/-- The same of a row of the call's own. -/
theorem ObjR.at {g : Nat} {e : Ty} {nn : Bool} {xs : List (den e)} {b off len cap : Nat} (h : ObjR w I M C g (.row e nn xs)) (hρ : C.ρ g = .slice (some ⟨b, off, none⟩) len cap) {j : Nat} (hj : j < xs.length) :
    ∃ arr ty fr, w.heap[b]? = some (.cells arr ty fr) ∧ off + j * size e + size e ≤ arr.size ∧ RdL w I e (xs[j]'hj) (seg arr.toList (off + j * size e) (size e)) := by
  rcases h.2 with ⟨h1, _⟩ | ⟨b', off', cap', arr, ty, h1, h2, _, h3, h4, h5⟩
  · rw [hρ] at h1; cases h1
  · rw [hρ] at h1
    injection h1 with e1 e2 e3
    injection e1 with e1
    injection e1 with e1 e4
    subst e1 e4 e3
    refine ⟨arr, ty, _, h3, ?_, h5 j hj⟩
    have h6 : (j + 1) * size e ≤ xs.length * size e := Nat.mul_le_mul_right _ hj
    have h7 : xs.length * size e ≤ cap * size e := Nat.mul_le_mul_right _ h2
    rw [Nat.add_mul, Nat.one_mul] at h6
    omega
theorem size_of_shp {v : AV} {U T : Ty} (h1 : shp v U) (h2 : shp v T) : size U = size T := by rw [← shp_size h1, ← shp_size h2]

theorem loadC_ok (hT : TOK P tt) (hM : ∀ g o, L g = some o → M g = some o ∧ ObjR w I M C g o) {t : TypeId} {T : Ty} (ht : tt t = some T) {R : Type} {p : AV} {vp : Value} {K : AV → Option R} {r : R}
    (hp : AVR w I M C p vp) (h : loadC L T p K = some r) :
    ∃ v x, K v = some r ∧ (Instr.loadAt t vp).run P w = .ok x w ∧ AVR w I M C v x ∧ ∀ g ∈ ids v, ∃ h T c, M h = some (.box T c) ∧ g ∈ ids c := by
  unfold loadC at h
  split at h
  · -- into a box
    rename_i g path
    split at h
    · rename_i T0 c hg
      split at h
      · rename_i v hv
        cases hf : fits L v T with
        | false => rw [hf] at h; cases h
        | true =>
          rw [hf, cond_true] at h
          obtain ⟨hm, b, arr, ty, k1, k2, k3, k4, k5⟩ := hM g _ hg
          obtain ⟨cs, ⟨v0, hcs, hq⟩, hvp⟩ := hp
          subst hcs
          obtain ⟨b', o, e1, e2, e3⟩ := hq T0 (by rw [hm]; rfl)
          rw [k1] at e2
          cases e2
          obtain ⟨U, o', hU, ho, hle, hsh, hid, hc⟩ := getP_cells (w := w) (I := I) (L := M) (C := C) k5 hv
          rw [e1] at ho; cases ho
          have hs := size_of_shp hsh (fits_shp hf)
          have hsz : arr.size = size T0 := by have := AVL.length k4; rw [shp_size k5] at this; simpa using this
          refine ⟨v, ofC (isAgg T) (seg arr.toList o (size T)), h, ?_, AVR_of_cells (fits_shp hf) (by rw [← hs]; exact hc _ k4), fun g' hg' => ⟨g, T0, c, hm, hid g' hg'⟩⟩
          have : vp = .pointer (some ⟨b, o, none⟩) := by rw [hvp, e3]; rfl
          rw [this]
          have := loadAt_ok hT ht (P := P) k3 (o := o) (by omega)
          rw [← hs] at this ⊢
          exact this
      · cases h
    · cases h
  · -- an element of an array in a box
    rename_i g path n e i
    split at h
    · rename_i T0 c hg
      split at h
      · rename_i m u xs hv
        cases hf : (Nat.beq n m && (u.beq e && u.beq T)) with
        | false => rw [hf] at h; cases h
        | true =>
          rw [hf, cond_true] at h
          rw [Bool.and_eq_true, Bool.and_eq_true] at hf
          have e5 := Nat.eq_of_beq_eq_true hf.1
          have e6 := Ty.beq_eq hf.2.1
          have e7 := Ty.beq_eq hf.2.2
          subst e5 e6 e7
          rw [Option.bind_eq_some_iff] at h
          obtain ⟨x, hx, h⟩ := h
          obtain ⟨h0, hl, rfl⟩ := rd_some hx
          obtain ⟨hm, b, arr, ty, k1, k2, k3, k4, k5⟩ := hM g _ hg
          obtain ⟨cs, ⟨v0, hcs, hq⟩, hvp⟩ := hp
          subst hcs
          obtain ⟨_, _, e0, b', o, e1, e2, e3⟩ := hq T0 (by rw [hm]; rfl)
          rw [k1] at e2
          cases e2
          obtain ⟨U, o', hU, ho, hle, hsh, hid, hc⟩ := getP_cells (w := w) (I := I) (L := M) (C := C) k5 hv
          rw [e1] at ho; cases ho
          rw [e0] at hU; cases hU
          have hsz : arr.size = size T0 := by have := AVL.length k4; rw [shp_size k5] at this; simpa using this
          have hr := hc _ k4
          simp only [AVL, RdL] at hr
          have h8 := hr.2.2 i.toNat hl
          have h9 : (i.toNat + 1) * size u ≤ n * size u := Nat.mul_le_mul_right _ (by omega)
          rw [Nat.add_mul, Nat.one_mul] at h9
          simp only [size] at hle h8
          rw [seg_seg (by omega)] at h8
          refine ⟨.val u (xs[i.toNat]'hl), _, h, ?_, AVR_of_cells (T := u) (a := .val u _) rfl h8, fun g' hg' => by simp [ids] at hg'⟩
          have : vp = .pointer (some ⟨b, o + i.toNat * size u, none⟩) := by rw [hvp, e3]; rfl
          rw [this]
          exact loadAt_ok hT ht (P := P) k3 (by omega)
      · cases h
    · cases h
  · -- an element of a row, or a part of one
    rename_i g i path
    have key : ∀ (u : Ty) (xs : List (den u)), rowTy (M g) = some u → (∀ b off len cap, C.ρ g = .slice (some ⟨b, off, none⟩) len cap → ∀ j (hj : j < xs.length), ∃ arr ty fr, w.heap[b]? = some (.cells arr ty fr) ∧ off + j * size u + size u ≤ arr.size ∧ RdL w I u (xs[j]'hj) (seg arr.toList (off + j * size u) (size u))) →
        ((rd xs i).bind fun x => match getP path (.val u x) with
          | some v => bif fits L v T then K v else none
          | none => none) = some r → ∃ v x, K v = some r ∧ (Instr.loadAt t vp).run P w = .ok x w ∧ AVR w I M C v x ∧ ∀ g ∈ ids v, ∃ h T c, M h = some (.box T c) ∧ g ∈ ids c := by
      intro u xs hm hrow h
      rw [Option.bind_eq_some_iff] at h
      obtain ⟨x, hx, h⟩ := h
      obtain ⟨h0, hl, rfl⟩ := rd_some hx
      split at h
      · rename_i v hv
        cases hf : fits L v T with
        | false => rw [hf] at h; cases h
        | true =>
          rw [hf, cond_true] at h
          obtain ⟨cs, ⟨v0, hcs, hq⟩, hvp⟩ := hp
          subst hcs
          obtain ⟨_, _, o, b, off, len, cap, e1, e2, e3⟩ := hq u hm
          obtain ⟨arr, ty, fr, k1, k2, k3⟩ := hrow b off len cap e2 i.toNat hl
          obtain ⟨U, o', hU, ho, hle, hsh, hid, hc⟩ := getP_cells (w := w) (I := I) (L := M) (C := C) (a := .val u _) (T := u) rfl hv
          rw [e1] at ho; cases ho
          have hs := size_of_shp hsh (fits_shp hf)
          have h8 := hc _ k3
          rw [seg_seg (by omega)] at h8
          refine ⟨v, ofC (isAgg T) (seg arr.toList (off + i.toNat * size u + o) (size T)), h, ?_, AVR_of_cells (fits_shp hf) (by rw [← hs]; exact h8), fun g' hg' => by have := hid g' hg'; simp [ids] at this⟩
          have : vp = .pointer (some ⟨b, off + i.toNat * size u + o, none⟩) := by rw [hvp, e3]; rfl
          rw [this]
          have := loadAt_ok hT ht (P := P) k1 (o := off + i.toNat * size u + o) (by omega)
          rw [← hs] at this ⊢
          exact this
      · cases h
    split at h
    · rename_i u nn xs hg
      obtain ⟨hm, ho⟩ := hM g _ hg
      exact key u xs (by rw [hm]; rfl) (fun b off len cap hρ j hj => ObjR.at ho hρ hj) h
    · rename_i u xs hg
      obtain ⟨hm, ho⟩ := hM g _ hg
      exact key u xs (by rw [hm]; rfl) (fun b off len cap hρ j hj => by
        have := ho.2
        rw [hρ] at this
        exact (RdL.at this hj).2) h
    · cases h
  · -- fixed memory
    rename_i u x
    cases hf : u.beq T with
    | false => rw [hf] at h; cases h
    | true =>
      rw [hf, cond_true] at h
      have := Ty.beq_eq hf
      subst this
      obtain ⟨cs, ⟨b, o, hcs, hb, arr, ty, fr, k1, k2, k3⟩, hvp⟩ := hp
      subst hcs
      have e : vp = .pointer (some ⟨b, o, none⟩) := by rw [hvp]; rfl
      subst e
      exact ⟨.val u x, _, h, loadAt_ok hT ht (P := P) k1 k2, AVR_of_cells (T := u) (a := .val u x) rfl k3, fun g' hg' => by simp [ids] at hg'⟩
  · cases h
end
end Go.Ev
