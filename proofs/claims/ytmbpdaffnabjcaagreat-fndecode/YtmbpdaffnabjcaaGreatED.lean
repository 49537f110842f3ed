/- The evaluator against the model: operations and regions. No condition. -/
import Derived.Test.YtmbpdaffnabjcaaGreatEC
import Derived.Laws.BytesArg
set_option linter.unusedVariables false
set_option linter.unusedSimpArgs false
set_option linter.unusedSectionVars false
/- Addresses of fields and elements; fields; parts of slices and strings; lengths; conversions. -/
namespace Go.Ev

theorem FieldsR_get {tt : Nat → Option Ty} : ∀ {fs : List Field} {T : Ty} {o i p : Nat} {U : Ty}, FieldsR tt fs T o → fldTy i T = some U → offF i T = some p → ∃ f, fs[i]? = some f ∧ f.offset = o + p ∧ tt f.type = some U := by
  intro fs
  induction fs with
  | nil => intro T o i p U h hU hp; cases T <;> first | exact h.elim | (cases i <;> simp [fldTy] at hU)
  | cons f fs ih =>
    intro T o i p U h hU hp
    cases T with
    | pair a b =>
      obtain ⟨h1, h2, h3⟩ := h
      cases i with
      | zero =>
        simp only [fldTy, Option.some.injEq] at hU; subst hU
        simp only [offF, Option.some.injEq] at hp; subst hp
        exact ⟨f, rfl, h1, h2⟩
      | succ i =>
        simp only [fldTy] at hU
        simp only [offF] at hp
        cases ho : offF i b with
        | none => simp [ho] at hp
        | some q =>
          simp only [ho, Option.some.injEq] at hp; subst hp
          obtain ⟨g, k1, k2, k3⟩ := ih h3 hU ho
          exact ⟨g, by simpa using k1, by rw [k2]; omega, k3⟩
    | _ => exact h.elim
section
variable {P : Program} {tt : Nat → Option Ty} {w : World} {I : Nat → Prop} {L M : Look} {C : Conc}
theorem struct_und (hT : TOK P tt) {s : TypeId} {T U : Ty} {i : Nat} (hs : tt s = some T) (hU : fldTy i T = some U) : ∃ fs, P.underlying s = some (.struct fs) ∧ FieldsR tt fs.toList T 0 := by
  have := hT.und s T hs
  cases T with
  | pair a b => exact this
  | _ => cases i <;> simp [fldTy] at hU
theorem fieldAt_ok (hT : TOK P tt) {s : TypeId} {T U : Ty} {i p : Nat} (hs : tt s = some T) (hU : fldTy i T = some U) (hp : offF i T = some p) (hz : size U ≠ 0) (w : World) (b o : Nat) :
    (Instr.fieldAt s (.pointer (some ⟨b, o, none⟩)) i).run P w = .ok (.pointer (some ⟨b, o + p, none⟩)) w := by
  obtain ⟨fs, hu, hf⟩ := struct_und hT hs hU
  obtain ⟨f, k1, k2, k3⟩ := FieldsR_get hf hU hp
  have k1' : fs[i]? = some f := by simpa using k1
  simp only [Nat.zero_add] at k2
  simp [Instr.fieldAt, run_underlying hu, k1', Instr.sureAddr, fieldPlace, sizeOf_ok hT k3, hz, add_lit, k2]

theorem fieldAddrC_ok (hT : TOK P tt) (hM : ∀ g o, L g = some o → M g = some o ∧ ObjR w I M C g o) {s i : Nat} {R : Type} {p : AV} {vp : Value} {K : AV → Option R} {r : R}
    (hp : AVR w I M C p vp) (h : fieldAddrC tt L s i p K = some r) : ∃ v x, K v = some r ∧ (Instr.fieldAt s vp i).run P w = .ok x w ∧ AVR w I M C v x ∧ ∀ g ∈ ids v, g ∈ ids p := by
  unfold fieldAddrC at h
  split at h
  · rename_i Ts hs
    cases hpos : posF Ts i with
    | false => rw [hpos] at h; cases h
    | true =>
      rw [hpos, cond_true] at h
      obtain ⟨U, hU, hz⟩ : ∃ U, fldTy i Ts = some U ∧ size U ≠ 0 := by
        unfold posF at hpos
        split at hpos
        · rename_i u hu
          exact ⟨u, hu, fun e => by rw [e] at hpos; simp at hpos⟩
        · cases hpos
      obtain ⟨oi, hoi, hle⟩ := fldTy_off hU
      split at h
      · -- in a box
        rename_i g q
        split at h
        · rename_i T0 c hg
          cases hty : isTy (tyP T0 q) Ts with
          | false => rw [hty] at h; cases h
          | true =>
            rw [hty, cond_true] at h
            have hq := isTy_some hty
            obtain ⟨hm, ho⟩ := hM g _ hg
            obtain ⟨cs, ⟨v0, hcs, hv⟩, hvp⟩ := hp
            subst hcs
            obtain ⟨b, o, e1, e2, e3⟩ := hv T0 (by rw [hm]; rfl)
            obtain ⟨q1, q2⟩ := tyP_snoc hq e1 hU hoi
            have e4 : vp = .pointer (some ⟨b, o, none⟩) := by rw [hvp, e3]; rfl
            subst e4
            refine ⟨_, _, h, fieldAt_ok hT hs hU hoi hz w b o, ⟨[.pointer (some ⟨b, o + oi, none⟩)], ⟨_, rfl, fun T hT' => ?_⟩, rfl⟩, fun g' hg' => hg'⟩
            rw [hm] at hT'; cases hT'
            exact ⟨b, o + oi, q2, e2, rfl⟩
        · cases h
      · -- in an element of a row
        rename_i g j q
        have key : ∀ u : Ty, rowTy (M g) = some u → (bif isTy (tyP u q) Ts then K (.eptr g j (q ++ [i])) else none) = some r →
            ∃ v x, K v = some r ∧ (Instr.fieldAt s vp i).run P w = .ok x w ∧ AVR w I M C v x ∧ ∀ g' ∈ ids v, g' ∈ ids (.eptr g j q) := by
          intro u hm h
          cases hty : isTy (tyP u q) Ts with
          | false => rw [hty] at h; cases h
          | true =>
            rw [hty, cond_true] at h
            have hq := isTy_some hty
            obtain ⟨cs, ⟨v0, hcs, hv⟩, hvp⟩ := hp
            subst hcs
            obtain ⟨h0, h1, o, b, off, len, cap, e1, e2, e3⟩ := hv u hm
            obtain ⟨q1, q2⟩ := tyP_snoc hq e1 hU hoi
            have e4 : vp = .pointer (some ⟨b, off + j.toNat * size u + o, none⟩) := by rw [hvp, e3]; rfl
            subst e4
            refine ⟨_, _, h, fieldAt_ok hT hs hU hoi hz w _ _, ⟨[.pointer (some ⟨b, off + j.toNat * size u + o + oi, none⟩)], ⟨_, rfl, fun T hT' => ?_⟩, rfl⟩, fun g' hg' => hg'⟩
            rw [hm] at hT'; cases hT'
            exact ⟨h0, h1, o + oi, b, off, len, cap, q2, e2, by rw [Nat.add_assoc]⟩
        split at h
        · rename_i u nn xs hg
          exact key u (by rw [(hM g _ hg).1]; rfl) h
        · rename_i u xs hg
          exact key u (by rw [(hM g _ hg).1]; rfl) h
        · cases h
      · -- fixed memory
        rename_i t x
        cases hty : t.beq Ts with
        | false => rw [hty] at h; cases h
        | true =>
          rw [hty, cond_true] at h
          have := Ty.beq_eq hty
          subst this
          split at h
          · rename_i u y hf
            obtain ⟨U', o', hU', ho', hle', hsh, _, hc⟩ := fld_cells (w := w) (I := I) (L := M) (C := C) (a := .val t x) (T := t) rfl hf
            rw [hU] at hU'; cases hU'
            rw [hoi] at ho'; cases ho'
            simp only [shp] at hsh
            subst hsh
            obtain ⟨cs, ⟨b, o, hcs, hb, arr, ty, fr, k1, k2, k3⟩, hvp⟩ := hp
            subst hcs
            have e4 : vp = .pointer (some ⟨b, o, none⟩) := by rw [hvp]; rfl
            subst e4
            have k4 := hc _ k3
            rw [seg_seg hle'] at k4
            exact ⟨_, _, h, fieldAt_ok hT hs hU hoi hz w b o, ⟨[.pointer (some ⟨b, o + oi, none⟩)], ⟨b, o + oi, rfl, hb, arr, ty, fr, k1, by omega, k4⟩, rfl⟩, fun g' hg' => by simp [ids] at hg'⟩
          · cases h
      · cases h
  · cases h
theorem part_ok (hT : TOK P tt) {t : TypeId} {T : Ty} (ht : tt t = some T) {w : World} {cs : List Value} {o : Nat} (hl : o + size T ≤ cs.length) :
    (part t cs.toArray o).run P w = .ok (ofC (isAgg T) (seg cs o (size T))) w := by
  unfold part
  cases hag : isAgg T with
  | true =>
    simp [isAgg_und hT ht, sizeOf_ok hT ht, hag, ofC, seg]
  | false =>
    have h1 : size T = 1 := by cases T <;> first | rfl | simp [isAgg] at hag
    have h2 : o < cs.length := by omega
    simp [isAgg_und hT ht, hag, ofC, seg, h1, h2]
    rw [List.drop_eq_getElem_cons h2]
    rfl
theorem fieldC_ok (hT : TOK P tt) {s i : Nat} {R : Type} {a : AV} {va : Value} {K : AV → Option R} {r : R}
    (ha : AVR w I M C a va) (h : fieldC tt L s i a K = some r) : ∃ v x, K v = some r ∧ (Instr.field s va i).run P w = .ok x w ∧ AVR w I M C v x ∧ ∀ g ∈ ids v, g ∈ ids a := by
  unfold fieldC at h
  split at h
  · rename_i Ts hs
    cases hf : fits L a Ts with
    | false => rw [hf] at h; cases h
    | true =>
      rw [hf, cond_true] at h
      have hsh := fits_shp hf
      split at h
      · rename_i v hv
        obtain ⟨U, o, hU, ho, hle, hsv, hid, hc⟩ := fld_cells (w := w) (I := I) (L := M) (C := C) hsh hv
        obtain ⟨fs, hu, hfr⟩ := struct_und hT hs hU
        obtain ⟨f, k1, k2, k3⟩ := FieldsR_get hfr hU ho
        have k1' : fs[i]? = some f := by simpa using k1
        simp only [Nat.zero_add] at k2
        obtain ⟨cs, c1, c2, c3⟩ := AVR_cells hsh ha
        have hag : isAgg Ts = true := by cases Ts <;> first | rfl | (cases i <;> simp [fldTy] at hU)
        rw [hag] at c2
        refine ⟨v, _, h, ?_, AVR_of_cells hsv (hc _ c1), hid⟩
        rw [c2]
        simp only [ofC, if_true]
        have := part_ok hT k3 (P := P) (w := w) (cs := cs) (o := o) (by omega)
        simp [Instr.field, run_underlying hu, k1', asAgg, k2, this, ofC]
      · cases h
  · cases h
theorem indexAt_slice (hT : TOK P tt) {t : TypeId} {e : Ty} (ht : tt t = some (.slice e)) (w : World) (b off n cap : Nat) (i : Int) (h0 : 0 ≤ i) (h1 : i < (n : Int)) :
    (Instr.indexAt t (.slice (some ⟨b, off, none⟩) n cap) (.int .i64 i)).run P w = .ok (.pointer (some ⟨b, off + i.toNat * size e, none⟩)) w := by
  obtain ⟨te, hu, hte⟩ := hT.und t _ ht
  simp [Instr.indexAt, asIntOf, run_underlying hu, h0, h1, sizeOf_ok hT hte, add_lit]
theorem indexAt_arr (hT : TOK P tt) {t : TypeId} {e : Ty} {n : Nat} (ht : tt t = some (.arr n e)) (w : World) (b o : Nat) (i : Int) (h0 : 0 ≤ i) (h1 : i < (n : Int)) :
    (Instr.indexAt t (.pointer (some ⟨b, o, none⟩)) (.int .i64 i)).run P w = .ok (.pointer (some ⟨b, o + i.toNat * size e, none⟩)) w := by
  obtain ⟨te, hu, hte⟩ := hT.und t _ ht
  simp [Instr.indexAt, asIntOf, run_underlying hu, h0, h1, sizeOf_ok hT hte, add_lit, Instr.sureAddr]
end
end Go.Ev
/- Elements; parts of slices and strings; lengths; conversions. -/
namespace Go.Ev
def All2 {α β : Type} (R : α → β → Prop) : List α → List β → Prop
  | [], [] => True
  | a :: as, b :: bs => R a b ∧ All2 R as bs
  | _, _ => False
section
variable {P : Program} {tt : Nat → Option Ty} {w : World} {I : Nat → Prop} {L M : Look} {C : Conc}

theorem indexAddrC_ok (hT : TOK P tt) (hM : ∀ g o, L g = some o → M g = some o ∧ ObjR w I M C g o) {t : TypeId} {i : Int} {R : Type} {x : AV} {vx : Value} {K : AV → Option R} {r : R}
    (hx : AVR w I M C x vx) (h : indexAddrC tt L t x i K = some r) : ∃ v y, K v = some r ∧ (Instr.indexAt t vx (.int .i64 i)).run P w = .ok y w ∧ AVR w I M C v y ∧ ∀ g ∈ ids v, g ∈ ids x := by
  unfold indexAddrC at h
  split at h
  · -- fixed slice
    rename_i e u xs ht
    cases hf : u.beq e with
    | false => rw [hf] at h; cases h
    | true =>
      rw [hf, cond_true] at h
      have := Ty.beq_eq hf
      subst this
      rw [Option.bind_eq_some_iff] at h
      obtain ⟨y, hy, h⟩ := h
      obtain ⟨h0, hl, rfl⟩ := rd_some hy
      obtain ⟨cs, hcs, hvx⟩ := hx
      have hcs' := hcs
      simp only [AVL, RdL] at hcs'
      obtain ⟨v, rfl, _, hv⟩ := hcs'
      rcases hv with ⟨e0, _⟩ | ⟨b, off, cap, rfl, hc, hv⟩
      · subst e0; simp at hl
      · obtain ⟨k0, arr, ty, fr, k1, k2, k3⟩ := RdL.at hcs hl
        have e1 : vx = .slice (some ⟨b, off, none⟩) xs.length cap := by rw [hvx]; rfl
        subst e1
        exact ⟨_, _, h, indexAt_slice hT ht w b off xs.length cap i h0 (by omega), ⟨_, ⟨b, off + i.toNat * size u, rfl, k0, arr, ty, fr, k1, k2, k3⟩, rfl⟩, fun g' hg' => by simp [ids] at hg'⟩
  · -- a row
    rename_i e g ht
    have key : ∀ (u : Ty) (xs : List (den u)), rowTy (M g) = some u → rowLen (M g) = xs.length → RdL w (IP I C [g]) (.slice u) xs [C.ρ g] →
        (bif u.beq e then (rd xs i).bind fun _ => K (.eptr g i []) else none) = some r → ∃ v y, K v = some r ∧ (Instr.indexAt t vx (.int .i64 i)).run P w = .ok y w ∧ AVR w I M C v y ∧ ∀ g' ∈ ids v, g' ∈ ids (.row g) := by
      intro u xs hm hln hr hk
      cases hf : u.beq e with
      | false => rw [hf] at hk; cases hk
      | true =>
        rw [hf, cond_true] at hk
        have := Ty.beq_eq hf
        subst this
        rw [Option.bind_eq_some_iff] at hk
        obtain ⟨y, hy, hk⟩ := hk
        obtain ⟨h0, hl, rfl⟩ := rd_some hy
        obtain ⟨cs, ⟨v0, hcs, hv⟩, hvx⟩ := hx
        subst hcs
        have e1 : v0 = C.ρ g := hv (by rw [hm]; simp)
        have hr' := hr
        simp only [RdL] at hr'
        obtain ⟨v, hv1, _, hv2⟩ := hr'
        simp only [List.cons.injEq, and_true] at hv1
        rcases hv2 with ⟨e0, _⟩ | ⟨b, off, cap, e2, hc, hz⟩
        · subst e0; simp at hl
        · clear hz
          have e3 : vx = .slice (some ⟨b, off, none⟩) xs.length cap := by rw [hvx, e1, hv1, e2]; rfl
          subst e3
          refine ⟨_, _, hk, indexAt_slice hT ht w b off xs.length cap i h0 (by omega), ⟨_, ⟨_, rfl, fun e' he' => ?_⟩, rfl⟩, fun g' hg' => hg'⟩
          rw [hm] at he'; cases he'
          exact ⟨h0, by rw [hln]; omega, 0, b, off, xs.length, cap, rfl, by rw [hv1, e2], rfl⟩
    split at h
    · rename_i u nn xs hg
      obtain ⟨hm, ho⟩ := hM g _ hg
      exact key u xs (by rw [hm]; rfl) (by rw [hm]; rfl) (row_rd ho) h
    · rename_i u xs hg
      obtain ⟨hm, ho⟩ := hM g _ hg
      exact key u xs (by rw [hm]; rfl) (by rw [hm]; rfl) (RdL.mono (fun b hb => ⟨.inl hb, rfl⟩) (frz_rd ho)) h
    · cases h
  · -- a part of a row
    rename_i e g lo hi ht
    have key : ∀ (u : Ty) (xs : List (den u)), rowTy (M g) = some u → rowLen (M g) = xs.length → RdL w (IP I C [g]) (.slice u) xs [C.ρ g] →
        (bif u.beq e then (rd ((xs.take hi.toNat).drop lo.toNat) i).bind fun _ => K (.eptr g (lo + i) []) else none) = some r →
        ∃ v y, K v = some r ∧ (Instr.indexAt t vx (.int .i64 i)).run P w = .ok y w ∧ AVR w I M C v y ∧ ∀ g' ∈ ids v, g' ∈ ids (.view g lo hi) := by
      intro u xs hm hln hr hk
      cases hf : u.beq e with
      | false => rw [hf] at hk; cases hk
      | true =>
        rw [hf, cond_true] at hk
        have := Ty.beq_eq hf
        subst this
        rw [Option.bind_eq_some_iff] at hk
        obtain ⟨y, hy, hk⟩ := hk
        obtain ⟨h0, hl, _⟩ := rd_some hy
        obtain ⟨cs, ⟨v0, hcs, hv⟩, hvx⟩ := hx
        subst hcs
        obtain ⟨q0, q1, q2, A, len, cap, q3, q4⟩ := hv u hm
        rw [hln] at q2
        have hll : ((xs.take hi.toNat).drop lo.toNat).length = hi.toNat - lo.toNat := by simp; omega
        rw [hll] at hl
        have hr' := hr
        simp only [RdL] at hr'
        obtain ⟨v, hv1, _, hv2⟩ := hr'
        simp only [List.cons.injEq, and_true] at hv1
        rcases hv2 with ⟨e0, _⟩ | ⟨b, off, cap', e2, hc, hz⟩
        · subst e0; simp at q2; omega
        · clear hz
          rw [hv1, e2] at q3
          injection q3 with a1 a2 a3
          subst a1 a2 a3
          have e3 : vx = .slice (some ⟨b, off + lo.toNat * size u, none⟩) (hi.toNat - lo.toNat) (cap' - lo.toNat) := by
            rw [hvx, q4, if_neg (by omega)]
            simp [ofC, aggV, add_lit]
          subst e3
          refine ⟨_, _, hk, indexAt_slice hT ht w b _ _ _ i h0 (by omega), ⟨_, ⟨_, rfl, fun e' he' => ?_⟩, rfl⟩, fun g' hg' => hg'⟩
          rw [hm] at he'; cases he'
          refine ⟨by omega, by rw [hln]; omega, 0, b, off, xs.length, cap', rfl, by rw [hv1, e2], ?_⟩
          have : (lo + i).toNat = lo.toNat + i.toNat := by omega
          rw [this, Nat.add_mul]
          simp [Nat.add_assoc]
    split at h
    · rename_i u nn xs hg
      obtain ⟨hm, ho⟩ := hM g _ hg
      exact key u xs (by rw [hm]; rfl) (by rw [hm]; rfl) (row_rd ho) h
    · rename_i u xs hg
      obtain ⟨hm, ho⟩ := hM g _ hg
      exact key u xs (by rw [hm]; rfl) (by rw [hm]; rfl) (RdL.mono (fun b hb => ⟨.inl hb, rfl⟩) (frz_rd ho)) h
    · cases h
  · -- an array in a box
    rename_i n e g path ht
    split at h
    · rename_i T0 c hg
      split at h
      · rename_i m u xs hv
        cases hf : (Nat.beq n m && u.beq e) with
        | false => rw [hf] at h; cases h
        | true =>
          rw [hf, cond_true] at h
          rw [Bool.and_eq_true] at hf
          have e5 := Nat.eq_of_beq_eq_true hf.1
          have e6 := Ty.beq_eq hf.2
          subst e5 e6
          rw [Option.bind_eq_some_iff] at h
          obtain ⟨y, hy, h⟩ := h
          obtain ⟨h0, hl, _⟩ := rd_some hy
          obtain ⟨hm, b, arr, ty, k1, k2, k3, k4, k5⟩ := hM g _ hg
          obtain ⟨cs, ⟨v0, hcs, hq⟩, hvx⟩ := hx
          subst hcs
          obtain ⟨b', o, e1, e2, e3⟩ := hq T0 (by rw [hm]; rfl)
          obtain ⟨U, o', hU, ho, hle, hsh, hid, hc⟩ := getP_cells (w := w) (I := I) (L := M) (C := C) k5 hv
          simp only [shp] at hsh
          subst hsh
          have hr := hc _ k4
          simp only [AVL, RdL] at hr
          have hn : i < (n : Int) := by have := hr.1; omega
          have e4 : vx = .pointer (some ⟨b', o, none⟩) := by rw [hvx, e3]; rfl
          subst e4
          refine ⟨_, _, h, indexAt_arr hT ht w b' o i h0 hn, ⟨_, ⟨_, rfl, fun T hT' => ?_⟩, rfl⟩, fun g' hg' => hg'⟩
          rw [hm] at hT'; cases hT'
          exact ⟨h0, hn, hU, b', o, e1, e2, rfl⟩
      · cases h
    · cases h
  · cases h

theorem bound_spec {o : Option Operand} {vs r : List AV} {d n : Int} (h : bound o vs d = some (n, r)) : (o = none ∧ n = d ∧ r = vs) ∨ ∃ q k, o = some q ∧ vs = .val (.int k) n :: r := by
  unfold bound at h
  split at h
  · cases h; exact .inl ⟨rfl, rfl, rfl⟩
  · rename_i q v r'
    split at h
    · rename_i m hm
      cases h
      unfold intOf at hm
      split at hm
      · cases hm; exact .inr ⟨q, _, rfl, rfl⟩
      · cases hm
    · cases h
  · cases h
theorem bounds_ok {ev : Operand → Value} {l h : Option Operand} {vs r r' : List AV} {n lo hi : Int} (h1 : bound l vs 0 = some (lo, r)) (h2 : bound h r n = some (hi, r'))
    (hvs : All2 (AVR w I M C) vs ((l.map ev).toList ++ (h.map ev).toList)) {sl : Bool} {len cap : Nat} (hn : n = len) (k0 : 0 ≤ lo) (k1 : lo ≤ hi) (k2 : hi ≤ (len : Int)) (k3 : len ≤ cap) :
    (Instr.sliceBounds sl len cap (l.map ev) (h.map ev) none).run P w = .ok (lo.toNat, hi.toNat, cap) w := by
  rcases bound_spec h1 with ⟨rfl, rfl, rfl⟩ | ⟨q, k, rfl, rfl⟩
  · rcases bound_spec h2 with ⟨rfl, rfl, rfl⟩ | ⟨q', k', rfl, rfl⟩
    · simp [Instr.sliceBounds, hn]
    · have hv : AVR w I M C (.val (.int k') hi) (ev q') := by
        have := hvs
        simp only [Option.map_none, Option.map_some, Option.toList_none, Option.toList_some, List.nil_append] at this
        exact this.1
      obtain ⟨hv, _⟩ := AVR_int.1 hv
      have : hi ≤ (cap : Int) := by omega
      simp [Instr.sliceBounds, Instr.sliceBound, hv, asIntOf, (by omega : 0 ≤ hi), this]
  · rcases bound_spec h2 with ⟨rfl, rfl, rfl⟩ | ⟨q', k', rfl, rfl⟩
    · have hv : AVR w I M C (.val (.int k) lo) (ev q) := by
        have := hvs
        simp only [Option.map_none, Option.map_some, Option.toList_none, Option.toList_some, List.append_nil] at this
        exact this.1
      obtain ⟨hv, _⟩ := AVR_int.1 hv
      subst hn
      simp [Instr.sliceBounds, Instr.sliceBound, hv, asIntOf, k0, k1]
    · have hv : AVR w I M C (.val (.int k) lo) (ev q) ∧ AVR w I M C (.val (.int k') hi) (ev q') := by
        have := hvs
        simp only [Option.map_some, Option.toList_some, List.cons_append, List.nil_append] at this
        exact ⟨this.1, this.2.1⟩
      obtain ⟨hv, hv'⟩ := hv
      obtain ⟨hv, _⟩ := AVR_int.1 hv
      obtain ⟨hv', _⟩ := AVR_int.1 hv'
      have h3 : hi ≤ (cap : Int) := by omega
      have h5 : lo ≤ max hi 0 := by omega
      simp [Instr.sliceBounds, Instr.sliceBound, hv, hv', asIntOf, k0, (by omega : 0 ≤ hi), h3, h5]

theorem sub_some {α : Type} {xs ys : List α} {lo hi : Int} (h : sub xs lo hi = some ys) : 0 ≤ lo ∧ lo ≤ hi ∧ hi ≤ (xs.length : Int) ∧ ys = (xs.take hi.toNat).drop lo.toNat := by
  unfold sub at h
  split at h
  · cases h
  · split at h
    · cases h
    · split at h
      · cases h
      · cases h
        exact ⟨by omega, by omega, by omega, rfl⟩
theorem sliceAt_slice (hT : TOK P tt) {t : TypeId} {e : Ty} (ht : tt t = some (.slice e)) {A : Option Addr} {n cap : Nat} {l h : Option Value} {lo hi : Nat}
    (hb : (Instr.sliceBounds true n cap l h none).run P w = .ok (lo, hi, cap) w) :
    (Instr.sliceAt t (.slice A n cap) l h none).run P w = .ok (.slice (if cap = lo then A else A.map (·.add (lo * size e))) (hi - lo) (cap - lo)) w := by
  obtain ⟨te, hu, hte⟩ := hT.und t _ ht
  simp [Instr.sliceAt, Instr.slice, run_underlying hu, hb, sizeOf_ok hT hte]
theorem bytesL_extract (s : ByteArray) (lo hi : Nat) : bytesL (s.extract lo hi) = ((bytesL s).take hi).drop lo := by
  unfold bytesL
  rw [← List.map_take, ← List.map_drop]
  congr 1
  simp [List.drop_take]
theorem sliceC_ok (hT : TOK P tt) (hM : ∀ g o, L g = some o → M g = some o ∧ ObjR w I M C g o) {t : TypeId} {R : Type} {x : AV} {vx : Value} {ev : Operand → Value} {l h : Option Operand} {vs : List AV} {K : AV → Option R} {r : R}
    (hx : AVR w I M C x vx) (hvs : All2 (AVR w I M C) vs ((l.map ev).toList ++ (h.map ev).toList)) (hs : sliceC tt L t x l h vs K = some r) :
    ∃ v y, K v = some r ∧ (Instr.sliceAt t vx (l.map ev) (h.map ev) none).run P w = .ok y w ∧ AVR w I M C v y ∧ ∀ g ∈ ids v, g ∈ ids x := by
  unfold sliceC at hs
  split at hs
  · -- a string
    rename_i xs ht
    split at hs
    · rename_i lo r1 h1
      split at hs
      · rename_i hi r2 h2
        rw [Option.bind_eq_some_iff] at hs
        obtain ⟨ys, hy, hs⟩ := hs
        obtain ⟨k0, k1, k2, rfl⟩ := sub_some hy
        obtain ⟨s, rfl, rfl, hs2⟩ := AVR_str.1 hx
        have hl := bytesL_length s
        have hu := hT.und t _ ht
        simp only [UndR] at hu
        have hb := bounds_ok (P := P) (sl := false) (len := s.size) (cap := s.size) h1 h2 hvs (by simp [len, hl]) k0 k1 (by omega) (Nat.le_refl _)
        refine ⟨_, .string (s.extract lo.toNat hi.toNat), hs, ?_, AVR_str.2 ⟨_, rfl, bytesL_extract s _ _, ?_⟩, fun g' hg' => by simp [ids] at hg'⟩
        · simp [Instr.sliceAt, Instr.slice, run_underlying hu, hb]
        · have : (s.extract lo.toNat hi.toNat).size ≤ s.size := by
            rw [← bytesL_length, ← bytesL_length, bytesL_extract]
            simp
            omega
          omega
      · cases hs
    · cases hs
  · -- fixed slice
    rename_i e u xs ht
    split at hs
    · rename_i lo r1 h1
      split at hs
      · rename_i hi r2 h2
        cases hf : u.beq e with
        | false => rw [hf] at hs; cases hs
        | true =>
          rw [hf, cond_true] at hs
          have := Ty.beq_eq hf
          subst this
          rw [Option.bind_eq_some_iff] at hs
          obtain ⟨ys, hy, hs⟩ := hs
          obtain ⟨k0, k1, k2, rfl⟩ := sub_some hy
          obtain ⟨cs, hcs, hvx⟩ := hx
          have hcs' := hcs
          simp only [AVL, RdL] at hcs'
          obtain ⟨v, rfl, _, hv⟩ := hcs'
          obtain ⟨A, cap, e1, hc⟩ : ∃ A cap, v = .slice A xs.length cap ∧ xs.length ≤ cap := by
            rcases hv with ⟨e2, A, cap, e1⟩ | ⟨b, off, cap, e1, e2, _⟩
            · subst e2; exact ⟨A, cap, e1, Nat.zero_le _⟩
            · exact ⟨_, cap, e1, e2⟩
          subst e1
          have e3 : vx = .slice A xs.length cap := by rw [hvx]; rfl
          subst e3
          have hb := bounds_ok (P := P) (sl := true) (cap := cap) h1 h2 hvs rfl k0 k1 k2 hc
          exact ⟨_, _, hs, sliceAt_slice hT ht hb, ⟨_, RdL.sub (e := u) hcs (by omega) (by omega), rfl⟩, fun g' hg' => by simp [ids] at hg'⟩
      · cases hs
    · cases hs
  · -- a row
    rename_i e g ht
    have key : ∀ (u : Ty) (xs : List (den u)), rowTy (M g) = some u → rowLen (M g) = xs.length → RdL w (IP I C [g]) (.slice u) xs [C.ρ g] →
        (match bound l vs 0 with
        | some (lo, r) => match bound h r (len xs) with
          | some (hi, _) => bif u.beq e then (sub xs lo hi).bind fun _ => K (.view g lo hi) else none
          | none => none
        | none => none) = some r → ∃ v y, K v = some r ∧ (Instr.sliceAt t vx (l.map ev) (h.map ev) none).run P w = .ok y w ∧ AVR w I M C v y ∧ ∀ g' ∈ ids v, g' ∈ ids (.row g) := by
      intro u xs hm hln hr hk
      split at hk
      · rename_i lo r1 h1
        split at hk
        · rename_i hi r2 h2
          cases hf : u.beq e with
          | false => rw [hf] at hk; cases hk
          | true =>
            rw [hf, cond_true] at hk
            have := Ty.beq_eq hf
            subst this
            rw [Option.bind_eq_some_iff] at hk
            obtain ⟨ys, hy, hk⟩ := hk
            obtain ⟨k0, k1, k2, _⟩ := sub_some hy
            obtain ⟨cs, ⟨v0, hcs, hv⟩, hvx⟩ := hx
            subst hcs
            have e1 : v0 = C.ρ g := hv (by rw [hm]; simp)
            have hr' := hr
            simp only [RdL] at hr'
            obtain ⟨v, hv1, _, hv2⟩ := hr'
            simp only [List.cons.injEq, and_true] at hv1
            obtain ⟨A, cap, e2, hc⟩ : ∃ A cap, v = .slice A xs.length cap ∧ xs.length ≤ cap := by
              rcases hv2 with ⟨e2, A, cap, e1⟩ | ⟨b, off, cap, e1, e2, _⟩
              · subst e2; exact ⟨A, cap, e1, Nat.zero_le _⟩
              · exact ⟨_, cap, e1, e2⟩
            have e3 : vx = .slice A xs.length cap := by rw [hvx, e1, hv1, e2]; rfl
            subst e3
            have hb := bounds_ok (P := P) (sl := true) (cap := cap) h1 h2 hvs rfl k0 k1 k2 hc
            refine ⟨_, _, hk, sliceAt_slice hT ht hb, ⟨_, ⟨_, rfl, fun e' he' => ?_⟩, rfl⟩, fun g' hg' => hg'⟩
            rw [hm] at he'; cases he'
            exact ⟨k0, k1, by rw [hln]; exact k2, A, xs.length, cap, by rw [hv1, e2], rfl⟩
        · cases hk
      · cases hk
    split at hs
    · rename_i u nn xs hg
      obtain ⟨hm, ho⟩ := hM g _ hg
      exact key u xs (by rw [hm]; rfl) (by rw [hm]; rfl) (row_rd ho) hs
    · rename_i u xs hg
      obtain ⟨hm, ho⟩ := hM g _ hg
      exact key u xs (by rw [hm]; rfl) (by rw [hm]; rfl) (RdL.mono (fun b hb => ⟨.inl hb, rfl⟩) (frz_rd ho)) hs
    · cases hs
  · -- an array, whole
    rename_i n e g p ht
    split at hs
    · split at hs
      · rename_i T c hg
        cases hty : isTy (tyP T p) (.arr n e) with
        | false => rw [hty] at hs; cases hs
        | true =>
          rw [hty, cond_true] at hs
          obtain ⟨hm, ho⟩ := hM g _ hg
          obtain ⟨cs, ⟨v0, hcs, hq⟩, hvx⟩ := hx
          subst hcs
          obtain ⟨b, o, e1, e2, e3⟩ := hq T (by rw [hm]; rfl)
          have e4 : vx = .pointer (some ⟨b, o, none⟩) := by rw [hvx, e3]; rfl
          subst e4
          obtain ⟨te, hu, hte⟩ := hT.und _ _ ht
          refine ⟨_, .slice (some ⟨b, o, none⟩) n n, hs, ?_, ⟨_, ⟨_, rfl, fun T' hT' => ?_⟩, rfl⟩, fun g' hg' => hg'⟩
          · simp [Instr.sliceAt, run_underlying hu, Instr.sureAddr, Instr.sliceBounds, sizeOf_ok hT hte, Addr.add]
          · rw [hm] at hT'; cases hT'
            exact ⟨isTy_some hty, b, o, e1, e2, rfl⟩
      · cases hs
    · cases hs
  · cases hs

theorem isSlT_und (hT : TOK P tt) {t : TypeId} (h : isSlT (tt t) = true) : ∃ te, P.underlying t = some (.slice te) := by
  cases ht : tt t with
  | none => rw [ht] at h; cases h
  | some T =>
    cases T with
    | slice e => obtain ⟨te, h, _⟩ := hT.und t _ ht; exact ⟨te, h⟩
    | _ => rw [ht] at h; cases h
theorem inK_len {n : Int} (h0 : 0 ≤ n) (h : n ≤ (big : Int)) : inK .i64 n = true := by
  rw [inK, loK, hiK, Bool.and_eq_true, decide_eq_true_eq, decide_eq_true_eq]
  simp only [big] at h
  omega
/-- The length of a slice's value. -/
theorem len_val {e : Ty} {xs : List (den e)} {v : Value} (h : RdL w I (.slice e) xs [v]) : (∃ A cap, v = .slice A xs.length cap) ∧ xs.length ≤ big := by
  simp only [RdL] at h
  obtain ⟨u, hu, hb, h⟩ := h
  simp only [List.cons.injEq, and_true] at hu
  subst hu
  refine ⟨?_, hb⟩
  rcases h with ⟨h2, A, cap, h1⟩ | ⟨b, off, cap, h1, _⟩
  · subst h2; exact ⟨A, cap, h1⟩
  · exact ⟨_, cap, h1⟩
theorem lenC_ok (hT : TOK P tt) (hM : ∀ g o, L g = some o → M g = some o ∧ ObjR w I M C g o) {ts : Array TypeId} {ty : TypeId} {x : AV} {vx : Value} {n : Int}
    (hx : AVR w I M C x vx) (h : lenC (tyAt tt ts.toList) L x = some n) : (Builtin.len_ ts ty #[vx]).run P w = .ok (.int .i64 n) w ∧ inK .i64 n = true := by
  obtain ⟨t, hts, htt⟩ : ∃ t, ts[0]? = some t ∧ tyAt tt ts.toList = tt t := by
    obtain ⟨l⟩ := ts
    cases l with
    | nil =>
      exfalso
      unfold lenC at h
      simp only [tyAt, isTy, isSlT] at h
      split at h <;> first | cases h | (split at h <;> cases h)
    | cons t l => exact ⟨t, rfl, rfl⟩
  rw [htt] at h
  have slice : ∀ {te : TypeId} {A : Option Addr} {m cap : Nat}, P.underlying t = some (.slice te) → (Builtin.len_ ts ty #[.slice A m cap]).run P w = .ok (.int .i64 m) w := by
    intro te A m cap hu
    simp [Builtin.len_, hts, run_underlying hu, goInt]
  unfold lenC at h
  split at h
  · rename_i xs
    cases hc : isTy (tt t) .str with
    | false => rw [hc] at h; cases h
    | true =>
      rw [hc] at h
      cases h
      have hu := hT.und t _ (isTy_some hc)
      simp only [UndR] at hu
      obtain ⟨s, rfl, rfl, hs⟩ := AVR_str.1 hx
      have hl : len (bytesL s) = (s.size : Int) := by simp [len, bytesL_length]
      rw [hl]
      exact ⟨by simp [Builtin.len_, hts, run_underlying hu, goInt], inK_len (by omega) (by omega)⟩
  · rename_i e xs
    cases hc : isSlT (tt t) with
    | false => rw [hc] at h; cases h
    | true =>
      rw [hc] at h
      cases h
      obtain ⟨te, hu⟩ := isSlT_und hT hc
      obtain ⟨cs, hcs, hvx⟩ := hx
      have hcs' := hcs
      simp only [AVL, RdL] at hcs'
      obtain ⟨v, rfl, _, _⟩ := hcs'
      obtain ⟨⟨A, cap, rfl⟩, hb⟩ := len_val (e := e) hcs
      have e3 : vx = .slice A xs.length cap := by rw [hvx]; rfl
      subst e3
      exact ⟨slice hu, inK_len (by simp [len]) (by simp [len]; omega)⟩
  · cases hc : isSlT (tt t) with
    | false => rw [hc] at h; cases h
    | true =>
      rw [hc] at h
      cases h
      obtain ⟨te, hu⟩ := isSlT_und hT hc
      rw [AVR_nil.1 hx]
      exact ⟨slice hu, by decide⟩
  · rename_i g
    have key : ∀ (u : Ty) (xs : List (den u)), rowTy (M g) = some u → RdL w (IP I C [g]) (.slice u) xs [C.ρ g] → (bif isSlT (tt t) then some (len xs) else none) = some n →
        (Builtin.len_ ts ty #[vx]).run P w = .ok (.int .i64 n) w ∧ inK .i64 n = true := by
      intro u xs hm hr hk
      cases hc : isSlT (tt t) with
      | false => rw [hc] at hk; cases hk
      | true =>
        rw [hc] at hk
        cases hk
        obtain ⟨te, hu⟩ := isSlT_und hT hc
        obtain ⟨cs, ⟨v0, hcs, hv⟩, hvx⟩ := hx
        subst hcs
        have e1 : v0 = C.ρ g := hv (by rw [hm]; simp)
        obtain ⟨⟨A, cap, e2⟩, hb⟩ := len_val hr
        have e3 : vx = .slice A xs.length cap := by rw [hvx, e1, e2]; rfl
        subst e3
        exact ⟨slice hu, inK_len (by simp [len]) (by simp [len]; omega)⟩
    split at h
    · rename_i u nn xs hg
      obtain ⟨hm, ho⟩ := hM g _ hg
      exact key u xs (by rw [hm]; rfl) (row_rd ho) h
    · rename_i u xs hg
      obtain ⟨hm, ho⟩ := hM g _ hg
      exact key u xs (by rw [hm]; rfl) (RdL.mono (fun b hb => ⟨.inl hb, rfl⟩) (frz_rd ho)) h
    · cases h
  · rename_i g lo hi
    have key : ∀ (u : Ty) (xs : List (den u)), rowTy (M g) = some u → rowLen (M g) = xs.length → RdL w (IP I C [g]) (.slice u) xs [C.ρ g] → (bif isSlT (tt t) then some (hi - lo) else none) = some n →
        (Builtin.len_ ts ty #[vx]).run P w = .ok (.int .i64 n) w ∧ inK .i64 n = true := by
      intro u xs hm hln hr hk
      cases hc : isSlT (tt t) with
      | false => rw [hc] at hk; cases hk
      | true =>
        rw [hc] at hk
        cases hk
        obtain ⟨te, hu⟩ := isSlT_und hT hc
        obtain ⟨cs, ⟨v0, hcs, hv⟩, hvx⟩ := hx
        subst hcs
        obtain ⟨q0, q1, q2, A, m, cap, q3, q4⟩ := hv u hm
        obtain ⟨_, hb⟩ := len_val hr
        rw [hln] at q2
        have e3 : vx = .slice (if cap = lo.toNat then A else A.map (·.add (lo.toNat * size u))) (hi.toNat - lo.toNat) (cap - lo.toNat) := by rw [hvx, q4]; rfl
        rw [e3]
        have e4 : hi - lo = ((hi.toNat - lo.toNat : Nat) : Int) := by omega
        rw [e4]
        exact ⟨slice hu, inK_len (by omega) (by omega)⟩
    split at h
    · rename_i u nn xs hg
      obtain ⟨hm, ho⟩ := hM g _ hg
      exact key u xs (by rw [hm]; rfl) (by rw [hm]; rfl) (row_rd ho) h
    · rename_i u xs hg
      obtain ⟨hm, ho⟩ := hM g _ hg
      exact key u xs (by rw [hm]; rfl) (by rw [hm]; rfl) (RdL.mono (fun b hb => ⟨.inl hb, rfl⟩) (frz_rd ho)) h
    · cases h
  · cases h
theorem bytes_rd : ∀ {xs : List Int}, (∀ x ∈ xs, 0 ≤ x ∧ x ≤ 255) → bytesL (strOfNums xs) = xs := by
  intro xs h
  unfold bytesL strOfNums
  simp only [List.map_map]
  rw [List.map_congr_left (g := id), List.map_id]
  intro x hx
  obtain ⟨h1, h2⟩ := h x hx
  simp only [Function.comp, id]
  have : (UInt8.ofNat x.toNat).toNat = x.toNat := by simp [UInt8.toNat_ofNat']; omega
  rw [this]
  omega
theorem convC_ok (hT : TOK P tt) (hM : ∀ g o, L g = some o → M g = some o ∧ ObjR w I M C g o) {s t : TypeId} {R : Type} {x : AV} {vx : Value} {K : AV → Option R} {r : R}
    (hx : AVR w I M C x vx) (h : convC tt L s t x K = some r) : ∃ v y, K v = some r ∧ (convert s t vx).run P w = .ok y w ∧ AVR w I M C v y ∧ ids v = [] := by
  unfold convC at h
  split at h
  · rename_i k l hs ht
    split at h
    · rename_i n hn
      unfold intOf at hn
      split at hn
      · rename_i k' m
        cases hn
        obtain ⟨rfl, hk⟩ := AVR_int.1 hx
        have hu := hT.und t _ ht
        have hu' := hT.und s _ hs
        simp only [UndR] at hu hu'
        exact ⟨_, _, h, by simp [convert, run_underlying hu, run_underlying hu', Conv.intToInt]; rfl, AVR_int.2 ⟨rfl, inK_wrap _ _⟩, rfl⟩
      · cases hn
    · cases h
  · rename_i hs ht
    split at h
    · rename_i xs hr
      obtain ⟨hsh, hrd⟩ := rdv_sound hM hr
      obtain ⟨te, hu, hte⟩ := hT.und s _ hs
      have hue := hT.und te _ hte
      have hut := hT.und t _ ht
      simp only [UndR] at hue hut
      obtain ⟨cs, hc, hvx, hcl⟩ := AVR_cells hsh hx
      have hxs := hrd cs hc
      simp only [RdL] at hxs
      obtain ⟨v, rfl, hb, hv⟩ := hxs
      have e0 : vx = v := by rw [hvx]; rfl
      subst e0
      rcases hv with ⟨e2, A, cap, e1⟩ | ⟨b, off, cap, e1, e2, e3⟩
      · subst e1 e2
        have hcv : (convert s t (.slice A 0 cap)).run P w = .ok (.string .empty) w := by
          rw [run_convert_bytes_string w s t te A 0 cap hu hue hut]
          cases A with
          | none => simp [Conv.bytesToString]
          | some a => simp [Conv.bytesToString, loadCells, loadCellsFrom]
        exact ⟨_, _, h, hcv, AVR_str.2 ⟨_, rfl, rfl, by simp⟩, rfl⟩
      · subst e1
        have hin : ∀ j (hj : j < xs.length), w.cell? ⟨b, off + j, none⟩ = some (.int .u8 (xs[j]'hj)) ∧ inK .u8 (xs[j]'hj) = true := by
          intro j hj
          obtain ⟨_, arr, ty, fr, k1, k2, k3⟩ := e3 (by omega)
          have := k3 j hj
          simp only [size, Nat.mul_one] at this k2
          obtain ⟨q1, q2⟩ := this
          refine ⟨?_, q2⟩
          rw [cell_block k1]
          have := (seg_get (l := arr.toList) (o := off + j) (n := 1) (j := 0) (v := .int .u8 (xs[j]'hj)) (by rw [q1]; rfl)).1
          simpa using this
        have hbyte : ∀ x ∈ xs, 0 ≤ x ∧ x ≤ 255 := by
          intro x hx
          obtain ⟨j, hj, rfl⟩ := List.getElem_of_mem hx
          have := (hin j hj).2
          rw [inK, Bool.and_eq_true, decide_eq_true_eq, decide_eq_true_eq] at this
          exact this
        refine ⟨_, _, h, run_convert_bytes_arg (P := P) w s te hu hue b off xs.length cap xs rfl (fun i hi => ?_) t hut, AVR_str.2 ⟨_, rfl, bytes_rd hbyte, ?_⟩, rfl⟩
        · rw [(hin i hi).1]
          simp [List.getD, List.getElem?_eq_getElem hi]
        · have := bytesL_length (strOfNums xs)
          rw [bytes_rd hbyte] at this
          omega
    · cases h
  · cases h
end
end Go.Ev
/- How a state changes: a new object, an object changed in place, rows that are fixed. -/
namespace Go.Ev

def Conc.put (C : Conc) (g : Nat) (v : Value) (bs : List Nat) : Conc := ⟨fun h => if h = g then v else C.ρ h, fun h => if h = g then bs else C.β h⟩
theorem put_ρ (C : Conc) (g : Nat) (v : Value) (bs : List Nat) : (C.put g v bs).ρ g = v := by simp [Conc.put]
theorem put_β (C : Conc) (g : Nat) (v : Value) (bs : List Nat) : (C.put g v bs).β g = bs := by simp [Conc.put]
theorem put_ρ_ne (C : Conc) {g h : Nat} (v : Value) (bs : List Nat) (n : h ≠ g) : (C.put g v bs).ρ h = C.ρ h := by simp [Conc.put, n]
theorem put_β_ne (C : Conc) {g h : Nat} (v : Value) (bs : List Nat) (n : h ≠ g) : (C.put g v bs).β h = C.β h := by simp [Conc.put, n]
theorem assoc_one {g h : Nat} {o : Option Obj} : assoc [(g, o)] h = if h = g then some o else none := by
  by_cases e : h = g
  · subst e; simp [assoc]
  · simp only [assoc, e, if_false]
    cases hb : Nat.beq h g
    · rfl
    · exact absurd (Nat.eq_of_beq_eq_true hb) e
theorem upd_obj (S : AState) (u : Upd) (w : List Nat) (g : Nat) : (S.upd u w).obj g = match assoc u g with | some o => o | none => S.obj g := rfl
theorem upd_one (S : AState) (g : Nat) (o : Option Obj) (w : List Nat) (h : Nat) : (S.upd [(g, o)] w).obj h = if h = g then o else S.obj h := by
  rw [upd_obj, assoc_one]
  by_cases e : h = g <;> simp [e]

section
variable {F : Fr} {S : AState} {a : Act} {w : World} {C : Conc}
theorem Sim.none_of_new (h : Sim F S a w C) {g : Nat} (hg : S.used g = false) : S.obj g = none := by
  cases ho : S.obj g with
  | none => rfl
  | some o => have := h.use3 g (by rw [ho]; simp); rw [hg] at this; cases this

/-- A new object in a new block. -/
theorem Sim.alloc (h : Sim F S a w C) {g : Nat} (hg : S.used g = false) {o : Obj} {w' : World} {ob : Go.Obj} (hw : Ext (fun _ => False) w w') (hh : w'.heap = w.heap.push ob) (v : Value)
    (ho : (∀ b, Imm F w S C b → Imm F w' (S.upd [(g, some o)] [g]) (C.put g v [w.heap.size]) b ∧ w'.heap[b]? = w.heap[b]?) →
      ObjR w' (Imm F w' (S.upd [(g, some o)] [g]) (C.put g v [w.heap.size])) (S.upd [(g, some o)] [g]).obj (C.put g v [w.heap.size]) g o)
    (hbox : ∀ T c, o = .box T c → ∀ k ∈ ids c, S.used k = true) :
    Sim F (S.upd [(g, some o)] [g]) a w' (C.put g v [w.heap.size]) ∧ ∀ b, Imm F w S C b → Imm F w' (S.upd [(g, some o)] [g]) (C.put g v [w.heap.size]) b ∧ w'.heap[b]? = w.heap[b]? := by
  have h0 := h.none_of_new hg
  have hsz : w'.heap.size = w.heap.size + 1 := by rw [hh]; simp
  have hold : ∀ b, b < w.heap.size → w'.heap[b]? = w.heap[b]? := fun b hb => hw.block b hb (fun f => f)
  have hne : ∀ k, S.obj k ≠ none → k ≠ g := fun k hk e => by subst e; exact hk h0
  refine Sim.upd h [(g, some o)] [g] w' (C.put g v [w.heap.size]) (fun k hk => put_ρ_ne _ _ _ (fun e => by subst e; rw [hg] at hk; cases hk)) (fun k hk => ?_) (⟨hw.os, hw.tape, hw.output, hw.size, fun b hb _ => hold b hb⟩) (fun b hb => ⟨fun k hk => ?_, hold b hb.1⟩) (fun k ok hk hak => ?_) (fun hi k ok hk => ?_) (fun k hk => ?_) (fun k l b hk hl hbk hbl => ?_) (fun k b hk hbk => ?_) (fun k T c l hk hl => ?_) (fun k ok hk => ?_)
  · rw [upd_one]
    have : k ≠ g := fun e => by subst e; rw [hg] at hk; cases hk
    rw [if_neg this]
    exact Alike.refl _
  · rw [upd_one] at hk
    by_cases e : k = g
    · subst e; rw [put_β]; simp; exact Nat.ne_of_lt hb.1
    · rw [if_neg e] at hk
      rw [put_β_ne _ _ _ e]
      exact hb.2.2 k hk
  · have e : k ≠ g := hne k (by rw [hk]; simp)
    rw [put_β_ne _ _ _ e]
    exact ⟨rfl, fun b hb => hold b (h.own k b (by rw [hk]; simp) hb).1⟩
  · rw [assoc_one] at hk
    split at hk
    · rename_i e; subst e; cases hk; exact ho hi
    · cases hk
  · rw [upd_one] at hk
    by_cases e : k = g
    · subst e; rw [put_β]; simp
    · rw [if_neg e] at hk
      rw [put_β_ne _ _ _ e]
      exact h.nod k hk
  · rw [upd_one] at hk hl
    by_cases e : k = g
    · by_cases e' : l = g
      · rw [e, e']
      · rw [if_neg e'] at hl
        rw [e, put_β] at hbk
        rw [put_β_ne _ _ _ e'] at hbl
        simp at hbk
        have := (h.own l b hl hbl).1
        omega
    · rw [if_neg e] at hk
      rw [put_β_ne _ _ _ e] at hbk
      by_cases e' : l = g
      · rw [e', put_β] at hbl
        simp at hbl
        have := (h.own k b hk hbk).1
        omega
      · rw [if_neg e'] at hl
        rw [put_β_ne _ _ _ e'] at hbl
        exact h.sep k l b hk hl hbk hbl
  · rw [upd_one] at hk ⊢
    by_cases e : k = g
    · rw [e, put_β] at hbk
      simp at hbk
      exact ⟨by omega, .inl (by rw [hbk]; exact h.ext.size)⟩
    · rw [if_neg e] at hk ⊢
      rw [put_β_ne _ _ _ e] at hbk
      exact ⟨by have := (h.own k b hk hbk).1; omega, (h.own k b hk hbk).2⟩
  · rw [assoc_one] at hk
    split at hk
    · cases hk
      have := hbox T c rfl l hl
      simp [AState.upd, this]
    · cases hk
  · rw [assoc_one] at hk
    split at hk
    · rename_i e; subst e; simp [AState.upd]
    · cases hk

/-- An object that changes in place. -/
theorem Sim.store (h : Sim F S a w C) {g : Nat} {o o' : Obj} (hg : S.obj g = some o) {w' : World} (hos : w'.os = w.os) (hta : w'.tape = w.tape) (hou : w'.output = w.output) (hsz : w'.heap.size = w.heap.size)
    (hsame : ∀ b, b ∉ C.β g → w'.heap[b]? = w.heap[b]?) (hal : Alike (some o) (some o')) (hM : F.M (some o) = F.M (some o'))
    (ho : (∀ b, Imm F w S C b → Imm F w' (S.upd [(g, some o')] []) C b ∧ w'.heap[b]? = w.heap[b]?) → ObjR w' (Imm F w' (S.upd [(g, some o')] []) C) (S.upd [(g, some o')] []).obj C g o')
    (hbox : ∀ T c, o' = .box T c → ∀ k ∈ ids c, S.used k = true) :
    Sim F (S.upd [(g, some o')] []) a w' C ∧ ∀ b, Imm F w S C b → Imm F w' (S.upd [(g, some o')] []) C b ∧ w'.heap[b]? = w.heap[b]? := by
  have hg' : S.obj g ≠ none := by rw [hg]; simp
  have hne : ∀ k, (S.upd [(g, some o')] []).obj k ≠ none → S.obj k ≠ none := by
    intro k hk
    rw [upd_one] at hk
    by_cases e : k = g
    · rw [e]; exact hg'
    · rwa [if_neg e] at hk
  refine Sim.upd h [(g, some o')] [] w' C (fun k hk => rfl) (fun k hk => ?_) (⟨hos, hta, hou, Nat.le_of_eq hsz.symm, fun b hb hn => hsame b (fun hm => hn ⟨g, hg', hm⟩)⟩) (fun b hb => ⟨fun k hk => hb.2.2 k (hne k hk), hsame b (hb.2.2 g hg')⟩)
    (fun k ok hk hak => ⟨rfl, fun b hb => hsame b (fun hm => ?_)⟩) (fun hi k ok hk => ?_) (fun k hk => h.nod k (hne k hk)) (fun k l b hk hl hbk hbl => h.sep k l b (hne k hk) (hne l hl) hbk hbl) (fun k b hk hbk => ?_) (fun k T c l hk hl => ?_) (fun k ok hk => ?_)
  · rw [upd_one]
    by_cases e : k = g
    · rw [if_pos e, e, hg]; exact hal
    · rw [if_neg e]; exact Alike.refl _
  · have := h.sep k g b (by rw [hk]; simp) hg' hb hm
    rw [this, assoc_one, if_pos rfl] at hak
    cases hak
  · rw [assoc_one] at hk
    split at hk
    · rename_i e; subst e; cases hk; exact ho hi
    · cases hk
  · rw [hsz, upd_one]
    have := h.own k b (hne k hk) hbk
    by_cases e : k = g
    · rw [if_pos e, ← hM]
      rw [e, hg] at this
      exact this
    · rw [if_neg e]; exact this
  · rw [assoc_one] at hk
    split at hk
    · cases hk
      have := hbox T c rfl l hl
      simp [AState.upd, this]
    · cases hk
  · rw [assoc_one] at hk
    split at hk
    · rename_i e
      subst e
      have := h.use3 k hg'
      simp [AState.upd, this]
    · cases hk

/-! ### Rows that are fixed from now on -/
theorem assoc_append (u v : Upd) (g : Nat) : assoc (u ++ v) g = match assoc u g with | some o => some o | none => assoc v g := by
  induction u with
  | nil => rfl
  | cons x u ih =>
    obtain ⟨h, o⟩ := x
    simp only [List.cons_append, assoc]
    cases Nat.beq g h
    · exact ih
    · rfl
theorem assoc_frz1 {L : Look} {g h : Nat} {o : Option Obj} (e : assoc (frz1 L g) h = some o) : h = g ∧ ∃ t nn xs, L g = some (.row t nn xs) ∧ o = some (.frz t xs) := by
  unfold frz1 at e
  split at e
  · rename_i t nn xs hg
    rw [assoc_one] at e
    split at e
    · rename_i e1; cases e; exact ⟨e1, t, nn, xs, hg, rfl⟩
    · cases e
  · cases e
theorem assoc_frzs {L : Look} : ∀ {gs : List Nat} {g : Nat} {o : Option Obj}, assoc (frzs L gs) g = some o → g ∈ gs ∧ ∃ t nn xs, L g = some (.row t nn xs) ∧ o = some (.frz t xs) := by
  intro gs
  induction gs with
  | nil => intro g o h; cases h
  | cons k gs ih =>
    intro g o h
    rw [frzs, assoc_append] at h
    cases hk : assoc (frz1 L k) g with
    | some o' =>
      rw [hk] at h; cases h
      obtain ⟨rfl, r⟩ := assoc_frz1 hk
      exact ⟨by simp, r⟩
    | none =>
      rw [hk] at h
      obtain ⟨h1, h2⟩ := ih h
      exact ⟨by simp [h1], h2⟩
theorem frzs_some {L : Look} : ∀ {gs : List Nat} {g : Nat} {t : Ty} {nn : Bool} {xs : List (den t)}, g ∈ gs → L g = some (.row t nn xs) → assoc (frzs L gs) g = some (some (.frz t xs)) := by
  intro gs
  induction gs with
  | nil => intro g t nn xs h; cases h
  | cons k gs ih =>
    intro g t nn xs h hL
    rw [frzs, assoc_append]
    by_cases e : g = k
    · subst e
      have : assoc (frz1 L g) g = some (some (.frz t xs)) := by unfold frz1; rw [hL]; simp [assoc]
      rw [this]
    · have e' : g ∈ gs := by simpa [e] using h
      cases hk : assoc (frz1 L k) g with
      | some o' => exact absurd (assoc_frz1 hk).1 e
      | none => exact ih e' hL
def Conc.frz (C : Conc) (u : Upd) : Conc := ⟨C.ρ, fun g => if (assoc u g).isSome then [] else C.β g⟩
theorem Sim.frz (h : Sim F S a w C) (hfz : ∀ b, ¬ F.Mr b) {L : Look} (hL : ∀ g o, L g = some o → S.obj g = some o) (gs : List Nat) :
    Sim F (S.upd (frzs L gs) []) a w (C.frz (frzs L gs)) ∧ (∀ b, Imm F w S C b → Imm F w (S.upd (frzs L gs) []) (C.frz (frzs L gs)) b ∧ w.heap[b]? = w.heap[b]?) ∧
      (∀ g ∈ gs, ∀ t nn xs, L g = some (.row t nn xs) → ∀ b ∈ C.β g, Imm F w (S.upd (frzs L gs) []) (C.frz (frzs L gs)) b) := by
  have hne : ∀ k, (S.upd (frzs L gs) []).obj k ≠ none → S.obj k ≠ none := by
    intro k hk
    rw [upd_obj] at hk
    cases ha : assoc (frzs L gs) k with
    | some o =>
      obtain ⟨_, t, nn, xs, h1, _⟩ := assoc_frzs ha
      rw [hL k _ h1]; simp
    | none => rw [ha] at hk; exact hk
  have hβ : ∀ k b, b ∈ (C.frz (frzs L gs)).β k → b ∈ C.β k ∧ assoc (frzs L gs) k = none := by
    intro k b hb
    unfold Conc.frz at hb
    cases ha : assoc (frzs L gs) k with
    | some o => simp [ha] at hb
    | none => simp only [ha] at hb; exact ⟨by simpa using hb, rfl⟩
  have himm : ∀ g ∈ gs, ∀ t nn xs, L g = some (.row t nn xs) → ∀ b ∈ C.β g, Imm F w (S.upd (frzs L gs) []) (C.frz (frzs L gs)) b := by
    intro g hg t nn xs hr b hb
    have h1 := hL g _ hr
    obtain ⟨o1, o2⟩ := h.own g b (by rw [h1]; simp) hb
    refine ⟨o1, fun hlt => ?_, fun k hk hbk => ?_⟩
    · rcases o2 with o2 | o2
      · omega
      · rw [h1] at o2; exact absurd o2 (hfz b)
    · obtain ⟨b1, b2⟩ := hβ k b hbk
      have := h.sep k g b (hne k hk) (by rw [h1]; simp) b1 hb
      subst this
      rw [frzs_some hg hr] at b2
      cases b2
  have key := Sim.upd h (frzs L gs) [] w (C.frz (frzs L gs)) (fun k hk => rfl) (fun k hk => ?_) (Ext.refl _ w) (fun b hb => ⟨fun k hk hbk => hb.2.2 k (hne k hk) (hβ k b hbk).1, rfl⟩)
    (fun k ok hk hak => ⟨by simp [Conc.frz, hak], fun b hb => rfl⟩) (fun hi k ok hk => ?_) (fun k hk => ?_) (fun k l b hk hl hbk hbl => h.sep k l b (hne k hk) (hne l hl) (hβ k b hbk).1 (hβ l b hbl).1) (fun k b hk hbk => ?_) (fun k T c l hk hl => ?_) (fun k ok hk => ?_)
  · exact ⟨key.1, key.2, himm⟩
  · rw [upd_obj]
    cases ha : assoc (frzs L gs) k with
    | some o =>
      obtain ⟨_, t, nn, xs, h1, rfl⟩ := assoc_frzs ha
      rw [hL k _ h1]
      exact ⟨.inr ⟨rfl, rfl⟩, .inl rfl⟩
    | none => exact Alike.refl _
  · obtain ⟨hk1, t, nn, xs, h1, h2⟩ := assoc_frzs hk
    cases h2
    refine ⟨by simp [Conc.frz, hk], ?_⟩
    have := row_rd (h.obj k _ (hL k _ h1))
    refine RdL.mono (fun b hb => ⟨?_, rfl⟩) this
    rcases hb with hb | ⟨g, hg, hb⟩
    · exact (hi b hb).1
    · simp at hg
      subst hg
      exact himm g hk1 t nn xs h1 b hb
  · unfold Conc.frz
    dsimp only
    split
    · simp
    · exact h.nod k (hne k hk)
  · obtain ⟨b1, b2⟩ := hβ k b hbk
    have := h.own k b (hne k hk) b1
    rw [upd_obj, b2]
    exact this
  · obtain ⟨_, t, nn, xs, h1, h2⟩ := assoc_frzs hk
    cases h2
  · obtain ⟨_, t, nn, xs, h1, h2⟩ := assoc_frzs hk
    have := h.use3 k (by rw [hL k _ h1]; simp)
    simp [AState.upd, this]
end
end Go.Ev
/- New variables and new slices. -/
namespace Go.Ev

theorem run_mapM_list {P : Program} {w : World} {α β : Type} {f : α → Sem β} {g : α → β} : ∀ {l : List α}, (∀ x ∈ l, (f x).run P w = .ok (g x) w) → (l.mapM f).run P w = .ok (l.map g) w := by
  intro l
  induction l with
  | nil => intro _; simp
  | cons x l ih =>
    intro h
    have h1 := h x (by simp)
    have h2 := ih (fun y hy => h y (by simp [hy]))
    simp [List.mapM_cons, h1, h2]
theorem run_mapM_arr {P : Program} {w : World} {α β : Type} {f : α → Sem β} {g : α → β} {l : Array α} (h : ∀ x ∈ l.toList, (f x).run P w = .ok (g x) w) : (l.mapM f).run P w = .ok (l.map g) w := by
  have h1 := run_mapM_list (P := P) (w := w) h
  have h2 : (Array.toList <$> l.mapM f).run P w = .ok (l.toList.map g) w := by rw [Array.toList_mapM]; exact h1
  rw [Sem.run_map] at h2
  cases hr : (l.mapM f).run P w with
  | ok r w' =>
    rw [hr] at h2
    simp only [Result.andThen_ok, Result.ok.injEq] at h2
    obtain ⟨h3, rfl⟩ := h2
    congr 1
    apply Array.ext'
    rw [h3]
    simp
  | halt e w' => rw [hr] at h2; cases h2

/-- Cells put in one by one. -/
theorem foldl_sets (off : Nat) : ∀ (vs : List Value) (i : Nat) (cells : Array Value), off + i + vs.length ≤ cells.size →
    ((vs.zipIdx i).foldl (fun cs (x : Value × Nat) => cs.setIfInBounds (off + x.2) x.1) cells).toList = splice cells.toList (off + i) vs := by
  intro vs
  induction vs with
  | nil => intro i cells _; simp [splice]
  | cons v vs ih =>
    intro i cells h
    simp only [List.zipIdx_cons, List.foldl_cons]
    rw [ih (i + 1) _ (by simp at h ⊢; omega)]
    simp only [List.length_cons] at h
    unfold splice
    have e : off + (i + 1) = off + i + 1 := by omega
    rw [e, Array.toList_setIfInBounds]
    have hl : off + i < cells.toList.length := by simp; omega
    rw [List.take_set, List.drop_set_of_lt (by omega)]
    have e2 : ((cells.toList.take (off + i + 1)).set (off + i) v) = cells.toList.take (off + i) ++ [v] := by
      rw [List.take_succ_eq_append_getElem hl, List.set_append_right _ _ (by simp; omega)]
      have : (off + i) - (List.take (off + i) cells.toList).length = 0 := by rw [List.length_take]; omega
      rw [this]
      rfl
    rw [e2]
    simp [List.append_assoc]
    congr 1
    omega
theorem fill_step {place : Nat → Option (Nat × Nat)} {cells : Array Value} {i off size : Nat} {v : Value} {rest : List (Nat × Value)} (hp : place i = some (off, size)) (hv : v.cells.size = size) (ho : off + size ≤ cells.size) :
    Instr.fill place cells ((i, v) :: rest) = Instr.fill place (splice cells.toList off v.cells.toList).toArray rest := by
  have h1 : (decide (v.cells.size ≠ size) || decide (off + v.cells.size > cells.size)) = false := by
    rw [Bool.or_eq_false_iff, decide_eq_false_iff_not, decide_eq_false_iff_not]
    omega
  have h2 : (Array.foldl (fun cs (x : Value × Nat) => cs.setIfInBounds (off + x.snd) x.fst) cells v.cells.zipIdx) = (splice cells.toList off v.cells.toList).toArray := by
    have := foldl_sets off v.cells.toList 0 cells (by simpa [hv] using ho)
    rw [← Array.toList_inj]
    simp only [Nat.add_zero] at this
    rw [← this, ← Array.foldl_toList, Array.toList_zipIdx]
  simp only [Instr.fill, hp]
  rw [show (Instr.fill place (splice cells.toList off v.cells.toList).toArray rest) = if false = true then none else Instr.fill place (splice cells.toList off v.cells.toList).toArray rest from rfl, ← h1]
  split
  · rfl
  · exact congrArg (fun c => Instr.fill place c rest) h2

section
variable {P : Program} {tt : Nat → Option Ty} {w : World} {I : Nat → Prop} {L M : Look} {C : Conc}
theorem RdL.one : ∀ {t : Ty} {x : den t} {vs : List Value}, RdL w I t x vs → ∀ v ∈ vs, v.oneCell' = true := by
  intro t
  induction t with
  | int k => intro x vs h v hv; simp only [RdL] at h; rw [h.1] at hv; simp at hv; subst hv; rfl
  | bool => intro x vs h v hv; simp only [RdL] at h; rw [h] at hv; simp at hv; subst hv; rfl
  | str => intro x vs h v hv; obtain ⟨s, rfl, _⟩ := h; simp at hv; subst hv; rfl
  | slice e ih =>
    intro x vs h v hv
    simp only [RdL] at h
    obtain ⟨s, rfl, _, h⟩ := h
    simp at hv; subst hv
    rcases h with ⟨_, _, _, rfl⟩ | ⟨_, _, _, rfl, _⟩ <;> rfl
  | arr n e ih =>
    intro x vs h v hv
    obtain ⟨h1, h2, h3⟩ := h
    obtain ⟨i, hi, rfl⟩ := List.getElem_of_mem hv
    have hs : 0 < size e := Nat.pos_of_ne_zero fun e0 => by rw [h2, e0] at hi; simp at hi
    have hj : i / size e < n := by
      rw [Nat.div_lt_iff_lt_mul hs]
      omega
    have := h3 (i / size e) (by omega)
    refine ih this _ (List.mem_iff_getElem?.2 ⟨i % size e, ?_⟩)
    unfold seg
    rw [List.getElem?_take, if_pos (Nat.mod_lt _ hs), List.getElem?_drop]
    have e1 : i / size e * size e + i % size e = i := by rw [Nat.mul_comm]; exact Nat.div_add_mod i _
    rw [e1, List.getElem?_eq_getElem hi]
  | ifc =>
    intro x vs h v hv
    obtain ⟨s, rfl, h⟩ := h
    simp at hv; subst hv
    rcases h with ⟨_, rfl⟩ | ⟨_, _, _, rfl⟩ <;> rfl
  | unit => intro x vs h v hv; simp only [RdL] at h; rw [h] at hv; cases hv
  | pair a b iha ihb =>
    intro x vs h v hv
    rw [← List.take_append_drop (size a) vs, List.mem_append] at hv
    rcases hv with hv | hv
    · exact iha h.1 v hv
    · exact ihb h.2 v hv
theorem fits_one (hM : ∀ g o, L g = some o → M g = some o ∧ ObjR w I M C g o) : ∀ {a : AV} {T : Ty} {vs : List Value}, fits L a T = true → AVL w I M C a vs → ∀ v ∈ vs, v.oneCell' = true := by
  have row : ∀ {g : Nat} {o : Obj}, L g = some o → rowTy (some o) ≠ none → (C.ρ g).oneCell' = true := by
    intro g o hg hr
    obtain ⟨hm, ho⟩ := hM g o hg
    cases o with
    | box T c => simp [rowTy] at hr
    | row e nn xs => rcases ho.2 with ⟨h, _⟩ | ⟨_, _, _, _, _, h, _⟩ <;> rw [h] <;> rfl
    | frz e xs => exact RdL.one ho.2 _ (by simp)
  intro a
  induction a with
  | val t x => intro T vs _ h; exact RdL.one h
  | nil => intro T vs _ h v hv; simp only [AVL] at h; rw [h] at hv; simp at hv; subst hv; rfl
  | row g =>
    intro T vs hf h v hv
    obtain ⟨v0, rfl, h⟩ := h
    simp at hv; subst hv
    cases T with
    | slice e =>
      simp only [fits] at hf
      split at hf
      · rename_i u nn xs hg
        rw [h (by rw [(hM g _ hg).1]; simp [rowTy])]
        exact row hg (by simp [rowTy])
      · rename_i u xs hg
        rw [h (by rw [(hM g _ hg).1]; simp [rowTy])]
        exact row hg (by simp [rowTy])
      · cases hf
    | _ => simp [fits] at hf
  | view g lo hi =>
    intro T vs hf h v hv
    obtain ⟨v0, rfl, h⟩ := h
    simp at hv; subst hv
    cases T with
    | slice e =>
      simp only [fits] at hf
      split at hf
      · rename_i u nn xs hg
        obtain ⟨_, _, _, A, len, cap, _, rfl⟩ := h u (by rw [(hM g _ hg).1]; rfl)
        rfl
      · rename_i u xs hg
        obtain ⟨_, _, _, A, len, cap, _, rfl⟩ := h u (by rw [(hM g _ hg).1]; rfl)
        rfl
      · cases hf
    | _ => simp [fits] at hf
  | unit => intro T vs _ h v hv; simp only [AVL] at h; rw [h] at hv; cases hv
  | pair a b iha ihb =>
    intro T vs hf h v hv
    cases T with
    | pair x y =>
      simp only [fits, Bool.and_eq_true] at hf
      rw [← List.take_append_drop (csize a) vs, List.mem_append] at hv
      rcases hv with hv | hv
      · exact iha hf.1 h.1 v hv
      · exact ihb hf.2 h.2 v hv
    | _ => simp [fits] at hf
  | _ => intro T vs hf h; cases T <;> simp [fits] at hf
/-- The cells of a value that is written by its cells. -/
theorem cells_ofC {T : Ty} {cs : List Value} (hl : cs.length = size T) (h1 : ∀ v ∈ cs, v.oneCell' = true) : (ofC (isAgg T) cs).cells = cs.toArray := by
  cases hag : isAgg T with
  | true => rfl
  | false =>
    have h2 : size T = 1 := by cases T <;> first | rfl | simp [isAgg] at hag
    obtain ⟨v, rfl⟩ := List.length_eq_one_iff.1 (by rw [hl, h2])
    have := h1 v (by simp)
    cases v <;> first | rfl | (simp [Value.oneCell'] at this)
theorem zcells_one (T : Ty) : ∀ v ∈ zcells T, v.oneCell' = true := RdL.one (zero_rd default (fun _ => True) T)
end
end Go.Ev
/- Operations that make values and memory. -/
namespace Go.Ev

/-- An operation's value: how it runs, and what the state is behind it. -/
def ValOK (P : Program) (F : Fr) (S : AState) (a : Act) (w : World) (s : Sem Value) (v : AV) (u : Upd) (nw : List Nat) : Prop :=
  ∃ x w' C', s.run P w = .ok x w' ∧ Sim F (S.upd u nw) a w' C' ∧ AVR w' (Imm F w' (S.upd u nw) C') (S.upd u nw).obj C' v x ∧ ∀ g ∈ ids v, (S.upd u nw).used g = true
theorem seg_splice_same {cs vs : List Value} {o n : Nat} (hn : vs.length = n) (h : o + n ≤ cs.length) : seg (splice cs o vs) o n = vs := by
  subst hn
  unfold seg splice
  rw [List.append_assoc, List.drop_append_of_le_length (by simp; omega), List.drop_eq_nil_of_le (by simp; omega), List.nil_append, List.take_left']
  rfl
theorem seg_splice_ne {cs vs : List Value} {o p n : Nat} (ho : o + vs.length ≤ cs.length) (h : p + n ≤ o ∨ o + vs.length ≤ p) : seg (splice cs o vs) p n = seg cs p n := by
  apply List.ext_getElem?
  intro j
  unfold seg
  rw [List.getElem?_take, List.getElem?_take]
  split
  · rename_i hj
    rw [List.getElem?_drop, List.getElem?_drop]
    unfold splice
    rcases h with h | h
    · rw [List.append_assoc, List.getElem?_append_left (by simp; omega), List.getElem?_take, if_pos (by omega)]
    · rw [List.getElem?_append_right (by simp; omega)]
      simp only [List.length_append, List.length_take]
      rw [List.getElem?_drop]
      congr 1
      omega
  · rfl

section
variable {P : Program} {tt : Nat → Option Ty} {F : Fr} {S : AState} {a : Act} {w : World} {C : Conc}

theorem ValOK.pure (h : Sim F S a w C) {s : Sem Value} {v : AV} {x : Value} (hr : s.run P w = .ok x w) (hv : AVR w (Imm F w S C) S.obj C v x) (hu : ∀ g ∈ ids v, S.used g = true) : ValOK P F S a w s v [] [] :=
  ⟨x, w, C, hr, h, hv, hu⟩
theorem zeroValue_ok (hT : TOK P tt) {t : TypeId} {T : Ty} (ht : tt t = some T) (w : World) : (Go.zeroValue t).run P w = .ok (ofC (isAgg T) (zcells T)) w := by
  obtain ⟨i, hi, hz, _, _⟩ := hT.info t T ht
  simp [Go.zeroValue, typeInfo, hi, hz]
theorem newVar_ok {t : TypeId} {v : Value} {w : World} : (newVar t v).run P w = .ok ⟨w.heap.size, 0, none⟩ (w.alloc (.cells v.cells t)) := by
  simp [newVar, newRow]
theorem ext_alloc (w : World) (o : Go.Obj) : Ext (fun _ => False) w (w.alloc o) := ⟨rfl, rfl, rfl, by show w.heap.size ≤ (w.heap.push o).size; simp, fun b hb _ => heap_alloc_old w o b hb⟩

/-- A new variable. -/
theorem box_ok (hs : Sim F S a w C) {L : Look} (hL : ∀ g o, L g = some o → S.obj g = some o) {t : TypeId} {T : Ty} {g : Nat} (hg : S.used g = false) {c : AV} {cs : List Value} (hsh : shp c T) (hc : AVL w (Imm F w S C) S.obj C c cs)
    (h1 : ∀ v ∈ cs, v.oneCell' = true) (hu : ∀ k ∈ ids c, S.used k = true) (s : Sem Value) (hr : s.run P w = .ok (.pointer (some ⟨w.heap.size, 0, none⟩)) (w.alloc (.cells cs.toArray t))) :
    ValOK P F S a w s (.ptr g []) [(g, some (.box T c))] [g] := by
  have key := Sim.alloc hs hg (o := .box T c) (ext_alloc w (.cells cs.toArray t)) rfl (.pointer (some ⟨w.heap.size, 0, none⟩)) (fun hi => ?_) (fun T' c' e k hk => by cases e; exact hu k hk)
  · refine ⟨_, _, _, hr, key.1, ⟨[.pointer (some ⟨w.heap.size, 0, none⟩)], ⟨_, rfl, fun T' hT' => ?_⟩, rfl⟩, fun k hk => ?_⟩
    · rw [upd_one, if_pos rfl] at hT'
      cases hT'
      exact ⟨w.heap.size, 0, rfl, put_ρ _ _ _ _, rfl⟩
    · simp only [ids, List.mem_singleton] at hk
      subst hk
      simp [AState.upd]
  · refine ⟨w.heap.size, cs.toArray, t, put_ρ _ _ _ _, put_β _ _ _ _, by rw [World.alloc]; simp, ?_, hsh⟩
    simp only [List.toList_toArray]
    refine AVL.mono hi (fun k hk => ?_) hc
    have hk' := hu k hk
    have hne : k ≠ g := fun e => by subst e; rw [hg] at hk'; cases hk'
    rw [upd_one, if_neg hne]
    exact ⟨Alike.refl _, put_ρ_ne _ _ _ hne⟩
theorem alloc_ok (hT : TOK P tt) (hs : Sim F S a w C) {t : TypeId} {T : Ty} (ht : tt t = some T) {g : Nat} (hg : S.used g = false) :
    ValOK P F S a w (Instr.alloc t true (.tuple #[])) (.ptr g []) [(g, some (.box T (zav T)))] [g] := by
  refine box_ok hs (L := S.obj) (fun _ _ h => h) (t := t) hg (zav_shp T) (zav_rd w _ _ _ T) (zcells_one T) (fun k hk => by rw [zav_ids] at hk; cases hk) _ ?_
  have hc := cells_ofC (zcells_length T) (zcells_one T)
  simp [Instr.alloc, zeroValue_ok hT ht, newVar_ok, hc]
theorem boxop_ok (hs : Sim F S a w C) {L : Look} (hL : ∀ g o, L g = some o → S.obj g = some o) {t : TypeId} {T : Ty} {g : Nat} (hg : S.used g = false) {v : AV} {x : Value} (hf : fits L v T = true) (hv : AVR w (Imm F w S C) S.obj C v x) (hu : ∀ k ∈ ids v, S.used k = true) :
    ValOK P F S a w (Instr.box t x) (.ptr g []) [(g, some (.box T v))] [g] := by
  have hsh := fits_shp hf
  obtain ⟨cs, hc, rfl, hl⟩ := AVR_cells hsh hv
  have h1 := fits_one (w := w) (I := Imm F w S C) (M := S.obj) (C := C) (L := L) (fun k o hk => ⟨hL k o hk, hs.obj k o (hL k o hk)⟩) hf hc
  refine box_ok hs hL (t := t) hg hsh hc h1 hu _ ?_
  simp [Instr.box, newVar_ok, cells_ofC hl h1]

/-! ### Slices and arrays out of parts -/
theorem elems_ok {L : Look} {I : Nat → Prop} {M : Look} (hM : ∀ g o, L g = some o → M g = some o ∧ ObjR w I M C g o) {e : Ty} {f : Operand → AV} {ev : Operand → Value} {gs : List Nat} :
    ∀ (l : List (Nat × Operand)) (acc xs : List (den e)) (cells : Array Value), elems L e (l.map fun p => (p.1, f p.2)) acc = some xs → (∀ p ∈ l, AVR w I M C (f p.2) (ev p.2)) → (∀ p ∈ l, ∀ g ∈ ids (f p.2), g ∈ gs) →
      cells.size = acc.length * size e → (∀ j (hj : j < acc.length), RdL w (IP I C gs) e (acc[j]'hj) (seg cells.toList (j * size e) (size e))) →
      ∃ cells', Instr.fill (fun i => some (i * size e, size e)) cells (l.map fun p => (p.1, ev p.2)) = some cells' ∧ xs.length = acc.length ∧ cells'.size = acc.length * size e ∧
        ∀ j (hj : j < xs.length), RdL w (IP I C gs) e (xs[j]'hj) (seg cells'.toList (j * size e) (size e)) := by
  intro l
  induction l with
  | nil =>
    intro acc xs cells h _ _ hsz hr
    simp only [List.map_nil, elems, Option.some.injEq] at h
    subst h
    exact ⟨cells, rfl, rfl, hsz, hr⟩
  | cons p l ih =>
    intro acc xs cells h hv hg hsz hr
    simp only [List.map_cons, elems] at h
    cases hb : Nat.blt p.1 acc.length with
    | false => rw [hb] at h; cases h
    | true =>
      rw [hb, cond_true] at h
      have hlt : p.1 < acc.length := by simpa [Nat.blt_eq] using hb
      split at h
      · rename_i x hx
        obtain ⟨hsh, hrd⟩ := rdv_sound hM hx
        obtain ⟨vs, hc, hve, hl⟩ := AVR_cells hsh (hv p (by simp))
        have hxr := RdL.mono (I' := IP I C gs) (w' := w) (fun b hb => ⟨IP.sub (fun g hg' => hg p (by simp) g hg') hb, rfl⟩) (hrd vs hc)
        have hcells : (ev p.2).cells = vs.toArray := by rw [hve]; exact cells_ofC hl (RdL.one hxr)
        have hle : p.1 * size e + size e ≤ acc.length * size e := by
          have : (p.1 + 1) * size e ≤ acc.length * size e := Nat.mul_le_mul_right _ hlt
          rwa [Nat.add_mul, Nat.one_mul] at this
        have hspl : (splice cells.toList (p.1 * size e) vs).length = cells.size := by rw [splice_length (by simp; omega)]; simp
        have hstep : ∀ j (hj : j < (acc.set p.1 x).length), RdL w (IP I C gs) e ((acc.set p.1 x)[j]'hj) (seg (splice cells.toList (p.1 * size e) vs).toArray.toList (j * size e) (size e)) := by
          intro j hj
          have hj0 : j < acc.length := by simpa using hj
          by_cases e1 : j = p.1
          · subst e1
            rw [seg_splice_same hl (by simp; omega)]
            simpa using hxr
          · rw [seg_splice_ne (by simp; omega) ?_]
            · have : (acc.set p.1 x)[j]'hj = acc[j]'hj0 := by rw [List.getElem_set_ne (fun e2 => e1 e2.symm)]
              rw [this]
              exact hr j hj0
            · rw [hl]
              rcases Nat.lt_or_gt_of_ne e1 with e2 | e2
              · left
                have : (j + 1) * size e ≤ p.1 * size e := Nat.mul_le_mul_right _ e2
                rwa [Nat.add_mul, Nat.one_mul] at this
              · right
                have : (p.1 + 1) * size e ≤ j * size e := Nat.mul_le_mul_right _ e2
                rwa [Nat.add_mul, Nat.one_mul] at this
        obtain ⟨cells', h1, h2, h3, h4⟩ := ih (acc.set p.1 x) xs (splice cells.toList (p.1 * size e) vs).toArray h (fun q hq => hv q (by simp [hq])) (fun q hq => hg q (by simp [hq]))
          (by rw [List.size_toArray, hspl, hsz, List.length_set]) hstep
        refine ⟨cells', ?_, by rw [h2, List.length_set], by rw [h3, List.length_set], h4⟩
        simp only [List.map_cons]
        rw [fill_step (off := p.1 * size e) (size := size e) rfl (by rw [hcells]; simpa using hl) (by omega), hcells, List.toList_toArray]
        exact h1
      · cases h
theorem zeros_rd (w : World) (I : Nat → Prop) (e : Ty) (n : Nat) (z : Array Value) (hz : z = (zcells e).toArray) :
    ((Array.range (n * size e)).map (z[· % z.size]!)).size = n * size e ∧
      ∀ j, j < n → RdL w I e (zero e) (seg ((Array.range (n * size e)).map (z[· % z.size]!)).toList (j * size e) (size e)) := by
  subst hz
  refine ⟨by simp, fun j hj => ?_⟩
  have : seg ((Array.range (n * size e)).map ((zcells e).toArray[· % (zcells e).toArray.size]!)).toList (j * size e) (size e) = zcells e := by
    have hle : j * size e + size e ≤ n * size e := by
      have : (j + 1) * size e ≤ n * size e := Nat.mul_le_mul_right _ hj
      rwa [Nat.add_mul, Nat.one_mul] at this
    apply List.ext_getElem?
    intro i
    unfold seg
    rw [List.getElem?_take]
    split
    · rename_i hi
      rw [List.getElem?_drop]
      simp only [Array.toList_map, Array.toList_range, List.getElem?_map]
      rw [List.getElem?_range (by omega)]
      simp only [Option.map_some, List.size_toArray, zcells_length]
      have : (j * size e + i) % size e = i := by rw [Nat.add_comm, Nat.add_mul_mod_self_right, Nat.mod_eq_of_lt hi]
      rw [this]
      have hi' : i < (zcells e).length := by rw [zcells_length]; exact hi
      rw [List.getElem?_eq_getElem hi']
      simp [hi']
    · rename_i hi
      rw [List.getElem?_eq_none (by rw [zcells_length]; omega)]
  rw [this]
  exact zero_rd w I e
end
end Go.Ev
/- Struct and slice literals; make. -/
namespace Go.Ev
section
variable {P : Program} {tt : Nat → Option Ty} {F : Fr} {S : AState} {a : Act} {w : World} {C : Conc}

theorem fillF_ok {I : Nat → Prop} {L M : Look} (hM : ∀ g o, L g = some o → M g = some o ∧ ObjR w I M C g o) {T : Ty} {f : Operand → AV} {ev : Operand → Value} {place : Nat → Option (Nat × Nat)}
    (hp : ∀ i U o, fldTy i T = some U → offF i T = some o → place i = some (o, size U)) :
    ∀ (l : List (Nat × Operand)) (acc v : AV) (cells : Array Value), fillF L T (l.map fun p => (p.1, f p.2)) acc = some v → (∀ p ∈ l, AVR w I M C (f p.2) (ev p.2)) → shp acc T → AVL w I M C acc cells.toList →
      ∃ cells', Instr.fill place cells (l.map fun p => (p.1, ev p.2)) = some cells' ∧ shp v T ∧ AVL w I M C v cells'.toList ∧ ∀ g ∈ ids v, g ∈ ids acc ∨ ∃ p ∈ l, g ∈ ids (f p.2) := by
  intro l
  induction l with
  | nil =>
    intro acc v cells h _ hs hc
    simp only [List.map_nil, fillF, Option.some.injEq] at h
    subst h
    exact ⟨cells, rfl, hs, hc, fun g hg => .inl hg⟩
  | cons p l ih =>
    intro acc v cells h hv hs hc
    simp only [List.map_cons, fillF] at h
    split at h
    · rename_i U hU
      cases hf : fits L (f p.2) U with
      | false => rw [hf] at h; cases h
      | true =>
        rw [hf, cond_true] at h
        split at h
        · rename_i acc' hacc
          obtain ⟨o, ho, hle⟩ := fldTy_off hU
          obtain ⟨vs, hcv, hve, hl⟩ := AVR_cells (fits_shp hf) (hv p (by simp))
          have h1 := fits_one hM hf hcv
          have hcells : (ev p.2).cells = vs.toArray := by rw [hve]; exact cells_ofC hl h1
          obtain ⟨s1, s2, s3⟩ := setFld_cells (w := w) (I := I) (L := M) (C := C) hs hU ho (fits_shp hf) hacc
          have hcl := AVL.length hc
          rw [shp_size hs] at hcl
          simp only [Array.length_toList] at hcl
          obtain ⟨cells', k1, k2, k3, k4⟩ := ih acc' v (splice cells.toList o vs).toArray h (fun q hq => hv q (by simp [hq])) s1 (by simpa using s3 _ _ hc hcv)
          refine ⟨cells', ?_, k2, k3, fun g hg => ?_⟩
          · simp only [List.map_cons]
            rw [fill_step (hp _ _ _ hU ho) (by rw [hcells]; simpa using hl) (by omega), hcells, List.toList_toArray]
            exact k1
          · rcases k4 g hg with hg | ⟨q, hq, hg⟩
            · rcases s2 g hg with hg | hg
              · exact .inl hg
              · exact .inr ⟨p, by simp, hg⟩
            · exact .inr ⟨q, by simp [hq], hg⟩
        · cases h
    · cases h
theorem zipmap {l : List (Nat × Operand)} {f : Operand → AV} : (l.map (·.1)).zip ((l.map (·.2)).map f) = l.map fun p => (p.1, f p.2) := by
  induction l with
  | nil => rfl
  | cons p l ih => simp only [List.map_cons, List.zip_cons_cons, ih]
theorem FieldsR_all : ∀ {fs : List Field} {T : Ty} {o : Nat}, FieldsR tt fs T o → ∀ f ∈ fs, ∃ U, tt f.type = some U := by
  intro fs
  induction fs with
  | nil => intro T o _ f hf; cases hf
  | cons g fs ih =>
    intro T o h f hf
    cases T with
    | pair x y =>
      obtain ⟨_, h2, h3⟩ := h
      rcases List.mem_cons.1 hf with rfl | hf
      · exact ⟨x, h2⟩
      · exact ih h3 f hf
    | _ => exact h.elim
theorem buildS_ok (hT : TOK P tt) (hs : Sim F S a w C) {L : Look} (hL : ∀ g o, L g = some o → S.obj g = some o) {t : TypeId} {T : Ty} (ht : tt t = some T) {parts : Array (Nat × Operand)} {v : AV}
    (hag : T = .unit ∨ ∃ x y, T = .pair x y) (h : fillF L T ((parts.toList.map (·.1)).zip ((parts.toList.map (·.2)).map S.opnd)) (zav T) = some v) :
    ValOK P F S a w (Instr.build t (parts.map fun (i, x) => (i, a.eval x))) v [] [] := by
  rw [zipmap] at h
  obtain ⟨fs, hu, hfr⟩ : ∃ fs, P.underlying t = some (.struct fs) ∧ FieldsR tt fs.toList T 0 := by
    have := hT.und t T ht
    rcases hag with rfl | ⟨x, y, rfl⟩ <;> exact this
  have hag' : isAgg T = true := by rcases hag with rfl | ⟨x, y, rfl⟩ <;> rfl
  have hplaces : (fs.mapM fun f => do pure (f.offset, ← sizeOf f.type) : Sem _).run P w = .ok (fs.map fun f => (f.offset, size ((tt f.type).getD .unit))) w := by
    refine run_mapM_arr fun f hf => ?_
    obtain ⟨U, hU⟩ := FieldsR_all hfr f hf
    simp [sizeOf_ok hT hU, hU]
  obtain ⟨cells', k1, k2, k3, k4⟩ := fillF_ok (w := w) (I := Imm F w S C) (C := C) (M := S.obj) (fun g o hg => ⟨hL g o hg, hs.obj g o (hL g o hg)⟩) (T := T) (f := S.opnd) (ev := a.eval)
    (place := fun i => (fs.map fun f => (f.offset, size ((tt f.type).getD .unit)))[i]?) (fun i U o hU ho => by
      obtain ⟨f, j1, j2, j3⟩ := FieldsR_get hfr hU ho
      have j1' : fs[i]? = some f := by simpa using j1
      simp [j1', j2, j3]) parts.toList (zav T) v (zcells T).toArray h (fun p _ => (opnd_rep hs p.2).1) (zav_shp T) (by simpa using zav_rd w _ _ _ T)
  refine ValOK.pure hs (x := .agg cells') ?_ ?_ (fun g hg => ?_)
  · have e1 : (parts.map fun (i, x) => (i, a.eval x)).toList = parts.toList.map fun p => (p.1, a.eval p.2) := by simp
    unfold Instr.build
    simp only [Sem.run_bind, zeroValue_ok hT ht, Result.andThen_ok, run_underlying hu, hplaces, e1]
    rw [cells_ofC (zcells_length T) (zcells_one T), k1]
    rfl
  · have := AVR_of_cells k2 k3
    rw [hag'] at this
    simpa [ofC] using this
  · rcases k4 g hg with hg | ⟨p, _, hg⟩
    · rw [zav_ids] at hg; cases hg
    · exact (opnd_rep hs p.2).2 g hg
theorem buildA_ok (hT : TOK P tt) (hs : Sim F S a w C) {L : Look} (hL : ∀ g o, L g = some o → S.obj g = some o) {t : TypeId} {n : Nat} {e : Ty} (ht : tt t = some (.arr n e)) {parts : Array (Nat × Operand)} {xs : List (den e)}
    (hid : (((parts.toList.map (·.2)).map S.opnd).flatMap ids).isEmpty = true) (h : elems L e ((parts.toList.map (·.1)).zip ((parts.toList.map (·.2)).map S.opnd)) (List.replicate n (zero e)) = some xs) :
    ValOK P F S a w (Instr.build t (parts.map fun (i, x) => (i, a.eval x))) (.val (.arr n e) xs) [] [] := by
  rw [zipmap] at h
  obtain ⟨te, hu, hte⟩ := hT.und t _ ht
  have hz := zero_rd w (Imm F w S C) (.arr n e)
  have hz' := hz
  simp only [RdL] at hz'
  obtain ⟨cells', k1, k2, k3, k4⟩ := elems_ok (w := w) (I := Imm F w S C) (C := C) (M := S.obj) (fun g o hg => ⟨hL g o hg, hs.obj g o (hL g o hg)⟩) (f := S.opnd) (ev := a.eval) (gs := []) parts.toList _ xs (zcells (.arr n e)).toArray h
    (fun p _ => (opnd_rep hs p.2).1) (fun p hp g hg => by
      rw [List.isEmpty_iff, List.flatMap_eq_nil_iff] at hid
      have := hid (S.opnd p.2) (List.mem_map.2 ⟨p.2, List.mem_map.2 ⟨p, hp, rfl⟩, rfl⟩)
      rw [this] at hg; exact hg) (by simp [zcells_length, size]) (fun j hj => by
      have := hz'.2.2 j (by simpa [zero] using hj)
      simp only [List.toList_toArray]
      refine RdL.mono (fun b hb => ⟨.inl hb, rfl⟩) ?_
      simpa [zero] using this)
  refine ValOK.pure hs (x := .agg cells') ?_ ?_ (fun g hg => by simp [ids] at hg)
  · have e1 : (parts.map fun (i, x) => (i, a.eval x)).toList = parts.toList.map fun p => (p.1, a.eval p.2) := by simp
    unfold Instr.build
    simp only [Sem.run_bind, zeroValue_ok hT ht, Result.andThen_ok, run_underlying hu, sizeOf_ok hT hte, e1]
    rw [cells_ofC (zcells_length (.arr n e)) (zcells_one (.arr n e)), k1]
    rfl
  · refine AVR_of_cells (T := .arr n e) (a := .val (.arr n e) xs) (cs := cells'.toList) rfl ?_ |> fun h => by simpa [ofC, isAgg] using h
    simp only [AVL, RdL]
    refine ⟨by simpa using k2, by simpa using k3, fun j hj => ?_⟩
    refine RdL.mono (fun b hb => ⟨?_, rfl⟩) (k4 j hj)
    rcases hb with hb | ⟨g, hg, _⟩
    · exact hb
    · cases hg

/-- A new row. -/
theorem row_ok (hs : Sim F S a w C) {t : TypeId} {e : Ty} {g : Nat} (hg : S.used g = false) {xs : List (den e)} {cells : Array Value} {w' : World} {cap : Nat} (hw : Ext (fun _ => False) w w') (hh : w'.heap = w.heap.push (.cells cells t))
    (hcap : xs.length ≤ cap) (hbig : xs.length ≤ big) (hsz : cap * size e ≤ cells.size) (hr : ∀ j (hj : j < xs.length), RdL w (Imm F w S C) e (xs[j]'hj) (seg cells.toList (j * size e) (size e))) (nn : Bool)
    {s : Sem Value} (hrun : s.run P w = .ok (.slice (some ⟨w.heap.size, 0, none⟩) xs.length cap) w') :
    ValOK P F S a w s (.row g) [(g, some (.row e nn xs))] [g] := by
  have key := Sim.alloc hs hg (o := .row e nn xs) hw hh (.slice (some ⟨w.heap.size, 0, none⟩) xs.length cap) (fun hi => ?_) (fun T' c' e k hk => by cases e)
  · refine ⟨_, _, _, hrun, key.1, ⟨_, ⟨_, rfl, fun _ => (put_ρ _ _ _ _).symm⟩, rfl⟩, fun k hk => ?_⟩
    simp only [ids, List.mem_singleton] at hk
    subst hk
    simp [AState.upd]
  · refine ⟨hbig, .inr ⟨w.heap.size, 0, cap, cells, t, put_ρ _ _ _ _, hcap, put_β _ _ _ _, by rw [hh]; simp, by omega, fun j hj => ?_⟩⟩
    rw [Nat.zero_add]
    exact RdL.mono hi (hr j hj)
theorem ValOK.after {S' : AState} {u u' : Upd} {nw nw' : List Nat} {v : AV} {s : Sem Value} (e : S' = S.upd u nw) (h : ValOK P F S' a w s v u' nw') : ValOK P F S a w s v (u' ++ u) (nw' ++ nw) := by
  have : ∀ {x : AState}, x = S' → (S.upd (u' ++ u) (nw' ++ nw)) = x.upd u' nw' := by
    intro x hx
    subst hx
    rw [e]
    unfold AState.upd
    congr 1
    · funext g
      simp only [assoc_append]
      cases assoc u' g <;> rfl
    · funext g
      simp only [List.elem_eq_mem, List.mem_append, Bool.decide_or, Bool.or_assoc]
  unfold ValOK
  rw [this rfl]
  exact h
theorem rdv_ids {L : Look} : ∀ {v : AV} {t : Ty} {x : den t}, rdv L v t = some x → ∀ g ∈ ids v, ∃ o, L g = some o ∧ rowTy (some o) ≠ none := by
  intro v
  induction v with
  | val u y => intro t x _ g hg; simp [ids] at hg
  | nil => intro t x _ g hg; simp [ids] at hg
  | unit => intro t x _ g hg; simp [ids] at hg
  | row k =>
    intro t x h g hg
    simp only [ids, List.mem_singleton] at hg
    subst hg
    cases t with
    | slice e =>
      simp only [rdv] at h
      cases hk : L g with
      | none => rw [hk] at h; cases h
      | some o =>
        rw [hk] at h
        cases o with
        | box T c => cases h
        | row _ _ _ => exact ⟨_, rfl, by simp [rowTy]⟩
        | frz _ _ => exact ⟨_, rfl, by simp [rowTy]⟩
    | _ => simp [rdv] at h
  | view k lo hi =>
    intro t x h g hg
    simp only [ids, List.mem_singleton] at hg
    subst hg
    cases t with
    | slice e =>
      simp only [rdv] at h
      cases hk : L g with
      | none => rw [hk] at h; cases h
      | some o =>
        rw [hk] at h
        cases o with
        | box T c => cases h
        | row _ _ _ => exact ⟨_, rfl, by simp [rowTy]⟩
        | frz _ _ => exact ⟨_, rfl, by simp [rowTy]⟩
    | _ => simp [rdv] at h
  | pair x y ihx ihy =>
    intro t z h g hg
    cases t with
    | pair u v =>
      simp only [rdv] at h
      cases hp : rdv L x u with
      | none => simp [hp] at h
      | some p =>
        cases hq : rdv L y v with
        | none => simp [hp, hq] at h
        | some q =>
          simp only [ids, List.mem_append] at hg
          rcases hg with hg | hg
          · exact ihx hp g hg
          · exact ihy hq g hg
    | _ => simp [rdv] at h
  | _ => intro t x h g hg; cases t <;> simp [rdv] at h
end
end Go.Ev
/- Slice literals, make, stores. -/
namespace Go.Ev
section
variable {P : Program} {tt : Nat → Option Ty} {F : Fr} {S : AState} {a : Act} {w : World} {C : Conc}

theorem Sim.frz' (h : Sim F S a w C) {fz : Bool} (hF : fz = true → ∀ b, ¬ F.Mr b) {L : Look} (hL : ∀ g o, L g = some o → S.obj g = some o) (gs : List Nat) (ok : okFz fz (frzs L gs) = true) :
    Sim F (S.upd (frzs L gs) []) a w (C.frz (frzs L gs)) ∧ (∀ b, Imm F w S C b → Imm F w (S.upd (frzs L gs) []) (C.frz (frzs L gs)) b ∧ w.heap[b]? = w.heap[b]?) ∧
      (∀ g ∈ gs, ∀ t nn xs, L g = some (.row t nn xs) → ∀ b ∈ C.β g, Imm F w (S.upd (frzs L gs) []) (C.frz (frzs L gs)) b) := by
  rw [okFz, Bool.or_eq_true] at ok
  rcases ok with ok | ok
  · exact Sim.frz h (hF ok) hL gs
  · rw [List.isEmpty_iff] at ok
    have e2 : C.frz [] = C := rfl
    refine ⟨by rw [ok, e2]; exact h, fun b hb => ⟨by rw [ok, e2]; exact hb, rfl⟩, fun g hg t nn xs hr => ?_⟩
    have := frzs_some hg hr
    rw [ok] at this
    cases this
/-- What may be read of values whose rows are fixed. -/
theorem IP_imm (h : Sim F S a w C) {fz : Bool} (hF : fz = true → ∀ b, ¬ F.Mr b) {L : Look} (hL : ∀ g o, L g = some o → S.obj g = some o) {gs : List Nat} (ok : okFz fz (frzs L gs) = true)
    (hr : ∀ g ∈ gs, ∃ o, L g = some o ∧ rowTy (some o) ≠ none) {b : Nat} (hb : IP (Imm F w S C) C gs b) : Imm F w (S.upd (frzs L gs) []) (C.frz (frzs L gs)) b := by
  obtain ⟨_, h2, h3⟩ := Sim.frz' h hF hL gs ok
  rcases hb with hb | ⟨g, hg, hb⟩
  · exact (h2 b hb).1
  · obtain ⟨o, ho, hrt⟩ := hr g hg
    cases o with
    | box T c => simp [rowTy] at hrt
    | row t nn xs => exact h3 g hg t nn xs ho b hb
    | frz t xs =>
      have := (h.obj g _ (hL g _ ho)).1
      rw [this] at hb; cases hb
theorem elems_rdv {L : Look} {e : Ty} {f : Operand → AV} : ∀ (l : List (Nat × Operand)) (acc xs : List (den e)), elems L e (l.map fun p => (p.1, f p.2)) acc = some xs → ∀ p ∈ l, ∃ x, rdv L (f p.2) e = some x := by
  intro l
  induction l with
  | nil => intro acc xs _ p hp; cases hp
  | cons q l ih =>
    intro acc xs h p hp
    simp only [List.map_cons, elems] at h
    cases hb : Nat.blt q.1 acc.length with
    | false => rw [hb] at h; cases h
    | true =>
      rw [hb, cond_true] at h
      split at h
      · rename_i x hx
        rcases List.mem_cons.1 hp with rfl | hp
        · exact ⟨x, hx⟩
        · exact ih _ _ h p hp
      · cases h
theorem frz_used {L : Look} {gs : List Nat} (k : Nat) : (S.upd (frzs L gs) []).used k = S.used k := rfl
theorem buildSlice_ok (hT : TOK P tt) (hs : Sim F S a w C) {fz : Bool} (hF : fz = true → ∀ b, ¬ F.Mr b) {L : Look} (hL : ∀ g o, L g = some o → S.obj g = some o) {t n : Nat} {e : Ty} (ht : tt t = some (.slice e)) {parts : Array (Nat × Operand)} {xs : List (den e)} {g : Nat} (hg : S.used g = false)
    (hn : n * size e ≤ 16777216) (hbn : n ≤ big) (ok : okFz fz (frzs L (((parts.toList.map (·.2)).map S.opnd).flatMap ids)) = true)
    (h : elems L e ((parts.toList.map (·.1)).zip ((parts.toList.map (·.2)).map S.opnd)) (List.replicate n (zero e)) = some xs) :
    ValOK P F S a w (Instr.buildSlice t n (parts.map fun (i, x) => (i, a.eval x))) (.row g) ((g, some (.row e true xs)) :: frzs L (((parts.toList.map (·.2)).map S.opnd).flatMap ids)) [g] := by
  rw [zipmap] at h
  obtain ⟨te, hu, hte⟩ := hT.und t _ ht
  generalize hgs : ((parts.toList.map (·.2)).map S.opnd).flatMap ids = gs at ok
  have hmem : ∀ p ∈ parts.toList, ∀ k ∈ ids (S.opnd p.2), k ∈ gs := by
    intro p hp k hk
    rw [← hgs, List.mem_flatMap]
    exact ⟨S.opnd p.2, List.mem_map.2 ⟨p.2, List.mem_map.2 ⟨p, hp, rfl⟩, rfl⟩, hk⟩
  have hrow : ∀ k ∈ gs, ∃ o, L k = some o ∧ rowTy (some o) ≠ none := by
    intro k hk
    rw [← hgs, List.mem_flatMap] at hk
    obtain ⟨v, hv, hk⟩ := hk
    obtain ⟨q, hq, rfl⟩ := List.mem_map.1 hv
    obtain ⟨p, hp, rfl⟩ := List.mem_map.1 hq
    obtain ⟨x, hx⟩ := elems_rdv _ _ _ h p hp
    exact rdv_ids hx k hk
  obtain ⟨hz1, hz2⟩ := zeros_rd w (IP (Imm F w S C) C gs) e n (zcells e).toArray rfl
  obtain ⟨cells', k1, k2, k3, k4⟩ := elems_ok (w := w) (I := Imm F w S C) (C := C) (M := S.obj) (fun g o hg => ⟨hL g o hg, hs.obj g o (hL g o hg)⟩) (f := S.opnd) (ev := a.eval) (gs := gs) parts.toList _ xs _ h
    (fun p _ => (opnd_rep hs p.2).1) hmem (by rw [hz1]; simp) (fun j hj => by
      have := hz2 j (by simpa using hj)
      simpa using this)
  have hlen : xs.length = n := by rw [k2]; simp
  obtain ⟨s1, s2, _⟩ := Sim.frz' hs hF hL gs ok
  have key := row_ok (P := P) s1 (t := te) (e := e) (g := g) (by rw [frz_used]; exact hg) (xs := xs) (cells := cells') (w' := w.alloc (.cells cells' te)) (cap := n) (ext_alloc w _) rfl (by omega) (by omega) (by rw [k3]; simp)
    (fun j hj => RdL.mono (fun b hb => ⟨IP_imm hs hF hL ok hrow hb, rfl⟩) (k4 j hj)) true (s := Instr.buildSlice t n (parts.map fun (i, x) => (i, a.eval x))) ?_
  · have := ValOK.after (S := S) rfl key
    exact this
  · have e1 : (parts.map fun (i, x) => (i, a.eval x)).toList = parts.toList.map fun p => (p.1, a.eval p.2) := by simp
    have h24 : ¬ (n * size e > 2 ^ 24) := by omega
    unfold Instr.buildSlice
    simp only [Sem.run_bind, run_underlying hu, Result.andThen_ok, sizeOf_ok hT hte, h24, if_false, e1, Sem.run_pure]
    by_cases h0 : n * size e = 0
    · have e2 : ∀ z z' : Array Value, (Array.range (n * size e)).map (fun x => z[x % z.size]!) = (Array.range (n * size e)).map (fun x => z'[x % z'.size]!) := by
        intro z z'
        rw [h0]
        simp
      rw [e2 _ (#[] : Array Value)] at k1
      simp only [h0] at k1
      simp only [h0, if_true, Sem.run_pure, Sem.run_bind, Result.andThen_ok]
      rw [k1]
      simp [newRow, hlen]
    · have e3 : (Go.zeroValue te).run P w = .ok (ofC (isAgg e) (zcells e)) w := zeroValue_ok hT hte w
      simp only [h0, if_false, Sem.run_bind, e3, Result.andThen_ok, Sem.run_pure, cells_ofC (zcells_length e) (zcells_one e), k1]
      simp [newRow, hlen]
theorem wrap64_id {n : Int} (h0 : 0 ≤ n) (h1 : n < 9223372036854775808) : IntKind.i64.wrap n = n := by
  unfold IntKind.wrap
  simp only [IntKind.bits, IntKind.signed]
  simp
  omega
theorem makeSlice_ok (hT : TOK P tt) (hs : Sim F S a w C) {t : Nat} {e : Ty} (ht : tt t = some (.slice e)) {n : Int} {xs : List (den e)} {g : Nat} (hg : S.used g = false) (h : mk n (zero e) = some xs) :
    ValOK P F S a w (Instr.makeSlice t (.int .i64 n) (.int .i64 n)) (.row g) [(g, some (.row e true xs))] [g] := by
  unfold mk at h
  split at h
  · cases h
  · rename_i h0
    split at h
    · rename_i h1
      cases h
      obtain ⟨te, hu, hte⟩ := hT.und t _ ht
      obtain ⟨i, hi, hz, hsz, hby⟩ := hT.info te e hte
      simp only [maxLen] at h1
      have hw : IntKind.i64.wrap n = n := wrap64_id (by omega) (by omega)
      obtain ⟨hz1, hz2⟩ := zeros_rd w (Imm F w S C) e n.toNat (zcells e).toArray rfl
      have hbn : ¬ ((i.bytes : Int) * n > 2 ^ 48) := by
        have : (i.bytes : Int) * n ≤ 2048 * n := Int.mul_le_mul_of_nonneg_right (by omega) (by omega)
        omega
      have key := row_ok (P := P) hs (t := te) (e := e) (g := g) hg (xs := List.replicate n.toNat (zero e)) (cells := (Array.range (n.toNat * size e)).map ((zcells e).toArray[· % (zcells e).toArray.size]!)) (cap := n.toNat)
        (ext_alloc w (.cells ((Array.range (n.toNat * size e)).map ((zcells e).toArray[· % (zcells e).toArray.size]!)) te)) rfl (by simp) (by simp [big]; omega) (by simp) (fun j hj => by
          have := hz2 j (by simpa using hj)
          simpa using this) true (s := Instr.makeSlice t (.int .i64 n) (.int .i64 n)) ?_
      · exact key
      · have e3 : (Go.zeroValue te).run P w = .ok (ofC (isAgg e) (zcells e)) w := zeroValue_ok hT hte w
        have hneg : ¬ n < 0 := by omega
        unfold Instr.makeSlice
        simp only [Sem.run_bind, run_underlying hu, Result.andThen_ok, asInt, asIntOf, Sem.run_pure, typeInfo, run_program, hi, hw, hneg, hbn, decide_false, Bool.or_false, Bool.false_eq_true, if_false, Int.lt_irrefl, gt_iff_lt, run_askRoom, sizeOf_ok hT hte]
        by_cases h2 : n.toNat * size e = 0
        · have e2 : ∀ z z' : Array Value, (Array.range (n.toNat * size e)).map (fun x => z[x % z.size]!) = (Array.range (n.toNat * size e)).map (fun x => z'[x % z'.size]!) := by
            intro z z'
            rw [h2]
            simp
          rw [e2 (zcells e).toArray (#[] : Array Value)]
          simp only [h2, if_true, Sem.run_pure, Sem.run_bind, Result.andThen_ok]
          simp [newRow]
        · simp only [h2, if_false, Sem.run_bind, e3, Result.andThen_ok, Sem.run_pure, cells_ofC (zcells_length e) (zcells_one e)]
          simp [newRow]
    · cases h
end
end Go.Ev
/- Stores. -/
namespace Go.Ev
theorem upd_upd (S : AState) (u u' : Upd) (nw nw' : List Nat) : (S.upd u nw).upd u' nw' = S.upd (u' ++ u) (nw' ++ nw) := by
  unfold AState.upd
  congr 1
  · funext g
    simp only [assoc_append]
    cases assoc u' g <;> rfl
  · funext g
    simp only [List.elem_eq_mem, List.mem_append, Bool.decide_or, Bool.or_assoc]
theorem seg_splice_in {cs vs : List Value} {o p n : Nat} (ho : o ≤ cs.length) (h : p + n ≤ vs.length) : seg (splice cs o vs) (o + p) n = seg vs p n := by
  unfold seg splice
  rw [List.append_assoc, List.drop_append, List.drop_eq_nil_of_le (by simp; omega), List.nil_append]
  have : o + p - (cs.take o).length = p := by simp; omega
  rw [this, List.drop_append_of_le_length (by omega), List.take_append_of_le_length (by simp; omega)]
/-- Cells written into a block. -/
theorem blk_store (P : Program) {w : World} {b o : Nat} {arr : Array Value} {ty : TypeId} (hb : w.heap[b]? = some (.cells arr ty (0, 0))) {vs : List Value} (hfit : o + vs.length ≤ arr.size) (h1 : ∀ v ∈ vs, v.oneCell' = true) :
    ∃ w', (storeCells ⟨b, o, none⟩ vs 0).run P w = .ok () w' ∧ w'.os = w.os ∧ w'.tape = w.tape ∧ w'.output = w.output ∧ w'.heap.size = w.heap.size ∧ (∀ k, k ≠ b → w'.heap[k]? = w.heap[k]?) ∧
      w'.heap[b]? = some (.cells (splice arr.toList o vs).toArray ty (0, 0)) := by
  refine ⟨_, run_storeCells_at P b o ty vs 0 arr w hb (by omega) h1, rfl, rfl, rfl, ?_, fun k hk => ?_, ?_⟩
  · simp [World.setRow]
  · simp [World.setRow, Array.getElem?_modify, Ne.symm hk]
  · rw [setRow_heap w b arr _ ty _ hb]
    rfl
section
variable {P : Program} {tt : Nat → Option Ty} {F : Fr} {S : AState} {a : Act} {w : World} {C : Conc}

theorem storeAt_ok (hT : TOK P tt) {t : TypeId} {T : Ty} (ht : tt t = some T) {b o : Nat} {arr : Array Value} {ty : TypeId} (hb : w.heap[b]? = some (.cells arr ty (0, 0))) {vs : List Value} (hl : vs.length = size T)
    (hfit : o + size T ≤ arr.size) (h1 : ∀ v ∈ vs, v.oneCell' = true) :
    ∃ w', (Instr.storeAt t (.pointer (some ⟨b, o, none⟩)) (ofC (isAgg T) vs)).run P w = .ok () w' ∧ w'.os = w.os ∧ w'.tape = w.tape ∧ w'.output = w.output ∧ w'.heap.size = w.heap.size ∧ (∀ k, k ≠ b → w'.heap[k]? = w.heap[k]?) ∧
      w'.heap[b]? = some (.cells (splice arr.toList o vs).toArray ty (0, 0)) := by
  obtain ⟨w', hr, hrest⟩ := blk_store P hb (o := o) (vs := vs) (by omega) h1
  refine ⟨w', ?_, hrest⟩
  have hc := cells_ofC hl h1
  simp [Instr.storeAt, Instr.sureAddr, storeVar, sizeOf_ok hT ht, hc, hl, hr]

/-- What an operation without a value does. -/
def StOK (P : Program) (F : Fr) (S : AState) (a : Act) (w : World) (s : Sem Unit) (u : Upd) : Prop :=
  ∃ w' C', s.run P w = .ok () w' ∧ Sim F (S.upd u []) a w' C'
theorem alike_upd {g : Nat} {o o' : Obj} (hg : S.obj g = some o) (hal : Alike (some o) (some o')) (k : Nat) : Alike (S.obj k) ((S.upd [(g, some o')] []).obj k) := by
  rw [upd_one]
  by_cases e : k = g
  · rw [if_pos e, e, hg]; exact hal
  · rw [if_neg e]; exact Alike.refl _
/-- Into a box: cells at a place of it. -/
theorem box_store (hT : TOK P tt) (hs : Sim F S a w C) {g : Nat} {T0 : Ty} {c c' : AV} (hg : S.obj g = some (.box T0 c)) {b o : Nat} (hρ : C.ρ g = .pointer (some ⟨b, 0, none⟩))
    {t : TypeId} {T : Ty} (ht : tt t = some T) {vs : List Value} (hl : vs.length = size T) (hfit : o + size T ≤ size T0) (h1 : ∀ v ∈ vs, v.oneCell' = true) (hsh : shp c' T0) (hid : ∀ k ∈ ids c', S.used k = true)
    (hc : ∀ cs, AVL w (Imm F w S C) S.obj C c cs → ∀ (w' : World) (I' : Nat → Prop) (L' : Look), (∀ b, Imm F w S C b → I' b ∧ w'.heap[b]? = w.heap[b]?) → (∀ k, Alike (S.obj k) (L' k)) → AVL w' I' L' C c' (splice cs o vs)) :
    StOK P F S a w (Instr.storeAt t (.pointer (some ⟨b, o, none⟩)) (ofC (isAgg T) vs)) [(g, some (.box T0 c'))] := by
  obtain ⟨b', arr, ty, k1, k2, k3, k4, k5⟩ := hs.obj g _ hg
  rw [hρ] at k1
  cases k1
  have hsz := AVL.length k4
  rw [shp_size k5, Array.length_toList] at hsz
  obtain ⟨w', hr, r1, r2, r3, r4, r5, r6⟩ := storeAt_ok (P := P) hT ht (w := w) (b := b) (o := o) k3 hl (by omega) h1
  have hal : Alike (some (.box T0 c)) (some (.box T0 c')) := ⟨.inl rfl, .inr rfl⟩
  have key := Sim.store hs hg (o' := .box T0 c') (w' := w') r1 r2 r3 r4 (fun k hk => r5 k (fun e => hk (by rw [k2, e]; simp))) hal rfl (fun hi => ?_) (fun T c'' e k hk => by cases e; exact hid k hk)
  · exact ⟨w', C, hr, key.1⟩
  · refine ⟨b, _, ty, hρ, k2, r6, ?_, hsh⟩
    rw [List.toList_toArray]
    exact hc _ k4 w' _ _ hi (alike_upd hg hal)
theorem st_some {α : Type} {xs ys : List α} {i : Int} {x : α} (h : st xs i x = some ys) : 0 ≤ i ∧ i.toNat < xs.length ∧ ys = xs.set i.toNat x := by
  unfold st at h
  split at h
  · cases h
  · split at h
    · cases h; exact ⟨by omega, by assumption, rfl⟩
    · cases h
/-- One element of a row of cells replaced. -/
theorem set_rd {w : World} {I : Nat → Prop} {e : Ty} {xs : List (den e)} {cells vs : List Value} {off n : Nat} {x : den e} (hn : n < xs.length) (hfit : off + xs.length * size e ≤ cells.length) (hl : vs.length = size e)
    (hx : RdL w I e x vs) (hr : ∀ j (hj : j < xs.length), RdL w I e (xs[j]'hj) (seg cells (off + j * size e) (size e))) :
    ∀ j (hj : j < (xs.set n x).length), RdL w I e ((xs.set n x)[j]'hj) (seg (splice cells (off + n * size e) vs) (off + j * size e) (size e)) := by
  intro j hj
  have hj0 : j < xs.length := by simpa using hj
  have hle : n * size e + size e ≤ xs.length * size e := by
    have : (n + 1) * size e ≤ xs.length * size e := Nat.mul_le_mul_right _ hn
    rwa [Nat.add_mul, Nat.one_mul] at this
  by_cases e1 : j = n
  · subst e1
    rw [seg_splice_same hl (by omega)]
    simpa using hx
  · rw [seg_splice_ne (by omega) ?_]
    · rw [List.getElem_set_ne (fun e2 => e1 e2.symm)]
      exact hr j hj0
    · rw [hl]
      rcases Nat.lt_or_gt_of_ne e1 with e2 | e2
      · left
        have : (j + 1) * size e ≤ n * size e := Nat.mul_le_mul_right _ e2
        rw [Nat.add_mul, Nat.one_mul] at this
        omega
      · right
        have : (n + 1) * size e ≤ j * size e := Nat.mul_le_mul_right _ e2
        rw [Nat.add_mul, Nat.one_mul] at this
        omega
theorem tyP_size {T U : Ty} {p : List Nat} {o : Nat} (h1 : tyP T p = some U) (h2 : offP T p = some o) : o + size U ≤ size T := by
  obtain ⟨o', h3, h4⟩ := tyP_off h1
  rw [h2] at h3
  cases h3
  exact h4
theorem storeC_ok (hT : TOK P tt) (hs : Sim F S a w C) {fz : Bool} (hF : fz = true → ∀ b, ¬ F.Mr b) {L : Look} (hL : ∀ g o, L g = some o → S.obj g = some o) {t : TypeId} {T : Ty} (ht : tt t = some T) {R : Type} {p v : AV} {vp x : Value} {K : Upd → Option R} {r : R}
    (hp : AVR w (Imm F w S C) S.obj C p vp) (hv : AVR w (Imm F w S C) S.obj C v x) (hu : ∀ g ∈ ids v, S.used g = true) (h : storeC fz L T p v K = some r) :
    ∃ u, K u = some r ∧ StOK P F S a w (Instr.storeAt t vp x) u := by
  have hM : ∀ g o, L g = some o → S.obj g = some o ∧ ObjR w (Imm F w S C) S.obj C g o := fun g o hg => ⟨hL g o hg, hs.obj g o (hL g o hg)⟩
  unfold storeC at h
  split at h
  · rename_i g path
    split at h
    · rename_i T0 c hg
      cases hf : isTy (tyP T0 path) T && fits L v T with
      | false => rw [hf] at h; cases h
      | true =>
        rw [hf, cond_true] at h
        rw [Bool.and_eq_true] at hf
        have hty := isTy_some hf.1
        split at h
        · rename_i c' hc'
          have hg' := hL g _ hg
          obtain ⟨cs, ⟨vp', rfl, hpp⟩, rfl⟩ := hp
          obtain ⟨b, o, ho, hρ, rfl⟩ := hpp T0 (by rw [hg']; rfl)
          obtain ⟨vs, hvc, rfl, hl⟩ := AVR_cells (fits_shp hf.2) hv
          obtain ⟨b', arr, ty, k1, k2, k3, k4, k5⟩ := hs.obj g _ hg'
          refine ⟨_, h, ?_⟩
          obtain ⟨s1, s2, _⟩ := setP_cells (w := w) (I := Imm F w S C) (L := S.obj) (C := C) k5 hty ho (fits_shp hf.2) hc'
          refine box_store hT hs hg' hρ ht hl (tyP_size hty ho) (fits_one hM hf.2 hvc) s1 (fun k hk => ?_) (fun cs hcs w' I' L' hI hA => ?_)
          · rcases s2 k hk with hk | hk
            · exact hs.use2 g T0 c k hg' hk
            · exact hu k hk
          · obtain ⟨_, _, s3⟩ := setP_cells (w := w') (I := I') (L := L') (C := C) k5 hty ho (fits_shp hf.2) hc'
            exact s3 _ _ (AVL.mono hI (fun k _ => ⟨hA k, rfl⟩) hcs) (AVL.mono hI (fun k _ => ⟨hA k, rfl⟩) hvc)
        · cases h
    · cases h
  · rename_i g path n e i
    split at h
    · rename_i T0 c hg
      split at h
      · rename_i m u xs hc
        cases hf : Nat.beq n m && (u.beq e && u.beq T) && (ids v).isEmpty with
        | false => rw [hf] at h; cases h
        | true =>
          rw [hf, cond_true] at h
          simp only [Bool.and_eq_true, List.isEmpty_iff] at hf
          obtain ⟨⟨hnm, hue, huT⟩, hid⟩ := hf
          have := Nat.eq_of_beq_eq_true hnm; subst this
          have := Ty.beq_eq hue; subst this
          have := Ty.beq_eq huT; subst this
          split at h
          · rename_i x' hx'
            obtain ⟨ys, hys, h⟩ := Option.bind_eq_some_iff.1 h
            obtain ⟨i0, i1, rfl⟩ := st_some hys
            split at h
            · rename_i c' hc'
              have hg' := hL g _ hg
              obtain ⟨cs, ⟨vp', rfl, hpp⟩, rfl⟩ := hp
              obtain ⟨_, _, hty, b, o, ho, hρ, rfl⟩ := hpp T0 (by rw [hg']; rfl)
              obtain ⟨hsh, hrd⟩ := rdv_sound hM hx'
              obtain ⟨vs, hvc, rfl, hl⟩ := AVR_cells hsh hv
              have hIP : ∀ b, IP (Imm F w S C) C (ids v) b → Imm F w S C b := by
                intro b hb
                rcases hb with hb | ⟨k, hk, _⟩
                · exact hb
                · rw [hid] at hk; cases hk
              have hxr : RdL w (Imm F w S C) u x' vs := RdL.mono (fun b hb => ⟨hIP b hb, rfl⟩) (hrd vs hvc)
              obtain ⟨b', arr, ty, k1, k2, k3, k4, k5⟩ := hs.obj g _ hg'
              refine ⟨_, h, ?_⟩
              have hle : i.toNat * size u + size u ≤ n * size u := by
                have hin : i.toNat + 1 ≤ n := by omega
                have : (i.toNat + 1) * size u ≤ n * size u := Nat.mul_le_mul_right _ hin
                rwa [Nat.add_mul, Nat.one_mul] at this
              have hsz := tyP_size hty ho
              simp only [size] at hsz
              have hsv : shp (.val (.arr n u) (xs.set i.toNat x')) (.arr n u) := rfl
              obtain ⟨s1, s2, _⟩ := setP_cells (w := w) (I := Imm F w S C) (L := S.obj) (C := C) k5 hty ho hsv hc'
              refine box_store hT hs hg' hρ ht hl (by omega) (RdL.one hxr) s1 (fun k hk => ?_) (fun cs hcs w' I' L' hI hA => ?_)
              · rcases s2 k hk with hk | hk
                · exact hs.use2 g T0 c k hg' hk
                · cases hk
              · obtain ⟨U, o', g1, g2, _, _, _, g3⟩ := getP_cells (w := w) (I := Imm F w S C) (L := S.obj) (C := C) k5 hc
                rw [hty] at g1
                cases g1
                rw [ho] at g2
                cases g2
                have hlc := AVL.length hcs
                rw [shp_size k5] at hlc
                have hv1 := g3 _ hcs
                simp only [AVL, RdL, size] at hv1
                obtain ⟨v1, v2, v3⟩ := hv1
                obtain ⟨_, _, s3⟩ := setP_cells (w := w') (I := I') (L := L') (C := C) k5 hty ho hsv hc'
                rw [splice_seg (n := n * size u) (by omega) (by omega)]
                refine s3 _ _ (AVL.mono hI (fun k _ => ⟨hA k, rfl⟩) hcs) ?_
                simp only [AVL, RdL]
                have hsl : (seg cs o (n * size u)).length = n * size u := seg_length (by omega)
                refine ⟨by simpa using v1, by rw [splice_length (by omega), hsl], fun j hj => ?_⟩
                have := set_rd (off := 0) i1 (by rw [Nat.zero_add, hsl, v1]; exact Nat.le_refl _) hl hxr (fun j hj => by rw [Nat.zero_add]; exact v3 j hj) j hj
                rw [Nat.zero_add, Nat.zero_add] at this
                exact RdL.mono hI this
            · cases h
          · cases h
      · cases h
    · cases h
  · rename_i g i path
    split at h
    · rename_i u nn xs hg
      cases hf : (ids v).elem g || !(okFz fz (frzs L (ids v))) with
      | true => rw [hf] at h; cases h
      | false =>
        rw [hf, cond_false] at h
        simp only [Bool.or_eq_false_iff, Bool.not_eq_false'] at hf
        obtain ⟨hgi, hok⟩ := hf
        split at h
        · cases hub : u.beq T with
          | false => rw [hub] at h; cases h
          | true =>
            rw [hub, cond_true] at h
            have := Ty.beq_eq hub; subst this
            split at h
            · rename_i x' hx'
              obtain ⟨ys, hys, h⟩ := Option.bind_eq_some_iff.1 h
              obtain ⟨i0, i1, rfl⟩ := st_some hys
              refine ⟨_, h, ?_⟩
              have hg' := hL g _ hg
              obtain ⟨cs, ⟨vp', rfl, hpp⟩, rfl⟩ := hp
              obtain ⟨_, _, o, b, off, len, cap, ho, hρ, rfl⟩ := hpp u (by rw [hg']; rfl)
              simp only [offP, Option.some.injEq] at ho
              subst ho
              rw [Nat.add_zero]
              obtain ⟨hsh, hrd⟩ := rdv_sound hM hx'
              obtain ⟨vs, hvc, rfl, hl⟩ := AVR_cells hsh hv
              obtain ⟨f1, _, _⟩ := Sim.frz' hs hF hL (ids v) hok
              have hxr := RdL.mono (w' := w) (fun b hb => ⟨IP_imm hs hF hL hok (fun k hk => rdv_ids hx' k hk) hb, rfl⟩) (hrd vs hvc)
              have hna : assoc (frzs L (ids v)) g = none := by
                cases ha : assoc (frzs L (ids v)) g with
                | none => rfl
                | some o =>
                  obtain ⟨hgm, _⟩ := assoc_frzs ha
                  simp [hgm] at hgi
              have hg1 : (S.upd (frzs L (ids v)) []).obj g = some (.row u nn xs) := by rw [upd_obj, hna]; exact hg'
              have hob := f1.obj g _ hg1
              have hρ1 : (C.frz (frzs L (ids v))).ρ g = .slice (some ⟨b, off, none⟩) len cap := hρ
              obtain ⟨hbig, hob⟩ := hob
              rcases hob with ⟨hn, _⟩ | ⟨b', off', cap', arr, ty, k1, k2, k3, k4, k5, k6⟩
              · rw [hρ1] at hn; cases hn
              · rw [hρ1] at k1
                cases k1
                have hle : i.toNat * size u + size u ≤ xs.length * size u := by
                  have : (i.toNat + 1) * size u ≤ xs.length * size u := Nat.mul_le_mul_right _ i1
                  rwa [Nat.add_mul, Nat.one_mul] at this
                have hle2 : xs.length * size u ≤ cap * size u := Nat.mul_le_mul_right _ k2
                obtain ⟨w', hr, r1, r2, r3, r4, r5, r6⟩ := storeAt_ok (P := P) hT ht (w := w) (b := b) (o := off + i.toNat * size u) k4 hl (by omega) (RdL.one hxr)
                have hal : Alike (some (.row u nn xs)) (some (.row u nn (xs.set i.toNat x'))) := ⟨.inr ⟨rfl, by simp [rowLen]⟩, .inl rfl⟩
                have key := Sim.store f1 hg1 (o' := .row u nn (xs.set i.toNat x')) (w' := w') r1 r2 r3 r4 (fun k hk => r5 k (fun e => hk (by rw [k3, e]; simp))) hal rfl (fun hi => ?_) (fun T c'' e k hk => by cases e)
                · refine ⟨w', C.frz (frzs L (ids v)), hr, ?_⟩
                  have e := upd_upd S (frzs L (ids v)) [(g, some (.row u nn (xs.set i.toNat x')))] [] []
                  have := key.1
                  rw [e] at this
                  exact this
                · refine ⟨by simpa using hbig, .inr ⟨b, off, cap, _, ty, by simpa using hρ1, by simpa using k2, k3, r6, by rw [List.size_toArray, splice_length (by simp; omega)]; simpa using k5, fun j hj => ?_⟩⟩
                  rw [List.toList_toArray]
                  exact RdL.mono hi (set_rd i1 (by simp; omega) hl hxr k6 j hj)
            · cases h
        · cases h
    · cases h
  · cases h
end
end Go.Ev
/- Slices as they are read; append. -/
namespace Go.Ev
section
variable {P : Program} {tt : Nat → Option Ty} {F : Fr} {S : AState} {a : Act} {w : World} {C : Conc}

/-- A slice whose elements lie in memory; the block itself may be the call's own. -/
def SlR (w : World) (I : Nat → Prop) (e : Ty) (xs : List (den e)) (v : Value) : Prop :=
  xs.length ≤ big ∧ ((xs = [] ∧ ∃ A cap, v = .slice A 0 cap) ∨ ∃ b off cap arr ty fr, v = .slice (some ⟨b, off, none⟩) xs.length cap ∧ xs.length ≤ cap ∧ w.heap[b]? = some (.cells arr ty fr) ∧ off + xs.length * size e ≤ arr.size ∧
    ∀ j (h : j < xs.length), RdL w I e (xs[j]'h) (seg arr.toList (off + j * size e) (size e)))
theorem SlR.of_rd {I : Nat → Prop} {e : Ty} {xs : List (den e)} {v : Value} (h : RdL w I (.slice e) xs [v]) : SlR w I e xs v := by
  simp only [RdL] at h
  obtain ⟨u, hu, hb, h⟩ := h
  simp only [List.cons.injEq, and_true] at hu
  subst hu
  refine ⟨hb, ?_⟩
  rcases h with ⟨rfl, A, cap, rfl⟩ | ⟨b, off, cap, rfl, hc, h⟩
  · exact .inl ⟨rfl, A, cap, rfl⟩
  · rcases Nat.eq_zero_or_pos xs.length with h0 | h0
    · exact .inl ⟨List.eq_nil_of_length_eq_zero h0, _, cap, by rw [h0]⟩
    · obtain ⟨_, arr, ty, fr, h1, h2, h3⟩ := h h0
      exact .inr ⟨b, off, cap, arr, ty, fr, rfl, hc, h1, h2, h3⟩
theorem SlR.of_row {I : Nat → Prop} {M : Look} {g : Nat} {e : Ty} {nn : Bool} {xs : List (den e)} (h : ObjR w I M C g (.row e nn xs)) : SlR w I e xs (C.ρ g) := by
  obtain ⟨hb, h⟩ := h
  refine ⟨hb, ?_⟩
  rcases h with ⟨h1, h2, _⟩ | ⟨b, off, cap, arr, ty, h1, h2, h3, h4, h5, h6⟩
  · exact .inl ⟨h2, none, 0, h1⟩
  · have : xs.length * size e ≤ cap * size e := Nat.mul_le_mul_right _ h2
    exact .inr ⟨b, off, cap, arr, ty, _, h1, h2, h4, by omega, h6⟩
theorem SlR.sub {I : Nat → Prop} {e : Ty} {xs : List (den e)} {A : Option Addr} {len cap lo hi : Nat} (h : SlR w I e xs (.slice A len cap)) (h1 : lo ≤ hi) (h2 : hi ≤ xs.length) :
    SlR w I e ((xs.take hi).drop lo) (.slice (if cap = lo then A else A.map (·.add (lo * size e))) (hi - lo) (cap - lo)) := by
  obtain ⟨hb, h⟩ := h
  have hlen : ((xs.take hi).drop lo).length = hi - lo := by simp; omega
  refine ⟨by omega, ?_⟩
  rcases Nat.eq_zero_or_pos (hi - lo) with h0 | h0
  · exact .inl ⟨List.eq_nil_of_length_eq_zero (by omega), _, _, by rw [h0]⟩
  · rcases h with ⟨rfl, _⟩ | ⟨b, off, cap', arr, ty, fr, h3, h4, h5, h6, h7⟩
    · simp at h2; omega
    · cases h3
      have hne : ¬ cap = lo := by omega
      refine .inr ⟨b, off + lo * size e, cap - lo, arr, ty, fr, ?_, by omega, h5, ?_, fun j hj => ?_⟩
      · rw [if_neg hne, hlen]
        simp [add_lit]
      · rw [hlen, Nat.sub_mul]
        have : hi * size e ≤ xs.length * size e := Nat.mul_le_mul_right _ h2
        have : lo * size e ≤ hi * size e := Nat.mul_le_mul_right _ h1
        omega
      · have hj' : lo + j < xs.length := by omega
        have := h7 (lo + j) hj'
        have e1 : ((xs.take hi).drop lo)[j]'hj = xs[lo + j]'hj' := by simp
        rw [e1]
        rw [Nat.add_mul, ← Nat.add_assoc] at this
        exact this
theorem rdv_slice {I : Nat → Prop} {L M : Look} (hM : ∀ g o, L g = some o → M g = some o ∧ ObjR w I M C g o) {x : AV} {vx : Value} {e : Ty} {ys : List (den e)} (hx : AVR w I M C x vx) (h : rdv L x (.slice e) = some ys) : SlR w I e ys vx := by
  cases x with
  | val u y =>
    obtain ⟨e1, rfl⟩ := toD_some (by simpa only [rdv] using h)
    subst e1
    obtain ⟨cs, hcs, rfl⟩ := hx
    have hcs' := hcs
    simp only [AVL, RdL] at hcs'
    obtain ⟨v, rfl, _⟩ := hcs'
    exact SlR.of_rd hcs
  | nil =>
    simp only [rdv, Option.some.injEq] at h
    subst h
    rw [AVR_nil.1 hx]
    exact ⟨by simp, .inl ⟨rfl, _, _, rfl⟩⟩
  | row g =>
    simp only [rdv] at h
    obtain ⟨cs, ⟨v0, rfl, hv⟩, rfl⟩ := hx
    split at h
    · rename_i u nn xs hg
      obtain ⟨e1, rfl⟩ := toL_some h
      subst e1
      obtain ⟨hm, ho⟩ := hM g _ hg
      have : vx = C.ρ g := hv (by rw [hm]; simp [rowTy])
      rw [this]
      exact SlR.of_row ho
    · rename_i u xs hg
      obtain ⟨e1, rfl⟩ := toL_some h
      subst e1
      obtain ⟨hm, ho⟩ := hM g _ hg
      have : vx = C.ρ g := hv (by rw [hm]; simp [rowTy])
      rw [this]
      exact SlR.of_rd ho.2
    · cases h
  | view g lo hi =>
    simp only [rdv] at h
    obtain ⟨cs, ⟨v0, rfl, hv⟩, rfl⟩ := hx
    split at h
    · rename_i u nn xs hg
      obtain ⟨e1, rfl⟩ := toL_some h
      subst e1
      obtain ⟨hm, ho⟩ := hM g _ hg
      obtain ⟨q0, q1, q2, A, m, cap, q3, q4⟩ := hv u (by rw [hm]; rfl)
      rw [hm] at q2
      simp only [rowLen] at q2
      subst q4
      have := SlR.of_row ho
      rw [q3] at this
      exact SlR.sub this (by omega) (by omega)
    · rename_i u xs hg
      obtain ⟨e1, rfl⟩ := toL_some h
      subst e1
      obtain ⟨hm, ho⟩ := hM g _ hg
      obtain ⟨q0, q1, q2, A, m, cap, q3, q4⟩ := hv u (by rw [hm]; rfl)
      rw [hm] at q2
      simp only [rowLen] at q2
      subst q4
      have := SlR.of_rd ho.2
      rw [q3] at this
      exact SlR.sub this (by omega) (by omega)
    · cases h
  | _ => simp [rdv] at h

theorem seg_byte (l : List Value) {j : Nat} (h : j < l.length) : seg l j 1 = [l[j]'h] := by
  unfold seg
  rw [List.drop_eq_getElem_cons h]
  rfl
/-- What an append reads. -/
theorem src_slice {I : Nat → Prop} {u te : TypeId} (hu : P.underlying u = some (.slice te)) {e : Ty} {ys : List (den e)} {vx : Value} (h : SlR w I e ys vx) :
    ∃ news, Src P (size e) u vx ys.length news w ∧ ∀ j (hj : j < ys.length), RdL w I e (ys[j]'hj) (seg news (j * size e) (size e)) := by
  obtain ⟨hb, h⟩ := h
  rcases h with ⟨rfl, A, cap, rfl⟩ | ⟨b, off, cap, arr, ty, fr, rfl, h1, h2, h3, h4⟩
  · refine ⟨[], ?_, fun j hj => by simp at hj⟩
    cases A with
    | none => exact Src.ofNil w hu cap
    | some A => exact Src.ofSlice w hu A 0 cap [] (by simp) (fun j u h => by simp at h) (fun u h => by cases h)
  · have hl : (seg arr.toList off (ys.length * size e)).length = ys.length * size e := seg_length (by simpa using h3)
    have hseg : ∀ j (hj : j < ys.length), RdL w I e (ys[j]'hj) (seg (seg arr.toList off (ys.length * size e)) (j * size e) (size e)) := by
      intro j hj
      have : (j + 1) * size e ≤ ys.length * size e := Nat.mul_le_mul_right _ hj
      rw [Nat.add_mul, Nat.one_mul] at this
      rw [seg_seg this]
      exact h4 j hj
    refine ⟨_, Src.ofSlice w hu ⟨b, off, none⟩ ys.length cap _ hl (fun j v hv => ?_) (fun v hv => ?_), hseg⟩
    · rw [add_lit, cell_block h2]
      have := (seg_get hv).1
      simpa using this
    · obtain ⟨k, hk, rfl⟩ := List.mem_iff_getElem.1 hv
      have hpos : 0 < size e := by
        rcases Nat.eq_zero_or_pos (size e) with h0 | h0
        · rw [hl, h0] at hk; simp at hk
        · exact h0
      have hj : k / size e < ys.length := by rw [Nat.div_lt_iff_lt_mul hpos]; omega
      have hr := hseg _ hj
      refine RdL.one hr _ ?_
      have hm : k % size e < size e := Nat.mod_lt _ hpos
      have e1 : k / size e * size e + k % size e = k := by rw [Nat.mul_comm]; exact Nat.div_add_mod k (size e)
      refine List.mem_iff_getElem?.2 ⟨k % size e, ?_⟩
      have hq : (seg (seg arr.toList off (ys.length * size e)) (k / size e * size e) (size e))[k % size e]? = (seg arr.toList off (ys.length * size e))[k / size e * size e + k % size e]? := by
        generalize seg arr.toList off (ys.length * size e) = l
        unfold seg
        rw [List.getElem?_take, if_pos hm, List.getElem?_drop]
      rw [hq, e1, List.getElem?_eq_getElem hk]
theorem rdSrc_ok (hT : TOK P tt) {I : Nat → Prop} {L M : Look} (hM : ∀ g o, L g = some o → M g = some o ∧ ObjR w I M C g o) {u : TypeId} {e : Ty} {x : AV} {vx : Value} {ys : List (den e)} (hx : AVR w I M C x vx) (h : rdSrc tt L u e x = some ys) :
    ∃ news, Src P (size e) u vx ys.length news w ∧ ∀ j (hj : j < ys.length), RdL w I e (ys[j]'hj) (seg news (j * size e) (size e)) := by
  unfold rdSrc at h
  split at h
  · rename_i y ht
    obtain ⟨e1, rfl⟩ := toL_some h
    subst e1
    have hu := hT.und u _ ht
    simp only [UndR] at hu
    obtain ⟨s, rfl, rfl, hs⟩ := AVR_str.1 hx
    refine ⟨byteCells s, ?_, fun j hj => ?_⟩
    · have := Src.ofString (P := P) w hu s
      rw [← bytesL_length s] at this
      exact this
    · have hj' : j < (byteCells s).length := by rw [byteCells_length, ← bytesL_length]; exact hj
      simp only [size, Nat.mul_one]
      rw [seg_byte _ hj']
      simp only [RdL, byteCells, bytesL, List.getElem_map, true_and]
      show (decide ((0 : Int) ≤ _) && decide (_ ≤ (255 : Int))) = true
      rw [Bool.and_eq_true, decide_eq_true_eq, decide_eq_true_eq]
      have := (s.data.toList[j]'(by simpa [byteCells] using hj')).toNat_lt
      omega
  · rename_i t0 y ht
    obtain ⟨te, hu, _⟩ := hT.und u _ ht
    exact src_slice hu (rdv_slice hM hx h)
  · cases h
end
end Go.Ev
/- append: the row goes over into a new object. -/
namespace Go.Ev
section
variable {P : Program} {tt : Nat → Option Ty} {F : Fr} {S : AState} {a : Act} {w : World} {C : Conc}

/-- An object that nobody reads any more. -/
theorem Sim.kill (h : Sim F S a w C) (g : Nat) : Sim F (S.upd [(g, none)] []) a w C ∧ ∀ b, Imm F w S C b → Imm F w (S.upd [(g, none)] []) C b ∧ w.heap[b]? = w.heap[b]? := by
  have hne : ∀ k, (S.upd [(g, none)] []).obj k ≠ none → S.obj k ≠ none ∧ k ≠ g := by
    intro k hk
    rw [upd_one] at hk
    by_cases e : k = g
    · rw [if_pos e] at hk; exact absurd rfl hk
    · rw [if_neg e] at hk; exact ⟨hk, e⟩
  refine Sim.upd h [(g, none)] [] w C (fun k hk => rfl) (fun k hk => ?_) (Ext.refl _ w) (fun b hb => ⟨fun k hk => hb.2.2 k (hne k hk).1, rfl⟩) (fun k ok hk hak => ⟨rfl, fun b hb => rfl⟩)
    (fun hi k ok hk => ?_) (fun k hk => h.nod k (hne k hk).1) (fun k l b hk hl hbk hbl => h.sep k l b (hne k hk).1 (hne l hl).1 hbk hbl) (fun k b hk hbk => ?_) (fun k T c l hk hl => ?_) (fun k ok hk => ?_)
  · rw [upd_one]
    by_cases e : k = g
    · rw [if_pos e]; exact Alike.gone _
    · rw [if_neg e]; exact Alike.refl _
  · rw [assoc_one] at hk; split at hk <;> cases hk
  · have := h.own k b (hne k hk).1 hbk
    rw [upd_one, if_neg (hne k hk).2]
    exact this
  · rw [assoc_one] at hk; split at hk <;> cases hk
  · rw [assoc_one] at hk; split at hk <;> cases hk
theorem assoc_two {d g h : Nat} {o o' : Option Obj} : assoc [(d, o), (g, o')] h = if h = d then some o else if h = g then some o' else none := by
  have : assoc [(d, o), (g, o')] h = bif Nat.beq h d then some o else assoc [(g, o')] h := rfl
  rw [this, assoc_one]
  by_cases e : h = d
  · subst e; simp
  · have hb : Nat.beq h d = false := by
      cases hb : Nat.beq h d
      · rfl
      · exact absurd (Nat.eq_of_beq_eq_true hb) e
    rw [hb, if_neg e]
    rfl
/-- An object that changes and takes a new number. -/
theorem Sim.move (h : Sim F S a w C) {g d : Nat} {o o' : Obj} (hg : S.obj g = some o) (hd : S.used d = false) {w' : World} (hos : w'.os = w.os) (hta : w'.tape = w.tape) (hou : w'.output = w.output) (hsz : w'.heap.size = w.heap.size)
    (hsame : ∀ b, b ∉ C.β g → w'.heap[b]? = w.heap[b]?) (hM : F.M (some o) = F.M (some o')) (v : Value)
    (ho : (∀ b, Imm F w S C b → Imm F w' (S.upd [(d, some o'), (g, none)] [d]) (C.put d v (C.β g)) b ∧ w'.heap[b]? = w.heap[b]?) →
      ObjR w' (Imm F w' (S.upd [(d, some o'), (g, none)] [d]) (C.put d v (C.β g))) (S.upd [(d, some o'), (g, none)] [d]).obj (C.put d v (C.β g)) d o')
    (hbox : ∀ T c, o' ≠ .box T c) :
    Sim F (S.upd [(d, some o'), (g, none)] [d]) a w' (C.put d v (C.β g)) ∧ ∀ b, Imm F w S C b → Imm F w' (S.upd [(d, some o'), (g, none)] [d]) (C.put d v (C.β g)) b ∧ w'.heap[b]? = w.heap[b]? := by
  have hg' : S.obj g ≠ none := by rw [hg]; simp
  have hug := h.use3 g hg'
  have hdg : d ≠ g := fun e => by rw [e, hug] at hd; cases hd
  have hob : ∀ k, (S.upd [(d, some o'), (g, none)] [d]).obj k = if k = d then some o' else if k = g then none else S.obj k := by
    intro k
    rw [upd_obj, assoc_two]
    by_cases e : k = d
    · simp [e]
    · by_cases e' : k = g
      · rw [if_neg e, if_pos e', if_neg e, if_pos e']
      · rw [if_neg e, if_neg e', if_neg e, if_neg e']
  have hne : ∀ k, (S.upd [(d, some o'), (g, none)] [d]).obj k ≠ none → k = d ∨ (k ≠ d ∧ k ≠ g ∧ S.obj k ≠ none) := by
    intro k hk
    rw [hob] at hk
    by_cases e : k = d
    · exact .inl e
    · rw [if_neg e] at hk
      by_cases e' : k = g
      · rw [if_pos e'] at hk; exact absurd rfl hk
      · rw [if_neg e'] at hk; exact .inr ⟨e, e', hk⟩
  refine Sim.upd h [(d, some o'), (g, none)] [d] w' (C.put d v (C.β g)) (fun k hk => put_ρ_ne _ _ _ (fun e => by subst e; rw [hd] at hk; cases hk)) (fun k hk => ?_)
    (⟨hos, hta, hou, Nat.le_of_eq hsz.symm, fun b hb hn => hsame b (fun hm => hn ⟨g, hg', hm⟩)⟩) (fun b hb => ⟨fun k hk => ?_, hsame b (hb.2.2 g hg')⟩)
    (fun k ok hk hak => ?_) (fun hi k ok hk => ?_) (fun k hk => ?_) (fun k l b hk hl hbk hbl => ?_) (fun k b hk hbk => ?_) (fun k T c l hk hl => ?_) (fun k ok hk => ?_)
  · rw [hob]
    have : k ≠ d := fun e => by subst e; rw [hd] at hk; cases hk
    rw [if_neg this]
    by_cases e : k = g
    · rw [if_pos e]; exact Alike.gone _
    · rw [if_neg e]; exact Alike.refl _
  · rcases hne k hk with rfl | ⟨e1, e2, e3⟩
    · rw [put_β]; exact hb.2.2 g hg'
    · rw [put_β_ne _ _ _ e1]; exact hb.2.2 k e3
  · rw [assoc_two] at hak
    have e1 : k ≠ d := fun e => by rw [if_pos e] at hak; cases hak
    have e2 : k ≠ g := fun e => by rw [if_neg e1, if_pos e] at hak; cases hak
    rw [put_β_ne _ _ _ e1]
    exact ⟨rfl, fun b hb => hsame b (fun hm => e2 (h.sep k g b (by rw [hk]; simp) hg' hb hm))⟩
  · rw [assoc_two] at hk
    by_cases e : k = d
    · rw [if_pos e] at hk
      cases hk
      rw [e]
      exact ho hi
    · rw [if_neg e] at hk
      split at hk <;> cases hk
  · rcases hne k hk with rfl | ⟨e1, e2, e3⟩
    · rw [put_β]; exact h.nod g hg'
    · rw [put_β_ne _ _ _ e1]; exact h.nod k e3
  · rcases hne k hk with rfl | ⟨e1, e2, e3⟩
    · rcases hne l hl with rfl | ⟨f1, f2, f3⟩
      · rfl
      · rw [put_β] at hbk
        rw [put_β_ne _ _ _ f1] at hbl
        exact absurd (h.sep l g b f3 hg' hbl hbk) f2
    · rw [put_β_ne _ _ _ e1] at hbk
      rcases hne l hl with rfl | ⟨f1, f2, f3⟩
      · rw [put_β] at hbl
        exact absurd (h.sep k g b e3 hg' hbk hbl) e2
      · rw [put_β_ne _ _ _ f1] at hbl
        exact h.sep k l b e3 f3 hbk hbl
  · rw [hsz, hob]
    rcases hne k hk with rfl | ⟨e1, e2, e3⟩
    · rw [put_β] at hbk
      have := h.own g b hg' hbk
      rw [hg, hM] at this
      rw [if_pos rfl]
      exact this
    · rw [put_β_ne _ _ _ e1] at hbk
      rw [if_neg e1, if_neg e2]
      exact h.own k b e3 hbk
  · rw [assoc_two] at hk
    split at hk
    · cases hk; exact absurd rfl (hbox T c)
    · split at hk <;> cases hk
  · rw [assoc_two] at hk
    split at hk
    · rename_i e; subst e; simp [AState.upd]
    · split at hk <;> cases hk
/-- A row that is nil. -/
theorem nil_row (hs : Sim F S a w C) {e : Ty} {d : Nat} (hd : S.used d = false) {s : Sem Value} (hr : s.run P w = .ok (.slice none 0 0) w) : ValOK P F S a w s (.row d) [(d, some (.row e false []))] [d] := by
  have h0 := hs.none_of_new hd
  have hne : ∀ k, (S.upd [(d, some (.row e false []))] [d]).obj k ≠ none → k = d ∨ (k ≠ d ∧ S.obj k ≠ none) := by
    intro k hk
    rw [upd_one] at hk
    by_cases e : k = d
    · exact .inl e
    · rw [if_neg e] at hk; exact .inr ⟨e, hk⟩
  have key := Sim.upd hs [(d, some (.row e false []))] [d] w (C.put d (.slice none 0 0) []) (fun k hk => put_ρ_ne _ _ _ (fun e => by subst e; rw [hd] at hk; cases hk)) (fun k hk => ?_)
    (Ext.refl _ w) (fun b hb => ⟨fun k hk => ?_, rfl⟩) (fun k ok hk hak => ?_) (fun hi k ok hk => ?_) (fun k hk => ?_) (fun k l b hk hl hbk hbl => ?_) (fun k b hk hbk => ?_) (fun k T c l hk hl => ?_) (fun k ok hk => ?_)
  · refine ⟨_, _, _, hr, key.1, ⟨_, ⟨_, rfl, fun _ => (put_ρ _ _ _ _).symm⟩, rfl⟩, fun k hk => ?_⟩
    simp only [ids, List.mem_singleton] at hk
    subst hk
    simp [AState.upd]
  · rw [upd_one, if_neg (fun e => by subst e; rw [hd] at hk; cases hk)]
    exact Alike.refl _
  · rcases hne k hk with rfl | ⟨e1, e3⟩
    · rw [put_β]; simp
    · rw [put_β_ne _ _ _ e1]; exact hb.2.2 k e3
  · have e1 : k ≠ d := fun e => by rw [e, h0] at hk; cases hk
    rw [put_β_ne _ _ _ e1]
    exact ⟨rfl, fun b hb => rfl⟩
  · rw [assoc_one] at hk
    split at hk
    · rename_i e; subst e; cases hk
      exact ⟨by simp, .inl ⟨put_ρ _ _ _ _, rfl, rfl, put_β _ _ _ _⟩⟩
    · cases hk
  · rcases hne k hk with rfl | ⟨e1, e3⟩
    · rw [put_β]; simp
    · rw [put_β_ne _ _ _ e1]; exact hs.nod k e3
  · rcases hne k hk with rfl | ⟨e1, e3⟩
    · rw [put_β] at hbk; cases hbk
    · rcases hne l hl with rfl | ⟨f1, f3⟩
      · rw [put_β] at hbl; cases hbl
      · rw [put_β_ne _ _ _ e1] at hbk
        rw [put_β_ne _ _ _ f1] at hbl
        exact hs.sep k l b e3 f3 hbk hbl
  · rcases hne k hk with rfl | ⟨e1, e3⟩
    · rw [put_β] at hbk; cases hbk
    · rw [put_β_ne _ _ _ e1] at hbk
      rw [upd_one, if_neg e1]
      exact hs.own k b e3 hbk
  · rw [assoc_one] at hk
    split at hk <;> cases hk
  · rw [assoc_one] at hk
    split at hk
    · rename_i e; subst e; simp [AState.upd]
    · cases hk

theorem append_rd {I : Nat → Prop} {e : Ty} {xs ys : List (den e)} {olds news rest : List Value} (ho : olds.length = xs.length * size e) (hn : news.length = ys.length * size e)
    (h1 : ∀ j (h : j < xs.length), RdL w I e (xs[j]'h) (seg olds (j * size e) (size e))) (h2 : ∀ j (h : j < ys.length), RdL w I e (ys[j]'h) (seg news (j * size e) (size e))) :
    ∀ j (h : j < (xs ++ ys).length), RdL w I e ((xs ++ ys)[j]'h) (seg (olds ++ news ++ rest) (j * size e) (size e)) := by
  intro j hj
  rw [List.length_append] at hj
  by_cases hjx : j < xs.length
  · have hle : (j + 1) * size e ≤ xs.length * size e := Nat.mul_le_mul_right _ hjx
    rw [Nat.add_mul, Nat.one_mul] at hle
    have e1 : seg (olds ++ news ++ rest) (j * size e) (size e) = seg olds (j * size e) (size e) := by
      unfold seg
      rw [List.append_assoc, List.drop_append_of_le_length (by omega), List.take_append_of_le_length (by simp; omega)]
    rw [e1, List.getElem_append_left hjx]
    exact h1 j hjx
  · have hjy : j - xs.length < ys.length := by omega
    have hle : (j - xs.length + 1) * size e ≤ ys.length * size e := Nat.mul_le_mul_right _ hjy
    rw [Nat.add_mul, Nat.one_mul] at hle
    have hjm : j * size e = olds.length + (j - xs.length) * size e := by
      rw [ho, ← Nat.add_mul]
      congr 1
      omega
    have e1 : seg (olds ++ news ++ rest) (j * size e) (size e) = seg news ((j - xs.length) * size e) (size e) := by
      rw [hjm]
      unfold seg
      rw [List.append_assoc, List.drop_append, List.drop_eq_nil_of_le (by omega), List.nil_append, Nat.add_sub_cancel_left, List.drop_append_of_le_length (by omega), List.take_append_of_le_length (by simp; omega)]
    rw [e1, List.getElem_append_right (by omega)]
    exact h2 _ hjy
theorem ext_drew_alloc (w : World) (o : Go.Obj) : Ext (fun _ => False) w (w.drew.alloc o) := ⟨rfl, rfl, rfl, by show w.heap.size ≤ (w.heap.push o).size; simp, fun b hb _ => heap_alloc_old w o b hb⟩
/-- append into a new block. -/
theorem grow_ok (hT : TOK P tt) (hs : Sim F S a w C) {d : Nat} (hd : S.used d = false) {t u ty : TypeId} {e : Ty} (ht : tt t = some (.slice e)) {xs ys : List (den e)} {base : Option Addr} {cap : Nat} {olds news : List Value} {vx : Value}
    (hold : (Builtin.firstCells (size e) xs.length (.slice base xs.length cap)).run P w.drew = .ok olds.toArray w.drew) (holdl : olds.length = xs.length * size e) (ho : ∀ j (h : j < xs.length), RdL w (Imm F w S C) e (xs[j]'h) (seg olds (j * size e) (size e)))
    (hsrc : Src P (size e) u vx ys.length news w) (hn : ∀ j (h : j < ys.length), RdL w (Imm F w S C) e (ys[j]'h) (seg news (j * size e) (size e)))
    (hg : cap < xs.length + ys.length) (hmax : xs.length + ys.length < maxLen) (nn : Bool) :
    ValOK P F S a w (Builtin.append_ #[t, u] ty #[.slice base xs.length cap, vx]) (.row d) [(d, some (.row e nn (xs ++ ys)))] [d] := by
  obtain ⟨te, hu, hte⟩ := hT.und t _ ht
  obtain ⟨i, hi, hz, hsz, hby⟩ := hT.info te e hte
  have hfit : (xs.length + ys.length) * i.bytes ≤ 140737488355328 := by
    have := Nat.mul_le_mul (Nat.le_of_lt hmax) hby
    simp only [maxLen] at this
    omega
  simp only [maxLen] at hmax
  have hrun := run_append_grow_src (P := P) w t u ty te i _ hu hi hz base xs.length cap olds (by rw [hsz]; exact hold) vx ys.length news (by rw [hsz]; exact hsrc) hg (by omega) (growslice_fits hg hfit)
  have hnl := hsrc.newsLen
  have hzc := cells_ofC (zcells_length e) (zcells_one e)
  have key := row_ok (P := P) hs (t := te) (e := e) hd (xs := xs ++ ys) (cells := (olds ++ news).toArray ++ Builtin.zeroCells (ofC (isAgg e) (zcells e)).cells (grownCap w (xs.length + ys.length) cap te - (xs.length + ys.length)))
    (cap := grownCap w (xs.length + ys.length) cap te) (ext_drew_alloc w _) rfl (by rw [List.length_append]; exact grownCap_ge _ _ _ _) (by rw [List.length_append]; simp only [big]; omega) ?_ (fun j hj => ?_) nn
    (s := Builtin.append_ #[t, u] ty #[.slice base xs.length cap, vx]) (by rw [hrun, List.length_append])
  · exact key
  · rw [Array.size_append, size_zeroCells, hzc, List.size_toArray, List.size_toArray, List.length_append, zcells_length, holdl, hnl, ← Nat.add_mul, ← Nat.add_mul]
    have := grownCap_ge w (xs.length + ys.length) cap te
    refine Nat.mul_le_mul_right _ ?_
    omega
  · rw [Array.toList_append, List.toList_toArray]
    exact append_rd holdl hnl ho hn j hj
theorem app_some {α : Type} {xs ys zs : List α} (h : app xs ys = some zs) : xs.length + ys.length < maxLen ∧ zs = xs ++ ys := by
  unfold app at h
  split at h
  · cases h; exact ⟨by assumption, rfl⟩
  · cases h
theorem appendC_ok (hT : TOK P tt) (hs : Sim F S a w C) {L : Look} (hL : ∀ g o, L g = some o → S.obj g = some o) {ts : Array TypeId} {ty : TypeId} {d : Nat} (hd : S.used (d * 64) = false) {R : Type} {s x : AV} {vs vx : Value} {K : OpK R} {r : R}
    (hsv : AVR w (Imm F w S C) S.obj C s vs) (hxv : AVR w (Imm F w S C) S.obj C x vx) (h : appendC tt L d ts.toList s x K = some r) :
    ∃ v u nw, K v u nw = some r ∧ ValOK P F S a w (Builtin.append_ ts ty #[vs, vx]) v u nw := by
  have hM : ∀ g o, L g = some o → S.obj g = some o ∧ ObjR w (Imm F w S C) S.obj C g o := fun g o hg => ⟨hL g o hg, hs.obj g o (hL g o hg)⟩
  unfold appendC at h
  split at h
  · rename_i t u hts
    have hts' : ts = #[t, u] := by rw [← Array.toList_inj, hts]
    subst hts'
    split at h
    · rename_i e ht
      split at h
      · rename_i ys hy
        obtain ⟨news, hsrc, hn⟩ := rdSrc_ok (P := P) hT hM hxv hy
        obtain ⟨te, hu, hte⟩ := hT.und t _ ht
        have nilcase : ∀ {S' : AState} {C' : Conc}, Sim F S' a w C' → S'.used (d * 64) = false → (∀ b, Imm F w S C b → Imm F w S' C' b ∧ w.heap[b]? = w.heap[b]?) → ys.length < maxLen →
            ValOK P F S' a w (Builtin.append_ #[t, u] ty #[.slice none 0 0, vx]) (.row (d * 64)) [(d * 64, some (.row e false ys))] [d * 64] := by
          intro S' C' hs' hd' hI hm
          rcases Nat.eq_zero_or_pos ys.length with h0 | h0
          · have e0 := List.eq_nil_of_length_eq_zero h0
            subst e0
            refine nil_row hs' hd' ?_
            have hl := hsrc.len w
            have hc := hsrc.cells
            simp only [List.length_nil] at hl hc
            obtain ⟨i, hi, _, hsz, _⟩ := hT.info te e hte
            rcases hsrc.kind with ⟨e', hk⟩ | hk <;> simp [Builtin.append_, run_underlying hu, run_underlying hk, sizeOf, typeInfo, hi, hsz, hl, hc]
          · have := grow_ok (ty := ty) hT hs' hd' (u := u) ht (xs := []) (ys := ys) (base := none) (cap := 0) (olds := []) (news := news) (vx := vx) (by simp [run_firstCells_none]) (by simp) (fun j hj => by simp at hj) hsrc
              (fun j hj => RdL.mono hI (hn j hj)) (by simpa using h0) (by simpa using hm) false
            simpa using this
        split at h
        · obtain ⟨zs, hz, h9⟩ := Option.bind_eq_some_iff.1 h
          obtain ⟨hm, rfl⟩ := app_some hz
          rw [AVR_nil.1 hsv]
          refine ⟨_, _, _, h9, ?_⟩
          exact nilcase hs hd (fun b hb => ⟨hb, rfl⟩) (by simpa using hm)
        · rename_i g
          split at h
          · rename_i v nn xs hg
            split at h
            · rename_i xs' hxs'
              obtain ⟨e1, rfl⟩ := toL_some hxs'
              subst e1
              cases hgi : (ids x).elem g with
              | true => rw [hgi] at h; cases h
              | false =>
                rw [hgi, cond_false] at h
                obtain ⟨zs, hz, h9⟩ := Option.bind_eq_some_iff.1 h
                obtain ⟨hm, rfl⟩ := app_some hz
                dsimp only at hm h9
                refine ⟨_, _, _, h9, ?_⟩
                obtain ⟨hg', hob⟩ := hM g _ hg
                obtain ⟨cs, ⟨v0, rfl, hv⟩, hvs⟩ := hsv
                have e2 : vs = C.ρ g := by rw [hvs]; exact hv (by rw [hg']; simp [rowTy])
                obtain ⟨k1, k2⟩ := Sim.kill hs g
                have hdk : (S.upd [(g, none)] []).used (d * 64) = false := hd
                have hug := hs.use3 g (by rw [hg']; simp)
                obtain ⟨hbig, hob⟩ := hob
                rcases hob with ⟨h1, h2, h3, h4⟩ | ⟨b, off, cap, arr, tyb, h1, h2, h3, h4, h5, h6⟩
                · subst h2 h3
                  rw [e2, h1]
                  have := nilcase k1 hdk k2 (by simpa using hm)
                  have := ValOK.after (S := S) rfl this
                  simpa using this
                · rw [e2, h1]
                  by_cases hroom : xs.length + ys.length ≤ cap
                  · obtain ⟨i, hi, _, hsz, _⟩ := hT.info te v hte
                    have hfit : (xs.length + ys.length) * size v ≤ cap * size v := Nat.mul_le_mul_right _ hroom
                    rw [Nat.add_mul] at hfit
                    have hnl := hsrc.newsLen
                    have hlen : off + xs.length * size v + news.length ≤ arr.size := by omega
                    obtain ⟨w', hr, r1, r2, r3, r4, r5, r6⟩ := blk_store P h4 (o := off + xs.length * size v) (vs := news) hlen hsrc.one
                    have hcell : ∀ j, j < news.length → (w.cell? ⟨b, off + xs.length * size v + j, none⟩).isSome = true := fun j hj => by
                      rw [cell_block h4]
                      have : off + xs.length * size v + j < arr.size := by omega
                      simp [this]
                    have hfro : ∀ j, j < news.length → w.frozen? ⟨b, off + xs.length * size v + j, none⟩ = false := fun j hj => by simp [World.frozen?, h4]
                    have hst := run_storeCells_cells (P := P) b (off + xs.length * size v) news 0 w (by simpa using hcell) (by simpa using hfro) hsrc.one
                    rw [hr] at hst
                    have hw : w' = w.setCells b (off + xs.length * size v) news := by simpa using hst
                    have hrun := run_append_room_src (P := P) w t u ty te i hu hi b off xs.length cap vx ys.length news (by rw [hsz]; exact hsrc) hroom (by rw [hsz]; exact hcell) (by rw [hsz]; exact hfro)
                    rw [hsz, ← hw] at hrun
                    have key := Sim.move hs hg' hd (o' := .row v nn (xs ++ ys)) (w' := w') r1 r2 r3 r4 (fun k hk => r5 k (fun e => hk (by rw [h3, e]; simp))) rfl (.slice (some ⟨b, off, none⟩) (xs.length + ys.length) cap) (fun hi => ?_) (fun T c e => by cases e)
                    · refine ⟨_, _, _, hrun, key.1, ⟨_, ⟨_, rfl, fun _ => (put_ρ _ _ _ _).symm⟩, rfl⟩, fun k hk => ?_⟩
                      simp only [ids, List.mem_singleton] at hk
                      subst hk
                      simp [AState.upd]
                    · simp only [maxLen] at hm
                      refine ⟨by rw [List.length_append]; simp only [big]; omega, .inr ⟨b, off, cap, _, tyb, by rw [put_ρ, List.length_append], by rw [List.length_append]; exact hroom, by rw [put_β, h3], r6,
                        by rw [List.size_toArray, splice_length (by simpa using hlen)]; simpa using h5, fun j hj => ?_⟩⟩
                      rw [List.toList_toArray]
                      rw [List.length_append] at hj
                      by_cases hjx : j < xs.length
                      · have hle : (j + 1) * size v ≤ xs.length * size v := Nat.mul_le_mul_right _ hjx
                        rw [Nat.add_mul, Nat.one_mul] at hle
                        rw [List.getElem_append_left hjx, seg_splice_ne (by simpa using hlen) (.inl (by omega))]
                        exact RdL.mono hi (h6 j hjx)
                      · have hjy : j - xs.length < ys.length := by omega
                        have hle : (j - xs.length + 1) * size v ≤ ys.length * size v := Nat.mul_le_mul_right _ hjy
                        rw [Nat.add_mul, Nat.one_mul] at hle
                        have hjm : j * size v = xs.length * size v + (j - xs.length) * size v := by
                          rw [← Nat.add_mul]
                          congr 1
                          omega
                        rw [List.getElem_append_right (by omega), hjm, ← Nat.add_assoc, seg_splice_in (by simp; omega) (by omega)]
                        exact RdL.mono hi (hn _ hjy)
                  · have hle0 : xs.length * size v ≤ cap * size v := Nat.mul_le_mul_right _ h2
                    have hol : (seg arr.toList off (xs.length * size v)).length = xs.length * size v := seg_length (by simp; omega)
                    have := grow_ok (ty := ty) hT k1 hdk (u := u) ht (xs := xs) (ys := ys) (base := some ⟨b, off, none⟩) (cap := cap) (olds := seg arr.toList off (xs.length * size v)) (news := news) (vx := vx)
                      (run_firstCells_some (P := P) w.drew (size v) xs.length ⟨b, off, none⟩ xs.length cap _ hol (fun j u hu => by
                        rw [World.cell?_drew, add_lit, cell_block h4]
                        have := (seg_get hu).1
                        simpa using this)) hol (fun j hj => by
                        have hle : (j + 1) * size v ≤ xs.length * size v := Nat.mul_le_mul_right _ hj
                        rw [Nat.add_mul, Nat.one_mul] at hle
                        rw [seg_seg hle]
                        exact RdL.mono k2 (h6 j hj)) hsrc (fun j hj => RdL.mono k2 (hn j hj)) (by omega) hm nn
                    have := ValOK.after (S := S) rfl this
                    simpa using this
            · cases h
          · cases h
        · cases h
      · cases h
    · cases h
  · cases h
end
end Go.Ev
/- copy. -/
namespace Go.Ev
section
variable {P : Program} {tt : Nat → Option Ty} {F : Fr} {S : AState} {a : Act} {w : World} {C : Conc}
theorem addr_add_zero (A : Addr) : A.add 0 = A := by simp [Addr.add]
theorem SlR.val {I : Nat → Prop} {e : Ty} {ys : List (den e)} {v : Value} (h : SlR w I e ys v) : ∃ A cap, v = .slice A ys.length cap := by
  rcases h.2 with ⟨rfl, A, cap, rfl⟩ | ⟨b, off, cap, arr, ty, fr, rfl, _⟩
  · exact ⟨A, cap, rfl⟩
  · exact ⟨_, cap, rfl⟩
theorem first_ok {I : Nat → Prop} {u te : TypeId} (hu : P.underlying u = some (.slice te)) {e : Ty} {ys : List (den e)} {vx : Value} (h : SlR w I e ys vx) {n : Nat} (hn : n ≤ ys.length) :
    ∃ news : List Value, (Builtin.firstCells (size e) n vx).run P w = .ok news.toArray w ∧ news.length = n * size e ∧ (∀ v ∈ news, v.oneCell' = true) ∧ ∀ j (hj : j < n), RdL w I e (ys[j]'(by omega)) (seg news (j * size e) (size e)) := by
  obtain ⟨A, cap, rfl⟩ := h.val
  have h1 := SlR.sub (lo := 0) (hi := n) h (by omega) hn
  obtain ⟨news, h2, h3⟩ := src_slice hu h1
  have hl : ((ys.take n).drop 0).length = n := by simp; omega
  have e1 : (if cap = 0 then A else A.map (·.add (0 * size e))) = A := by
    split
    · rfl
    · cases A <;> simp [addr_add_zero]
  refine ⟨news, ?_, by rw [h2.newsLen, hl], h2.one, fun j hj => ?_⟩
  · have := h2.cells
    rw [e1, hl] at this
    cases A <;> exact this
  · have := h3 j (by rw [hl]; exact hj)
    simpa using this
theorem copy_len {α : Type} (xs ys : List α) : (ys.take xs.length ++ xs.drop ys.length).length = xs.length := by simp; omega
theorem copy_rd {I : Nat → Prop} {e : Ty} {xs ys : List (den e)} {cells news : List Value} {off : Nat} (hn : news.length = min ys.length xs.length * size e) (hfit : off + xs.length * size e ≤ cells.length)
    (h1 : ∀ j (h : j < xs.length), RdL w I e (xs[j]'h) (seg cells (off + j * size e) (size e)))
    (h2 : ∀ j (h : j < min ys.length xs.length), RdL w I e (ys[j]'(by omega)) (seg news (j * size e) (size e))) :
    ∀ j (h : j < (ys.take xs.length ++ xs.drop ys.length).length), RdL w I e ((ys.take xs.length ++ xs.drop ys.length)[j]'h) (seg (splice cells off news) (off + j * size e) (size e)) := by
  intro j hj
  have hj0 : j < xs.length := by rwa [copy_len] at hj
  have hmin : min ys.length xs.length * size e ≤ xs.length * size e := Nat.mul_le_mul_right _ (Nat.min_le_right _ _)
  by_cases hjn : j < min ys.length xs.length
  · have hle : (j + 1) * size e ≤ min ys.length xs.length * size e := Nat.mul_le_mul_right _ hjn
    rw [Nat.add_mul, Nat.one_mul] at hle
    have e1 : (ys.take xs.length ++ xs.drop ys.length)[j]'hj = ys[j]'(by omega) := by
      rw [List.getElem_append_left (by simp; omega)]
      simp
    rw [e1, seg_splice_in (by omega) (by omega)]
    exact h2 j hjn
  · have hle : min ys.length xs.length * size e ≤ j * size e := Nat.mul_le_mul_right _ (by omega)
    have e1 : (ys.take xs.length ++ xs.drop ys.length)[j]'hj = xs[j]'hj0 := by
      rw [List.getElem_append_right (by simp; omega)]
      rw [List.getElem_drop]
      congr 1
      simp
      omega
    rw [e1, seg_splice_ne (by omega) (.inr (by omega))]
    exact h1 j hj0
theorem mn_len {α : Type} (xs ys : List α) : mn (len ys) (len xs) = ((min ys.length xs.length : Nat) : Int) := by
  unfold mn len
  split <;> omega
theorem copy_run {ts : Array TypeId} {u te ty : TypeId} (hts : ts[0]? = some u) (hu : P.underlying u = some (.slice te)) {n m cap : Nat} {vx : Value} {e : Ty} (hsz : ∀ w : World, (Go.sizeOf te).run P w = .ok (size e) w) (hl : ∃ A c, vx = .slice A m c) {news : List Value} (hf : (Builtin.firstCells (size e) (min m n) vx).run P w = .ok news.toArray w)
    {A : Addr} {w' : World} (hst : (storeCells A news 0).run P w = .ok () w') : (Builtin.copy_ ts ty #[.slice (some A) n cap, vx]).run P w = .ok (.int .i64 (min m n : Nat)) w' := by
  obtain ⟨B, c, rfl⟩ := hl
  simp only [Nat.min_def] at hf
  simp [Builtin.copy_, hts, run_underlying hu, Builtin.lenOf, hsz, Nat.min_def, hf, hst, goInt]
theorem min_ik {m n : Nat} (h : n ≤ big) : inK .i64 ((min m n : Nat) : Int) = true := inK_len (by omega) (by omega)
theorem copyC_ok (hT : TOK P tt) (hs : Sim F S a w C) {L : Look} (hL : ∀ g o, L g = some o → S.obj g = some o) {ts : Array TypeId} {ty : TypeId} {R : Type} {s x : AV} {vs vx : Value} {K : OpK R} {r : R}
    (hsv : AVR w (Imm F w S C) S.obj C s vs) (hxv : AVR w (Imm F w S C) S.obj C x vx) (h : copyC (tyAt tt ts.toList) L s x K = some r) :
    ∃ v u nw, K v u nw = some r ∧ ValOK P F S a w (Builtin.copy_ ts ty #[vs, vx]) v u nw := by
  have hM : ∀ g o, L g = some o → S.obj g = some o ∧ ObjR w (Imm F w S C) S.obj C g o := fun g o hg => ⟨hL g o hg, hs.obj g o (hL g o hg)⟩
  obtain ⟨ts⟩ := ts
  unfold copyC at h
  split at h
  · rename_i g
    split at h
    · rename_i e nn xs hg
      cases hc : (ids x).elem g || !(isTy (tyAt tt ts) (.slice e)) with
      | true => rw [hc] at h; cases h
      | false =>
        rw [hc, cond_false] at h
        simp only [Bool.or_eq_false_iff, Bool.not_eq_false'] at hc
        obtain ⟨hgi, htx⟩ := hc
        cases ts with
        | nil => cases htx
        | cons u ts =>
          obtain ⟨te, hu, hte⟩ := hT.und u _ (isTy_some htx)
          split at h
          · rename_i ys hy
            refine ⟨_, _, _, h, ?_⟩
            obtain ⟨hg', hob⟩ := hM g _ hg
            obtain ⟨cs, ⟨v0, rfl, hv⟩, hvs⟩ := hsv
            have e2 : vs = C.ρ g := by rw [hvs]; exact hv (by rw [hg']; simp [rowTy])
            have hsl := rdv_slice hM hxv hy
            obtain ⟨news, n1, n2, n3, n4⟩ := first_ok (P := P) hu hsl (n := min ys.length xs.length) (Nat.min_le_left _ _)
            obtain ⟨hbig, hob⟩ := hob
            rw [mn_len]
            have hal : Alike (some (.row e nn xs)) (some (.row e nn (ys.take xs.length ++ xs.drop ys.length))) := ⟨.inr ⟨rfl, by simp only [rowLen, copy_len]⟩, .inl rfl⟩
            rcases hob with ⟨h1, h2, h3, h4⟩ | ⟨b, off, cap, arr, tyb, h1, h2, h3, h4, h5, h6⟩
            · subst h2 h3
              have key := Sim.store hs hg' (o' := .row e false (ys.take 0 ++ [].drop ys.length)) (w' := w) rfl rfl rfl rfl (fun k hk => rfl) hal rfl (fun hi => ?_) (fun T c e => by cases e)
              · obtain ⟨A, c, rfl⟩ := hsl.val
                refine ⟨.int .i64 (min ys.length 0 : Nat), w, C, ?_, key.1, AVR_int.2 ⟨rfl, min_ik (Nat.zero_le _)⟩, fun g hg => by simp [ids] at hg⟩
                rw [e2, h1]
                simp only [List.length_nil, Nat.min_zero] at n1
                simp [Builtin.copy_, run_underlying hu, Builtin.lenOf, sizeOf_ok hT hte, n1, goInt]
              · exact ⟨by simp, .inl ⟨h1, by simp, rfl, h4⟩⟩
            · have hle : xs.length * size e ≤ cap * size e := Nat.mul_le_mul_right _ h2
              have hmin : min ys.length xs.length * size e ≤ xs.length * size e := Nat.mul_le_mul_right _ (Nat.min_le_right _ _)
              obtain ⟨w', hr, r1, r2, r3, r4, r5, r6⟩ := blk_store P h4 (o := off) (vs := news) (by omega) n3
              have key := Sim.store hs hg' (o' := .row e nn (ys.take xs.length ++ xs.drop ys.length)) (w' := w') r1 r2 r3 r4 (fun k hk => r5 k (fun e => hk (by rw [h3, e]; simp))) hal rfl (fun hi => ?_) (fun T c e => by cases e)
              · refine ⟨_, w', C, ?_, key.1, AVR_int.2 ⟨rfl, min_ik hbig⟩, fun g hg => by simp [ids] at hg⟩
                rw [e2, h1]
                exact copy_run (by simp) hu (sizeOf_ok hT hte) hsl.val n1 hr
              · refine ⟨by rw [copy_len]; exact hbig, .inr ⟨b, off, cap, _, tyb, by rw [copy_len]; exact h1, by rw [copy_len]; exact h2, h3, r6, by rw [List.size_toArray, splice_length (by simp; omega)]; simpa using h5, fun j hj => ?_⟩⟩
                rw [List.toList_toArray]
                exact RdL.mono hi (copy_rd n2 (by simp; omega) h6 n4 j hj)
          · cases h
    · cases h
  · rename_i g p m e
    split at h
    · rename_i T c hg
      split at h
      · rename_i n u xs hc
        cases hc0 : (ids x).elem g || !(isTy (tyAt tt ts) (.slice u)) with
        | true => rw [hc0] at h; cases h
        | false =>
          rw [hc0, cond_false] at h
          simp only [Bool.or_eq_false_iff, Bool.not_eq_false'] at hc0
          obtain ⟨hgi, htx⟩ := hc0
          cases ts with
          | nil => cases htx
          | cons t ts =>
            obtain ⟨te, hu, hte⟩ := hT.und t _ (isTy_some htx)
            split at h
            · rename_i ys hy
              split at h
              · rename_i c' hc'
                cases hf : u.beq e && Nat.beq n m with
                | false => rw [hf] at h; cases h
                | true =>
                  rw [hf, cond_true] at h
                  rw [Bool.and_eq_true] at hf
                  have := Ty.beq_eq hf.1; subst this
                  have := Nat.eq_of_beq_eq_true hf.2; subst this
                  refine ⟨_, _, _, h, ?_⟩
                  rw [mn_len]
                  obtain ⟨hg', hob⟩ := hM g _ hg
                  obtain ⟨cs, ⟨v0, rfl, hpp⟩, hvs⟩ := hsv
                  obtain ⟨hty, b, o, ho, hρ, hv0⟩ := hpp T (by rw [hg']; rfl)
                  have e2 : vs = .slice (some ⟨b, o, none⟩) n n := by rw [hvs, hv0]; rfl
                  have hsl := rdv_slice hM hxv hy
                  obtain ⟨news, n1, n2, n3, n4⟩ := first_ok (P := P) hu hsl (n := min ys.length xs.length) (Nat.min_le_left _ _)
                  obtain ⟨b', arr, tyb, k1, k2, k3, k4, k5⟩ := hob
                  rw [hρ] at k1
                  cases k1
                  obtain ⟨U, o', g1, g2, _, _, _, g3⟩ := getP_cells (w := w) (I := Imm F w S C) (L := S.obj) (C := C) k5 hc
                  rw [hty] at g1
                  cases g1
                  rw [ho] at g2
                  cases g2
                  have hlc := AVL.length k4
                  rw [shp_size k5] at hlc
                  have hv1 := g3 _ k4
                  simp only [AVL, RdL, size] at hv1
                  obtain ⟨v1, v2, v3⟩ := hv1
                  have hszT := tyP_size hty ho
                  simp only [size] at hszT
                  have hmin : min ys.length xs.length * size u ≤ n * size u := Nat.mul_le_mul_right _ (by omega)
                  have hla : arr.size = size T := by simpa using hlc
                  have hsl2 : (seg arr.toList o (n * size u)).length = n * size u := seg_length (by omega)
                  have hsv : shp (.val (.arr n u) (ys.take xs.length ++ xs.drop ys.length)) (.arr n u) := rfl
                  obtain ⟨s1, s2, _⟩ := setP_cells (w := w) (I := Imm F w S C) (L := S.obj) (C := C) k5 hty ho hsv hc'
                  obtain ⟨w', hr, r1, r2, r3, r4, r5, r6⟩ := blk_store P k3 (o := o) (vs := news) (by omega) n3
                  have hal : Alike (some (.box T c)) (some (.box T c')) := ⟨.inl rfl, .inr rfl⟩
                  have key := Sim.store hs hg' (o' := .box T c') (w' := w') r1 r2 r3 r4 (fun k hk => r5 k (fun e => hk (by rw [k2, e]; simp))) hal rfl (fun hi => ?_) (fun T' c'' e k hk => ?_)
                  · refine ⟨_, w', C, ?_, key.1, AVR_int.2 ⟨rfl, ?_⟩, fun g hg => by simp [ids] at hg⟩
                    · rw [e2]
                      have n1' := n1
                      rw [v1] at n1'
                      have hh := copy_run (ts := (t :: ts).toArray) (ty := ty) (cap := n) rfl hu (sizeOf_ok hT hte) hsl.val n1' hr
                      rw [hh, v1]
                    · exact inK_len (by omega) (by have := hsl.1; omega)
                  · refine ⟨b, _, tyb, hρ, k2, r6, ?_, s1⟩
                    rw [List.toList_toArray]
                    obtain ⟨_, _, s3⟩ := setP_cells (w := w') (I := Imm F w' (S.upd [(g, some (.box T c'))] []) C) (L := (S.upd [(g, some (.box T c'))] []).obj) (C := C) k5 hty ho hsv hc'
                    have hsp := splice_seg (cs := arr.toList) (vs := news) (o := o) (n := n * size u) (p := 0) (by omega) (by omega)
                    rw [Nat.add_zero] at hsp
                    rw [hsp]
                    refine s3 _ _ (AVL.mono hi (fun k _ => ⟨alike_upd hg' hal k, rfl⟩) k4) ?_
                    simp only [AVL, RdL]
                    refine ⟨by rw [copy_len]; exact v1, by rw [splice_length (by omega), hsl2], fun j hj => ?_⟩
                    have := copy_rd (off := 0) n2 (by rw [Nat.zero_add, hsl2, v1]; exact Nat.le_refl _) (fun j hj => by rw [Nat.zero_add]; exact v3 j hj) n4 j hj
                    rw [Nat.zero_add] at this
                    exact RdL.mono hi this
                  · cases e
                    rcases s2 k hk with hk | hk
                    · exact hs.use2 g T c k hg' hk
                    · cases hk
              · cases h
            · cases h
      · cases h
    · cases h
  · cases h
end
end Go.Ev
/- An operation gives a value, a change and new objects, and hands them on. -/
namespace Go.Ev
theorem bind_nat {α β R : Type} (o : Option α) (f : α → β) (K : β → Option R) : (o.bind fun x => K (f x)) = (o.bind fun x => some (f x)).bind K := by cases o <;> rfl
theorem bind_cond {α R : Type} (b : Bool) (x y : Option α) (K : α → Option R) : (cond b x y).bind K = cond b (x.bind K) (y.bind K) := by cases b <;> rfl
theorem arithC_nat {R : Type} (op : BinOp) (k : IntKind) (a b : Int) (K : AV → Option R) : arithC op k a b K = (arithC op k a b some).bind K := by
  unfold arithC
  cases op <;> simp only [bind_cond, Option.bind_some, Option.bind_none]
theorem binC_nat {R : Type} (tx : Option Ty) (L : Look) (op : BinOp) (ns : Bool) (x y : AV) (K : AV → Option R) : binC tx L op ns x y K = (binC tx L op ns x y some).bind K := by
  unfold binC
  split
  · rw [arithC_nat]
    simp only [bind_cond, Option.bind_none]
  all_goals (repeat' split) <;> first | rfl | simp only [bind_cond, Option.bind_some, Option.bind_none]
theorem loadC_nat {R : Type} (L : Look) (T : Ty) (p : AV) (K : AV → Option R) : loadC L T p K = (loadC L T p some).bind K := by
  unfold loadC
  (repeat' split) <;> first | rfl | simp only [bind_cond, Option.bind_some, Option.bind_none, Option.bind_assoc]
  all_goals (congr 1; funext x; split <;> simp only [bind_cond, Option.bind_some, Option.bind_none])
theorem storeC_nat {R : Type} (fz : Bool) (L : Look) (T : Ty) (p v : AV) (K : Upd → Option R) : storeC fz L T p v K = (storeC fz L T p v some).bind K := by
  unfold storeC
  (repeat' split) <;> first | rfl | simp only [bind_cond, Option.bind_some, Option.bind_none, Option.bind_assoc]
  all_goals (congr 1; congr 1; funext x; split <;> simp only [bind_cond, Option.bind_some, Option.bind_none])
theorem sliceC_nat {R : Type} (tt : Nat → Option Ty) (L : Look) (t : Nat) (x : AV) (l h : Option Operand) (vs : List AV) (K : AV → Option R) : sliceC tt L t x l h vs K = (sliceC tt L t x l h vs some).bind K := by
  unfold sliceC
  (repeat' split) <;> first | rfl | simp only [bind_cond, Option.bind_some, Option.bind_none, Option.bind_assoc]
theorem indexAddrC_nat {R : Type} (tt : Nat → Option Ty) (L : Look) (t : Nat) (x : AV) (i : Int) (K : AV → Option R) : indexAddrC tt L t x i K = (indexAddrC tt L t x i some).bind K := by
  unfold indexAddrC
  (repeat' split) <;> first | rfl | simp only [bind_cond, Option.bind_some, Option.bind_none, Option.bind_assoc]
theorem fieldAddrC_nat {R : Type} (tt : Nat → Option Ty) (L : Look) (s i : Nat) (p : AV) (K : AV → Option R) : fieldAddrC tt L s i p K = (fieldAddrC tt L s i p some).bind K := by
  unfold fieldAddrC
  (repeat' split) <;> first | rfl | simp only [bind_cond, Option.bind_some, Option.bind_none, Option.bind_assoc]
theorem fieldC_nat {R : Type} (tt : Nat → Option Ty) (L : Look) (s i : Nat) (v : AV) (K : AV → Option R) : fieldC tt L s i v K = (fieldC tt L s i v some).bind K := by
  unfold fieldC
  (repeat' split) <;> first | rfl | simp only [bind_cond, Option.bind_some, Option.bind_none, Option.bind_assoc]
theorem convC_nat {R : Type} (tt : Nat → Option Ty) (L : Look) (s t : Nat) (x : AV) (K : AV → Option R) : convC tt L s t x K = (convC tt L s t x some).bind K := by
  unfold convC
  (repeat' split) <;> first | rfl | simp only [bind_cond, Option.bind_some, Option.bind_none, Option.bind_assoc]
/-- What an operation gives: its value, what changes, the new objects. -/
abbrev Out := AV × Upd × List Nat
def out3 : OpK Out := fun v u w => some (v, u, w)
def un3 {R : Type} (K : OpK R) : Out → Option R := fun p => K p.1 p.2.1 p.2.2
theorem out3_bind {R : Type} (K : OpK R) (v : AV) (u : Upd) (w : List Nat) : (out3 v u w).bind (un3 K) = K v u w := rfl
theorem appendC_nat {R : Type} (tt : Nat → Option Ty) (L : Look) (d : Nat) (ts : List Nat) (s x : AV) (K : OpK R) : appendC tt L d ts s x K = (appendC tt L d ts s x out3).bind (un3 K) := by
  unfold appendC
  (repeat' split) <;> first | rfl | simp only [bind_cond, Option.bind_some, Option.bind_none, Option.bind_assoc, out3_bind]
theorem copyC_nat {R : Type} (tx : Option Ty) (L : Look) (s x : AV) (K : OpK R) : copyC tx L s x K = (copyC tx L s x out3).bind (un3 K) := by
  unfold copyC
  (repeat' split) <;> first | rfl | simp only [bind_cond, Option.bind_some, Option.bind_none, Option.bind_assoc, out3_bind]
theorem via1 {R : Type} {A : Option AV} {K : OpK R} {fK : Option R} {f3 : Option Out} (h1 : fK = A.bind fun v => K v [] []) (h2 : f3 = A.bind fun v => out3 v [] []) : fK = f3.bind (un3 K) := by
  rw [h1, h2, Option.bind_assoc]; rfl
theorem via2 {R : Type} {A : Option Upd} {K : OpK R} {fK : Option R} {f3 : Option Out} (h1 : fK = A.bind fun u => K .dead u []) (h2 : f3 = A.bind fun u => out3 .dead u []) : fK = f3.bind (un3 K) := by
  rw [h1, h2, Option.bind_assoc]; rfl
theorem opC_nat {R : Type} (tt : Nat → Option Ty) (fz : Bool) (L : Look) (d : Nat) (o : Op) (vs : List AV) (K : OpK R) : opC tt fz L d o vs K = (opC tt fz L d o vs out3).bind (un3 K) := by
  unfold opC
  split
  all_goals first
    | rfl
    | exact appendC_nat ..
    | exact copyC_nat ..
    | exact via1 (binC_nat ..) (binC_nat ..)
    | exact via1 (convC_nat ..) (convC_nat ..)
    | exact via1 (sliceC_nat ..) (sliceC_nat ..)
    | exact via1 (fieldAddrC_nat ..) (fieldAddrC_nat ..)
    | exact via1 (indexAddrC_nat ..) (indexAddrC_nat ..)
    | exact via1 (fieldC_nat ..) (fieldC_nat ..)
    | ((repeat' split) <;> first
      | rfl
      | exact appendC_nat ..
      | exact copyC_nat ..
      | exact via1 (loadC_nat ..) (loadC_nat ..)
      | exact via1 (fieldC_nat ..) (fieldC_nat ..)
      | exact via2 (storeC_nat ..) (storeC_nat ..)
      | simp only [bind_cond, Option.bind_some, Option.bind_none, Option.bind_assoc, out3_bind])
end Go.Ev
/- Every operation that is no call of a function. -/
namespace Go.Ev
section
variable {P : Program} {tt : Nat → Option Ty} {F : Fr} {S : AState} {a : Act} {w : World} {C : Conc}

/-- What an operation does: it yields a value (or nothing), and the state is as it is told. -/
def OpDone (P : Program) (F : Fr) (S : AState) (a : Act) (w : World) (s : Sem Next) (v : AV) (u : Upd) (nw : List Nat) : Prop :=
  ∃ n x w' C', s.run P w = .ok n w' ∧ (n = .value x ∨ (n = .skip ∧ x = undef)) ∧ Sim F (S.upd u nw) a w' C' ∧ AVR w' (Imm F w' (S.upd u nw) C') (S.upd u nw).obj C' v x ∧ ∀ g ∈ ids v, (S.upd u nw).used g = true
theorem OpDone.value {s : Sem Value} {v : AV} {u : Upd} {nw : List Nat} (h : ValOK P F S a w s v u nw) : OpDone P F S a w (do pure (.value (← s))) v u nw := by
  obtain ⟨x, w', C', h1, h2, h3, h4⟩ := h
  exact ⟨.value x, x, w', C', by simp [h1], .inl rfl, h2, h3, h4⟩
theorem OpDone.unit {s : Sem Unit} {u : Upd} (h : StOK P F S a w s u) : OpDone P F S a w (do s; pure .skip) .dead u [] := by
  obtain ⟨w', C', h1, h2⟩ := h
  exact ⟨.skip, undef, w', C', by simp [h1], .inr ⟨rfl, rfl⟩, h2, trivial, fun g hg => by simp [ids] at hg⟩
theorem mxs_ok {I : Nat → Prop} {M : Look} {f : Int → Int → Int} {g : Value → Value → Sem Value} (hg : ∀ x y, (g (.int .i64 x) (.int .i64 y)).run P w = .ok (.int .i64 (f x y)) w) (hf : ∀ x y, f x y = x ∨ f x y = y) :
    ∀ (vs : List AV) (xs : List Value) (x n : Int), All2 (AVR w I M C) vs xs → inK .i64 x = true → mxs f vs x = some n → (xs.foldlM g (.int .i64 x)).run P w = .ok (.int .i64 n) w ∧ inK .i64 n = true := by
  intro vs
  induction vs with
  | nil =>
    intro xs x n h hx hm
    cases xs with
    | nil => simp only [mxs, Option.some.injEq] at hm; subst hm; exact ⟨by simp, hx⟩
    | cons _ _ => exact h.elim
  | cons v vs ih =>
    intro xs x n h hx hm
    cases xs with
    | nil => exact h.elim
    | cons y ys =>
      have hv : ∃ b : Int, v = .val (.int .i64) b := by
        cases v with
        | val t y =>
          cases t with
          | int k => cases k <;> first | exact ⟨_, rfl⟩ | simp [mxs] at hm
          | _ => simp [mxs] at hm
        | _ => simp [mxs] at hm
      obtain ⟨b, rfl⟩ := hv
      simp only [mxs] at hm
      obtain ⟨h1, h2⟩ := h
      obtain ⟨rfl, hb⟩ := AVR_int.1 h1
      have hx' : inK .i64 (f x b) = true := by rcases hf x b with e | e <;> rw [e] <;> assumption
      obtain ⟨k1, k2⟩ := ih ys (f x b) n h2 hx' hm
      exact ⟨by simp [List.foldlM_cons, hg, k1], k2⟩
theorem all2_opnds (hs : Sim F S a w C) : ∀ l : List Operand, All2 (AVR w (Imm F w S C) S.obj C) (l.map S.opnd) (l.map a.eval) := by
  intro l
  induction l with
  | nil => trivial
  | cons x l ih => exact ⟨(opnd_rep hs x).1, ih⟩
theorem tup_get {I : Nat → Prop} {M : Look} : ∀ {i : Nat} {a v : AV} {vs : List Value}, TupL w I M C a vs → fld i a = some v → ∃ x, vs[i]? = some x ∧ AV1 w I M C v x ∧ ∀ g ∈ ids v, g ∈ ids a := by
  intro i
  induction i with
  | zero =>
    intro a v vs h hf
    cases a with
    | pair x y =>
      cases vs with
      | nil => exact h.elim
      | cons z zs =>
        simp only [fld, Option.some.injEq] at hf
        subst hf
        exact ⟨z, rfl, h.1, fun g hg => by simp [ids, hg]⟩
    | unit => simp [fld] at hf
    | _ => exact (by simp only [TupL] at h)
  | succ i ih =>
    intro a v vs h hf
    cases a with
    | pair x y =>
      cases vs with
      | nil => exact h.elim
      | cons z zs =>
        simp only [fld] at hf
        obtain ⟨k, h1, h2, h3⟩ := ih h.2 hf
        exact ⟨k, by simpa using h1, h2, fun g hg => by simp [ids, h3 g hg]⟩
    | unit => simp [fld] at hf
    | _ => exact (by simp only [TupL] at h)
theorem AVR_of_AV1 {I : Nat → Prop} {M : Look} {v : AV} {x : Value} (h : AV1 w I M C v x) : AVR w I M C v x := by
  cases v with
  | dead => trivial
  | undef => obtain ⟨cs, h, _⟩ := h; exact h.elim
  | tup a => obtain ⟨cs, h, _⟩ := h; exact h.elim
  | _ => exact h
theorem out3_some {v v' : AV} {u u' : Upd} {nw nw' : List Nat} (h : out3 v u nw = some (v', u', nw')) : v = v' ∧ u = u' ∧ nw = nw' := by
  simpa [out3] using h
theorem appendC_nw {L : Look} {d : Nat} {ts : List Nat} {s x : AV} {v : AV} {u : Upd} {nw : List Nat} (h : appendC tt L d ts s x out3 = some (v, u, nw)) : nw = [d * 64] := by
  unfold appendC at h
  (repeat' split at h) <;> first
    | cases h
    | (obtain ⟨zs, _, h2⟩ := Option.bind_eq_some_iff.1 h; exact (out3_some h2).2.2.symm)
    | skip
  rw [Bool.cond_eq_ite] at h
  split at h
  · cases h
  · obtain ⟨zs, _, h2⟩ := Option.bind_eq_some_iff.1 h
    exact (out3_some h2).2.2.symm
theorem opC_ok (hT : TOK P tt) (hs : Sim F S a w C) {fz : Bool} (hF : fz = true → ∀ b, ¬ F.Mr b) {L : Look} (hL : ∀ g o, L g = some o → S.obj g = some o) {d : Nat} {o : Oper} {v : AV} {u : Upd} {nw : List Nat}
    (h : opC tt fz L d o.op ((opnds o.op).map S.opnd) out3 = some (v, u, nw)) (hnw : ∀ g ∈ nw, S.used g = false) : OpDone P F S a w (execOp a.eval o) v u nw := by
  have hM : ∀ g o, L g = some o → S.obj g = some o ∧ ObjR w (Imm F w S C) S.obj C g o := fun g o hg => ⟨hL g o hg, hs.obj g o (hL g o hg)⟩
  have hop := opnd_rep hs
  have pureV : ∀ {s : Sem Value} {v' : AV} {x : Value}, out3 v' [] [] = some (v, u, nw) → s.run P w = .ok x w → AVR w (Imm F w S C) S.obj C v' x → (∀ g ∈ ids v', S.used g = true) → OpDone P F S a w (do pure (.value (← s))) v u nw := by
    intro s v' x h1 h2 h3 h4
    obtain ⟨rfl, rfl, rfl⟩ := out3_some h1
    exact OpDone.value (ValOK.pure hs h2 h3 h4)
  obtain ⟨dst, op, type, pos, after, guard⟩ := o
  dsimp only at h
  generalize hvs : (opnds op).map S.opnd = vs at h
  unfold opC at h
  split at h
  · -- move
    rename_i x v1
    simp only [opnds, List.map_cons, List.map_nil, List.cons.injEq, and_true] at hvs
    subst hvs
    obtain ⟨rfl, rfl, rfl⟩ := out3_some h
    exact ⟨.value (a.eval x), _, w, C, by simp [execOp], .inl rfl, hs, (hop x).1, (hop x).2⟩
  · -- assign
    rename_i x v1
    simp only [opnds, List.map_cons, List.map_nil, List.cons.injEq, and_true] at hvs
    subst hvs
    obtain ⟨rfl, rfl, rfl⟩ := out3_some h
    exact ⟨.value (a.eval x), _, w, C, by simp [execOp], .inl rfl, hs, (hop x).1, (hop x).2⟩
  · -- pick, of bools
    rename_i c x y bc bx bb
    simp only [opnds, List.map_cons, List.map_nil, List.cons.injEq, and_true] at hvs
    obtain ⟨h1, h2, h3⟩ := hvs
    have k1 := (hop c).1; rw [h1] at k1
    have k2 := (hop x).1; rw [h2] at k2
    have k3 := (hop y).1; rw [h3] at k3
    obtain ⟨rfl, rfl, rfl⟩ := out3_some h
    rw [AVR_bool] at k1 k2 k3
    refine ⟨.value (.bool (cond bc bx bb)), _, w, C, by cases bc <;> simp [execOp, k1, k2, k3, asBool], .inl rfl, hs, AVR_bool.2 rfl, fun g hg => by simp [ids] at hg⟩
  · -- pick
    rename_i c x y bc v2 v3 _
    simp only [opnds, List.map_cons, List.map_nil, List.cons.injEq, and_true] at hvs
    obtain ⟨h1, rfl, rfl⟩ := hvs
    have k1 := (hop c).1; rw [h1] at k1
    rw [AVR_bool] at k1
    cases bc with
    | true =>
      obtain ⟨rfl, rfl, rfl⟩ := out3_some h
      exact ⟨.value (a.eval x), _, w, C, by simp [execOp, k1, asBool], .inl rfl, hs, (hop x).1, (hop x).2⟩
    | false =>
      obtain ⟨rfl, rfl, rfl⟩ := out3_some h
      exact ⟨.value (a.eval y), _, w, C, by simp [execOp, k1, asBool], .inl rfl, hs, (hop y).1, (hop y).2⟩
  · -- alloc
    rename_i t
    split at h
    · rename_i T ht
      obtain ⟨rfl, rfl, rfl⟩ := out3_some h
      exact OpDone.value (alloc_ok hT hs ht (hnw _ (by simp)))
    · cases h
  · -- box
    rename_i t x v1
    simp only [opnds, List.map_cons, List.map_nil, List.cons.injEq, and_true] at hvs
    subst hvs
    split at h
    · rename_i T ht
      cases hf : fits L (S.opnd x) T with
      | false => rw [hf] at h; cases h
      | true =>
        rw [hf] at h
        obtain ⟨rfl, rfl, rfl⟩ := out3_some h
        exact OpDone.value (boxop_ok hs hL (hnw _ (by simp)) hf (hop x).1 (hop x).2)
    · cases h
  · -- build
    rename_i t parts
    simp only [opnds] at hvs
    subst hvs
    split at h
    · rename_i n e ht
      cases hid : (((parts.toList.map (·.2)).map S.opnd).flatMap ids).isEmpty with
      | false => rw [hid] at h; cases h
      | true =>
        rw [hid, cond_true] at h
        split at h
        · rename_i xs hx
          obtain ⟨rfl, rfl, rfl⟩ := out3_some h
          exact OpDone.value (buildA_ok hT hs hL ht hid hx)
        · cases h
    · rename_i T hne ht
      cases hr : isRec T with
      | false => rw [hr] at h; cases h
      | true =>
        rw [hr, cond_true] at h
        have hag : T = .unit ∨ ∃ x y, T = .pair x y := by
          cases T with
          | unit => exact .inl rfl
          | pair x y => exact .inr ⟨x, y, rfl⟩
          | _ => cases hr
        split at h
        · rename_i v1 hv1
          obtain ⟨rfl, rfl, rfl⟩ := out3_some h
          exact OpDone.value (buildS_ok hT hs hL ht hag hv1)
        · cases h
    · cases h
  · -- buildSlice
    rename_i t n parts
    simp only [opnds] at hvs
    subst hvs
    split at h
    · rename_i e ht
      cases hc : Nat.ble (n * size e) 16777216 && Nat.ble n 16777216 && okFz fz (frzs L (((parts.toList.map (·.2)).map S.opnd).flatMap ids)) with
      | false => rw [hc] at h; cases h
      | true =>
        rw [hc, cond_true] at h
        simp only [Bool.and_eq_true, Nat.ble_eq] at hc
        split at h
        · rename_i xs hx
          obtain ⟨rfl, rfl, rfl⟩ := out3_some h
          exact OpDone.value (buildSlice_ok hT hs hF hL ht (hnw _ (by simp)) hc.1.1 (by simp only [big]; omega) hc.2 hx)
        · cases h
    · cases h
  · -- load
    rename_i t p v1
    simp only [opnds, List.map_cons, List.map_nil, List.cons.injEq, and_true] at hvs
    subst hvs
    split at h
    · rename_i T ht
      obtain ⟨v2, x, k1, k2, k3, k4⟩ := loadC_ok (P := P) hT hM ht (hop p).1 h
      refine pureV k1 k2 k3 (fun g hg => ?_)
      obtain ⟨b, T', c, m1, m2⟩ := k4 g hg
      exact hs.use2 b T' c g m1 m2
    · cases h
  · -- store
    rename_i t p x v1 v2
    simp only [opnds, List.map_cons, List.map_nil, List.cons.injEq, and_true] at hvs
    obtain ⟨rfl, rfl⟩ := hvs
    split at h
    · rename_i T ht
      obtain ⟨u', k1, k2⟩ := storeC_ok (P := P) hT hs hF hL ht (hop p).1 (hop x).1 (hop x).2 h
      obtain ⟨rfl, rfl, rfl⟩ := out3_some k1
      exact OpDone.unit k2
    · cases h
  · -- nilCheck
    rename_i x g p
    simp only [opnds, List.map_cons, List.map_nil, List.cons.injEq, and_true] at hvs
    split at h
    · rename_i T c hg
      obtain ⟨rfl, rfl, rfl⟩ := out3_some h
      have k1 := (hop x).1
      have k2 := (hop x).2
      rw [hvs] at k1 k2
      obtain ⟨cs, ⟨v0, rfl, hpp⟩, hx⟩ := k1
      obtain ⟨b, o, _, _, hv0⟩ := hpp T (by rw [hL g _ hg]; rfl)
      have hx' : a.eval x = .pointer (some ⟨b, o, none⟩) := by rw [hx, hv0]; rfl
      refine ⟨.value (a.eval x), _, w, C, by simp [execOp, hx'], .inl rfl, hs, ?_, k2⟩
      have k1 := (hop x).1
      rw [hvs] at k1
      exact k1
    · cases h
  · -- binOp
    rename_i op' t x y e' v1 v2
    simp only [opnds, List.map_cons, List.map_nil, List.cons.injEq, and_true] at hvs
    obtain ⟨rfl, rfl⟩ := hvs
    obtain ⟨U, z, r, k1, k2, k3, k4⟩ := binC_ok (P := P) hT hM (xo := x) (yo := y) (hop x).1 (hop y).1 (fun hn => hn) h
    refine pureV k1 k2 ⟨[r], k3, ?_⟩ (fun g hg => by simp [ids] at hg)
    simp [aggV, k4, ofC]
  · -- not
    rename_i t x b
    simp only [opnds, List.map_cons, List.map_nil, List.cons.injEq, and_true] at hvs
    have k1 := (hop x).1; rw [hvs, AVR_bool] at k1
    refine pureV h (x := .bool (!b)) ?_ (AVR_bool.2 rfl) (fun g hg => by simp [ids] at hg)
    simp [k1, Op.unary]
  · -- neg
    rename_i t x k n
    simp only [opnds, List.map_cons, List.map_nil, List.cons.injEq, and_true] at hvs
    have k1 := (hop x).1; rw [hvs, AVR_int] at k1
    refine pureV h (x := .int k (su k 0 n)) ?_ (AVR_int.2 ⟨rfl, inK_wrap _ _⟩) (fun g hg => by simp [ids] at hg)
    simp [k1.1, Op.unary, Op.intArith, su]
  · -- convert
    rename_i s t x v1
    simp only [opnds, List.map_cons, List.map_nil, List.cons.injEq, and_true] at hvs
    subst hvs
    obtain ⟨v2, y, k1, k2, k3, k4⟩ := convC_ok (P := P) hT hM (hop x).1 h
    exact pureV k1 k2 k3 (fun g hg => by rw [k4] at hg; cases hg)
  · -- makeSlice
    rename_i t l c n m
    simp only [opnds, List.map_cons, List.map_nil, List.cons.injEq, and_true] at hvs
    cases hsm : sameOpnd l c with
    | false => rw [hsm] at h; cases h
    | true =>
      rw [hsm, cond_true] at h
      split at h
      · rename_i e ht
        obtain ⟨xs, hx, h⟩ := Option.bind_eq_some_iff.1 h
        obtain ⟨rfl, rfl, rfl⟩ := out3_some h
        have k1 := (hop l).1; rw [hvs.1, AVR_int] at k1
        have k2 := (hop c).1; rw [hvs.2, AVR_int] at k2
        have hlc : a.eval l = a.eval c := by
          unfold sameOpnd at hsm
          split at hsm
          · rw [Nat.eq_of_beq_eq_true hsm]
          · rename_i k p k' p'
            have hp : p = p' := by simpa using hsm
            have j1 := k1.1; have j2 := k2.1
            simp only [Act.eval, Value.int.injEq] at j1 j2 ⊢
            exact ⟨by rw [j1.1, j2.1], hp⟩
          · cases hsm
        have := makeSlice_ok (P := P) (g := d * 64) hT hs ht (hnw _ (by simp)) hx
        have e2 : a.eval c = .int .i64 n := by rw [← hlc]; exact k1.1
        have goal := OpDone.value this
        simp only [execOp, k1.1, e2]
        exact goal
      · cases h
  · -- slice
    rename_i t x l hi v1 vs'
    simp only [opnds, List.map_cons, List.cons.injEq] at hvs
    obtain ⟨rfl, rfl⟩ := hvs
    obtain ⟨v2, y, k1, k2, k3, k4⟩ := sliceC_ok (P := P) (ev := a.eval) hT hM (hop x).1 (by
      have := all2_opnds hs (l.toList ++ hi.toList)
      cases l <;> cases hi <;> simpa using this) h
    exact pureV k1 k2 k3 (fun g hg => (hop x).2 g (k4 g hg))
  · -- fieldAddr
    rename_i s x i v1
    simp only [opnds, List.map_cons, List.map_nil, List.cons.injEq, and_true] at hvs
    subst hvs
    obtain ⟨v2, y, k1, k2, k3, k4⟩ := fieldAddrC_ok (P := P) hT hM (hop x).1 h
    exact pureV k1 k2 k3 (fun g hg => (hop x).2 g (k4 g hg))
  · -- field
    rename_i s x i v1
    simp only [opnds, List.map_cons, List.map_nil, List.cons.injEq, and_true] at hvs
    subst hvs
    obtain ⟨v2, y, k1, k2, k3, k4⟩ := fieldC_ok (P := P) hT (hop x).1 h
    exact pureV k1 k2 k3 (fun g hg => (hop x).2 g (k4 g hg))
  · -- indexAddr
    rename_i t x ix v1 i
    simp only [opnds, List.map_cons, List.map_nil, List.cons.injEq, and_true] at hvs
    obtain ⟨rfl, h2⟩ := hvs
    have k0 := (hop ix).1; rw [h2, AVR_int] at k0
    obtain ⟨v2, y, k1, k2, k3, k4⟩ := indexAddrC_ok (P := P) hT hM (hop x).1 h
    exact pureV k1 (by rw [k0.1]; exact k2) k3 (fun g hg => (hop x).2 g (k4 g hg))
  · -- index
    rename_i t x ix xs kk i
    simp only [opnds, List.map_cons, List.map_nil, List.cons.injEq, and_true] at hvs
    obtain ⟨h1, h2⟩ := hvs
    cases hty : isTy (tt t) .str with
    | false => rw [hty] at h; cases h
    | true =>
      rw [hty, cond_true] at h
      have k1 := (hop x).1; rw [h1, AVR_str] at k1
      have k2 := (hop ix).1; rw [h2, AVR_int] at k2
      obtain ⟨s, k1, rfl, hsb⟩ := k1
      obtain ⟨c, hc, h⟩ := Option.bind_eq_some_iff.1 h
      obtain ⟨i0, i1, hci⟩ := rd_some hc
      have hu := hT.und t _ (isTy_some hty)
      simp only [UndR] at hu
      have hi' : i.toNat < s.size := by rw [← bytesL_length]; exact i1
      have hget : s[i.toNat]? = some (s[i.toNat]'hi') := getElem?_pos s i.toNat hi'
      have hcv : c = ((s[i.toNat]'hi').toNat : Int) := by
        rw [← hci]
        simp only [bytesL, List.getElem_map]
        rfl
      refine pureV h (x := .int .u8 (s[i.toNat]'hi').toNat) ?_ ?_ (fun g hg => by simp [ids] at hg)
      · simp [k1, k2.1, Instr.index, asIntOf, run_underlying hu, i0, hget]
      · rw [AVR_int, hcv]
        refine ⟨rfl, ?_⟩
        have := (s[i.toNat]'hi').toNat_lt
        show (decide ((0 : Int) ≤ _) && decide (_ ≤ (255 : Int))) = true
        rw [Bool.and_eq_true, decide_eq_true_eq, decide_eq_true_eq]
        omega
  · -- extract
    rename_i x i v1
    simp only [opnds, List.map_cons, List.map_nil, List.cons.injEq, and_true] at hvs
    split at h
    · rename_i v2 hv2
      have k1 := (hop x).1
      have k2 := (hop x).2
      rw [hvs] at k1 k2
      obtain ⟨vs2, e1, k3⟩ := k1
      obtain ⟨y, j1, j2, j3⟩ := tup_get k3 hv2
      refine pureV h (x := y) ?_ (AVR_of_AV1 j2) (fun g hg => k2 g (by simpa [ids] using j3 g hg))
      simp [e1, Instr.extract, j1]
    · cases h
  · -- builtins
    rename_i c
    simp only [opnds] at hvs
    obtain ⟨callee, args, argTypes⟩ := c
    obtain ⟨args⟩ := args
    dsimp only at h hvs
    have hex : ∀ b, callee = .builtin b → (execOp a.eval ⟨dst, .call ⟨callee, ⟨args⟩, argTypes⟩, type, pos, after, guard⟩) =
        (do let d ← (Pure.pure { target := .builtin b argTypes type ((List.toArray args).map fun | .const _ => true | _ => false), args := (List.toArray args).map a.eval } : Sem Deferred); invoke d.target d.args) := by
      intro b hb
      subst hb
      rfl
    split at h
    · -- len
      rename_i x
      dsimp only at hvs
      rw [List.nil_append] at hvs
      obtain ⟨q, rfl, hq⟩ : ∃ q, args = [q] ∧ S.opnd q = x := by
        cases args with
        | nil => cases hvs
        | cons q r =>
          simp only [List.map_cons, List.cons.injEq, List.map_eq_nil_iff] at hvs
          exact ⟨q, by rw [hvs.2], hvs.1⟩
      subst hq
      split at h
      · rename_i n hn
        obtain ⟨k1, k2⟩ := lenC_ok (P := P) (ty := type) hT hM (hop q).1 hn
        have := pureV h k1 (AVR_int.2 ⟨rfl, k2⟩) (fun g hg => by simp [ids] at hg)
        rw [hex _ rfl]
        simpa [invoke, builtin] using this
      · cases h
    · -- append
      rename_i s x
      dsimp only at hvs
      rw [List.nil_append] at hvs
      obtain ⟨q, q', rfl, hq, hq'⟩ : ∃ q q', args = [q, q'] ∧ S.opnd q = s ∧ S.opnd q' = x := by
        match args, hvs with
        | [q, q'], hvs =>
          simp only [List.map_cons, List.map_nil, List.cons.injEq, and_true] at hvs
          exact ⟨q, q', rfl, hvs⟩
      subst hq hq'
      obtain ⟨v1, u1, nw1, k1, k2⟩ := appendC_ok (P := P) (ty := type) hT hs hL (hnw _ (by rw [appendC_nw h]; simp)) (hop q).1 (hop q').1 h
      obtain ⟨rfl, rfl, rfl⟩ := out3_some k1
      rw [hex _ rfl]
      simpa [invoke, builtin] using OpDone.value k2
    · -- copy
      rename_i s x
      dsimp only at hvs
      rw [List.nil_append] at hvs
      obtain ⟨q, q', rfl, hq, hq'⟩ : ∃ q q', args = [q, q'] ∧ S.opnd q = s ∧ S.opnd q' = x := by
        match args, hvs with
        | [q, q'], hvs =>
          simp only [List.map_cons, List.map_nil, List.cons.injEq, and_true] at hvs
          exact ⟨q, q', rfl, hvs⟩
      subst hq hq'
      obtain ⟨v1, u1, nw1, k1, k2⟩ := copyC_ok (P := P) (ty := type) hT hs hL (hop q).1 (hop q').1 h
      obtain ⟨rfl, rfl, rfl⟩ := out3_some k1
      rw [hex _ rfl]
      simpa [invoke, builtin] using OpDone.value k2
    · -- max
      rename_i n r
      dsimp only at hvs
      rw [List.nil_append] at hvs
      obtain ⟨q, qs, rfl, hq, rfl⟩ : ∃ q qs, args = q :: qs ∧ S.opnd q = .val (.int .i64) n ∧ qs.map S.opnd = r := by
        cases args with
        | nil => cases hvs
        | cons q qs =>
          simp only [List.map_cons, List.cons.injEq] at hvs
          exact ⟨q, qs, rfl, hvs⟩
      split at h
      · rename_i m hm
        have k1 := (hop q).1; rw [hq, AVR_int] at k1
        obtain ⟨k2, k3⟩ := mxs_ok (P := P) (w := w) (g := Builtin.max2) (f := mx) (fun x y => by simp [Builtin.max2, mx]) (fun x y => by unfold mx; split <;> simp) _ _ _ _ (all2_opnds hs qs) k1.2 hm
        have := pureV h k2 (AVR_int.2 ⟨rfl, k3⟩) (fun g hg => by simp [ids] at hg)
        rw [hex _ rfl]
        simpa [invoke, builtin, Builtin.max_, k1.1] using this
      · cases h
    · -- min
      rename_i n r
      dsimp only at hvs
      rw [List.nil_append] at hvs
      obtain ⟨q, qs, rfl, hq, rfl⟩ : ∃ q qs, args = q :: qs ∧ S.opnd q = .val (.int .i64) n ∧ qs.map S.opnd = r := by
        cases args with
        | nil => cases hvs
        | cons q qs =>
          simp only [List.map_cons, List.cons.injEq] at hvs
          exact ⟨q, qs, rfl, hvs⟩
      split at h
      · rename_i m hm
        have k1 := (hop q).1; rw [hq, AVR_int] at k1
        obtain ⟨k2, k3⟩ := mxs_ok (P := P) (w := w) (g := Builtin.min2) (f := mn) (fun x y => by simp [Builtin.min2, mn]) (fun x y => by unfold mn; split <;> simp) _ _ _ _ (all2_opnds hs qs) k1.2 hm
        have := pureV h k2 (AVR_int.2 ⟨rfl, k3⟩) (fun g hg => by simp [ids] at hg)
        rw [hex _ rfl]
        simpa [invoke, builtin, Builtin.min_, k1.1] using this
      · cases h
    · cases h
  · cases h
end
end Go.Ev
/- Regions: what one operation of a region changes. -/
namespace Go.Ev
/-! ### Results of a call are handed on -/
abbrev Out4 := AV × Upd × List Nat × Nat
def out4 : AV → Upd → List Nat → Nat → Option Out4 := fun v u w c => some (v, u, w, c)
theorem unM_nat {R : Type} : ∀ (m : Mode) (x : denM m) (b c : Nat) (K : AV → Upd → List Nat → Nat → Option R), unM m x b c K = (unM m x b c out4).bind fun p => K p.1 p.2.1 p.2.2.1 p.2.2.2 := by
  intro m
  induction m generalizing R with
  | sh t => intro x b c K; rfl
  | own e nn => intro x b c K; rfl
  | opt e => intro x b c K; cases x <;> rfl
  | unit => intro x b c K; rfl
  | pair m n ihm ihn =>
    intro x b c K
    simp only [unM]
    rw [ihm, ihm x.1 b c (fun v u w c => unM n x.2 b c fun v' u' w' c => out4 (.pair v v') (u ++ u') (w ++ w') c), Option.bind_assoc]
    congr 1
    funext p
    rw [ihn, ihn x.2 b p.2.2.2 (fun v' u' w' c => out4 (.pair p.1 v') (p.2.1 ++ u') (p.2.2.1 ++ w') c), Option.bind_assoc]
    rfl
  | pbox m ih =>
    intro x b c K
    simp only [unM]
    rw [ih, ih x b (c + 1) (fun v u w c' => bif tyOk m then out4 (.ptr (b + c) []) ((b + c, some (.box (tyM m) v)) :: u) ((b + c) :: w) c' else none), Option.bind_assoc]
    congr 1
    funext p
    cases tyOk m <;> rfl
abbrev Outs := List AV × Upd × List Nat × Nat
def outs : List AV → Upd → List Nat → Nat → Option Outs := fun v u w c => some (v, u, w, c)
theorem unMs_nat {R : Type} : ∀ (ms : List Mode) (x : denRs ms) (b c : Nat) (K : List AV → Upd → List Nat → Nat → Option R), unMs ms x b c K = (unMs ms x b c outs).bind fun p => K p.1 p.2.1 p.2.2.1 p.2.2.2
  | [], x, b, c, K => rfl
  | [m], x, b, c, K => by
    simp only [unMs]
    rw [unM_nat m x b c (fun v u w c => K [v] u w c), unM_nat m x b c (fun v u w c => outs [v] u w c), Option.bind_assoc]
    rfl
  | m :: n :: r, x, b, c, K => by
    simp only [unMs]
    rw [unM_nat m x.1 b c (fun v u w c => unMs (n :: r) x.2 b c fun vs u' w' c => K (v :: vs) (u ++ u') (w ++ w') c),
      unM_nat m x.1 b c (fun v u w c => unMs (n :: r) x.2 b c fun vs u' w' c => outs (v :: vs) (u ++ u') (w ++ w') c), Option.bind_assoc]
    congr 1
    funext p
    rw [unMs_nat (n :: r) x.2 b p.2.2.2 (fun vs u' w' c => K (p.1 :: vs) (p.2.1 ++ u') (p.2.2.1 ++ w') c), unMs_nat (n :: r) x.2 b p.2.2.2 (fun vs u' w' c => outs (p.1 :: vs) (p.2.1 ++ u') (p.2.2.1 ++ w') c), Option.bind_assoc]
    rfl
theorem callC_nat {R : Type} (fz : Bool) (fns : Nat → Option Sig) (k : Nat) (L : Look) (d : Nat) (vs : List AV) (K : OpK R) : callC fz fns k L d vs K = (callC fz fns k L d vs out3).bind (un3 K) := by
  unfold callC
  (repeat' split) <;> first | rfl | skip
  rename_i as _ sg _ _ x o s _
  rw [bind_cond, Option.bind_assoc]
  congr 1
  congr 1
  funext y
  rw [unMs_nat, unMs_nat (sg.res ++ outM sg.ps) y (d * 64) 0 (fun vs u w _ => out3 (oneV sg.res vs) _ w), Option.bind_assoc]
  rfl
theorem stepC_nat {R : Type} (tt : Nat → Option Ty) (fz : Bool) (fns : Nat → Option Sig) (k d : Nat) (o : Oper) (S : AState) (vs : List AV) (K : OpK R) : stepC tt fz fns k d o S vs K = (stepC tt fz fns k d o S vs out3).bind (un3 K) := by
  unfold stepC
  split
  · split
    · exact callC_nat ..
    · exact opC_nat ..
  · exact opC_nat ..

/-! ### What one operation changes -/
structure Dl where
  dst : Option Nat
  v : AV
  u : Upd
  w : List Nat
  ft : Foot
def Dl.app (δ : Dl) (S : AState) : AState := (S.upd δ.u δ.w).put δ.dst δ.v
structure REnv where
  tt : Nat → Option Ty
  fz : Bool
  fns : Nat → Option Sig
  k : Nat
  n : Nat
  rid : Nat
  all : List Oper
def skipD (e : REnv) (i : Nat) (o : Oper) : Option Dl := bif inB e.n o.dst then some ⟨o.dst, .undef, [], [], ⟨i, guardT e.all o, [], o.dst.toList, []⟩⟩ else none
def runD (e : REnv) (i : Nat) (o : Oper) (S : AState) : Option Dl :=
  (stepC e.tt e.fz e.fns e.k (dstOf e.rid i o) o S ((opnds o.op).map S.opnd) out3).bind fun p =>
    bif inB e.n o.dst && (nodupB p.2.2 && p.2.2.all (fun g => !(S.used g))) then
      some ⟨o.dst, p.1, p.2.1, p.2.2, ⟨i, guardT e.all o ++ tmpsOf (opnds o.op), depsO o.op S ((opnds o.op).map S.opnd), o.dst.toList, p.2.1.map (·.1) ++ p.2.2⟩⟩ else none
def stepG (e : REnv) (i : Nat) (o : Oper) (S : AState) : Option Dl :=
  match o.guard with
  | none => runD e i o S
  | some (j, want) => match (e.all[j]?).bind (·.dst) with
    | some t => match S.tmp t with
      | .val .bool c => bif c == want then runD e i o S else skipD e i o
      | .undef => skipD e i o
      | _ => none
    | none => skipD e i o
theorem set_self (S : AState) (t : Nat) (v : AV) (h : S.tmp t = v) : S.set t v = S := by
  unfold AState.set
  have : (fun i => bif Nat.beq i t then v else S.tmp i) = S.tmp := by
    funext i
    cases hb : Nat.beq i t with
    | false => rfl
    | true => rw [Nat.eq_of_beq_eq_true hb, h]; rfl
  rw [this]
theorem guardC_eq {R : Type} (e : REnv) (i : Nat) (o : Oper) (S : AState) (skip run : AState → Option R) (K : Dl → Option R)
    (h1 : skip S = (skipD e i o).bind K) (h2 : run S = (runD e i o S).bind K) : guardC e.all o S skip run = (stepG e i o S).bind K := by
  unfold guardC stepG
  cases hg : o.guard with
  | none => exact h2
  | some p =>
    obtain ⟨j, want⟩ := p
    dsimp only
    cases hd : (e.all[j]?).bind (·.dst) with
    | none => exact h1
    | some t =>
      dsimp only
      cases ht : S.tmp t with
      | undef => exact h1
      | val T c =>
        cases T with
        | bool =>
          have e1 : S.set t (.val .bool c) = S := set_self S t _ ht
          cases c <;> cases want <;> (simp only [cond_true, cond_false, e1]; first | exact h1 | exact h2)
        | _ => rfl
      | _ => rfl
theorem evOps_cons {R : Type} (e : REnv) (o : Oper) (os : List Oper) (i : Nat) (S : AState) (K : AState → Option R) :
    evOps e.tt e.fz e.fns e.k e.n e.rid e.all (o :: os) i S K = (stepG e i o S).bind fun δ => evOps e.tt e.fz e.fns e.k e.n e.rid e.all os (i + 1) (δ.app S) K := by
  rw [evOps]
  refine guardC_eq e i o S _ _ _ ?_ ?_
  · unfold skipD
    rw [bind_cond]
    rfl
  · unfold runD doOp
    rw [stepC_nat, Option.bind_assoc]
    congr 1
    funext p
    rw [bind_cond]
    rfl
theorem evOpsD_cons {R : Type} (e : REnv) (ms : List Nat) (o : Oper) (os : List Oper) (i : Nat) (fs : List Foot) (S : AState) (K : AState → Option R) :
    evOpsD e.tt e.fz e.fns e.k e.n e.rid e.all ms (o :: os) i fs S K = (stepG e i o S).bind fun δ => bif clear ms δ.ft fs then evOpsD e.tt e.fz e.fns e.k e.n e.rid e.all ms os (i + 1) (δ.ft :: fs) (δ.app S) K else none := by
  rw [evOpsD]
  refine guardC_eq e i o S _ _ _ ?_ ?_
  · unfold skipD
    rw [bind_cond]
    cases inB e.n o.dst <;> rfl
  · unfold runD doOp
    rw [stepC_nat, Option.bind_assoc]
    congr 1
    funext p
    rw [bind_cond]
    rfl
end Go.Ev
/- Changes that do not meet may come in any order. -/
namespace Go.Ev
theorem beq_nat {a b : Nat} : Nat.beq a b = decide (a = b) := by
  cases h : Nat.beq a b with
  | true => simp [Nat.eq_of_beq_eq_true h]
  | false =>
    have : a ≠ b := fun e => by rw [e] at h; simp at h
    simp [this]
theorem app_tmp (δ : Dl) (S : AState) (t : Nat) : (δ.app S).tmp t = if δ.dst = some t then δ.v else S.tmp t := by
  unfold Dl.app AState.put
  cases hd : δ.dst with
  | none => simp [AState.upd]
  | some s =>
    by_cases e : t = s
    · subst e; simp [AState.set, AState.upd]
    · have e' : ¬ s = t := fun h => e h.symm
      simp [AState.set, AState.upd, beq_nat, e, e']
theorem app_obj (δ : Dl) (S : AState) (g : Nat) : (δ.app S).obj g = match assoc δ.u g with | some o => o | none => S.obj g := by
  unfold Dl.app AState.put
  cases δ.dst <;> rfl
theorem app_used (δ : Dl) (S : AState) (g : Nat) : (δ.app S).used g = (δ.w.elem g || S.used g) := by
  unfold Dl.app AState.put
  cases δ.dst <;> rfl
theorem AState.ext' {S S' : AState} (h1 : ∀ t, S.tmp t = S'.tmp t) (h2 : ∀ g, S.obj g = S'.obj g) (h3 : ∀ g, S.used g = S'.used g) : S = S' := by
  cases S; cases S'
  congr
  · funext t; exact h1 t
  · funext g; exact h2 g
  · funext g; exact h3 g

/-- The changes of some of the operations, in the order of the text. -/
def appAll (U : Nat → Bool) : List Dl → Nat → AState → AState
  | [], _, S => S
  | δ :: r, i, S => appAll U r (i + 1) (bif U i then δ.app S else S)
def last {α : Type} (wr : Dl → Option α) (U : Nat → Bool) : List Dl → Nat → α → α
  | [], _, v => v
  | δ :: r, i, v => last wr U r (i + 1) (bif U i then (wr δ).getD v else v)
def wrT (t : Nat) (δ : Dl) : Option AV := if δ.dst = some t then some δ.v else none
def wrO (g : Nat) (δ : Dl) : Option (Option Obj) := assoc δ.u g
theorem appAll_tmp (U : Nat → Bool) (t : Nat) : ∀ (D : List Dl) (i : Nat) (S : AState), (appAll U D i S).tmp t = last (wrT t) U D i (S.tmp t) := by
  intro D
  induction D with
  | nil => intro i S; rfl
  | cons δ r ih =>
    intro i S
    simp only [appAll, last]
    rw [ih]
    congr 1
    cases U i with
    | false => rfl
    | true =>
      simp only [cond_true, app_tmp, wrT]
      split <;> rfl
theorem appAll_obj (U : Nat → Bool) (g : Nat) : ∀ (D : List Dl) (i : Nat) (S : AState), (appAll U D i S).obj g = last (wrO g) U D i (S.obj g) := by
  intro D
  induction D with
  | nil => intro i S; rfl
  | cons δ r ih =>
    intro i S
    simp only [appAll, last]
    rw [ih]
    congr 1
    cases U i with
    | false => rfl
    | true =>
      simp only [cond_true, app_obj, wrO]
      cases assoc δ.u g <;> rfl
theorem appAll_used (U : Nat → Bool) (g : Nat) : ∀ (D : List Dl) (i : Nat) (S : AState), (appAll U D i S).used g = true ↔ S.used g = true ∨ ∃ j δ, D[j]? = some δ ∧ U (i + j) = true ∧ g ∈ δ.w := by
  intro D
  induction D with
  | nil => intro i S; simp [appAll]
  | cons δ r ih =>
    intro i S
    simp only [appAll]
    rw [ih]
    constructor
    · rintro (h | ⟨j, δ', h1, h2, h3⟩)
      · cases hU : U i with
        | false => rw [hU] at h; exact .inl h
        | true =>
          rw [hU, cond_true, app_used, Bool.or_eq_true] at h
          rcases h with h | h
          · exact .inr ⟨0, δ, rfl, hU, by simpa using h⟩
          · exact .inl h
      · exact .inr ⟨j + 1, δ', by simpa using h1, by rw [← h2]; congr 1; omega, h3⟩
    · rintro (h | ⟨j, δ', h1, h2, h3⟩)
      · left
        cases hU : U i with
        | false => exact h
        | true => rw [cond_true, app_used, h, Bool.or_true]
      · cases j with
        | zero =>
          left
          simp only [List.getElem?_cons_zero, Option.some.injEq] at h1
          subst h1
          rw [Nat.add_zero] at h2
          rw [h2, cond_true, app_used, Bool.or_eq_true]
          exact .inl (by simpa using h3)
        | succ j => exact .inr ⟨j, δ', by simpa using h1, by rw [← h2]; congr 1; omega, h3⟩
theorem last_congr {α : Type} {wr : Dl → Option α} {U U' : Nat → Bool} : ∀ {D : List Dl} {i : Nat} {v : α}, (∀ j δ x, D[j]? = some δ → wr δ = some x → U (i + j) = U' (i + j)) → last wr U D i v = last wr U' D i v := by
  intro D
  induction D with
  | nil => intro i v _; rfl
  | cons δ r ih =>
    intro i v h
    simp only [last]
    have e1 : (bif U i then (wr δ).getD v else v) = (bif U' i then (wr δ).getD v else v) := by
      cases hw : wr δ with
      | none => cases U i <;> cases U' i <;> rfl
      | some x =>
        have := h 0 δ x rfl hw
        rw [Nat.add_zero] at this
        rw [this]
    rw [e1]
    exact ih fun j δ' x h1 h2 => by
      have := h (j + 1) δ' x (by simpa using h1) h2
      rw [show i + 1 + j = i + (j + 1) by omega]
      exact this
theorem last_none {α : Type} {wr : Dl → Option α} {U : Nat → Bool} : ∀ {D : List Dl} {i : Nat} {v : α}, (∀ j δ, D[j]? = some δ → U (i + j) = true → wr δ = none) → last wr U D i v = v := by
  intro D
  induction D with
  | nil => intro i v _; rfl
  | cons δ r ih =>
    intro i v h
    simp only [last]
    have e1 : (bif U i then (wr δ).getD v else v) = v := by
      cases hU : U i with
      | false => rfl
      | true => rw [h 0 δ rfl (by rw [Nat.add_zero]; exact hU)]; rfl
    rw [e1]
    exact ih fun j δ' h1 h2 => h (j + 1) δ' (by simpa using h1) (by rw [← h2]; congr 1; omega)
theorem last_mark {α : Type} {wr : Dl → Option α} {U : Nat → Bool} {x : α} {δ : Dl} : ∀ {D : List Dl} {j i : Nat} {v : α}, D[j]? = some δ → wr δ = some x → U (i + j) = true → (∀ j' δ', j < j' → D[j']? = some δ' → U (i + j') = true → wr δ' = none) → last wr U D i v = x := by
  intro D
  induction D with
  | nil => intro j i v h; simp at h
  | cons δ0 r ih =>
    intro j i v h hw hU hl
    cases j with
    | zero =>
      simp only [List.getElem?_cons_zero, Option.some.injEq] at h
      subst h
      rw [Nat.add_zero] at hU
      simp only [last, hU, hw, cond_true, Option.getD_some]
      exact last_none fun j δ' h1 h2 => hl (j + 1) δ' (by omega) (by simpa using h1) (by rw [← h2]; congr 1; omega)
    | succ j =>
      simp only [last]
      exact ih (j := j) (by simpa using h) hw (by rw [← hU]; congr 1; omega) fun j' δ' h0 h1 h2 => hl (j' + 1) δ' (by omega) (by simpa using h1) (by rw [← h2]; congr 1; omega)

/-- One more operation. -/
theorem appAll_add {U : Nat → Bool} {D : List Dl} {i : Nat} {δ : Dl} {S : AState} (hi : D[i]? = some δ)
    (hT : ∀ j δ' t, i < j → D[j]? = some δ' → U j = true → δ.dst = some t → δ'.dst ≠ some t)
    (hO : ∀ j δ' g o, i < j → D[j]? = some δ' → U j = true → assoc δ.u g = some o → assoc δ'.u g = none) :
    δ.app (appAll U D 0 S) = appAll (fun j => bif Nat.beq j i then true else U j) D 0 S := by
  have key : ∀ {α : Type} (wr : Dl → Option α) (v : α), (∀ j δ' x, i < j → D[j]? = some δ' → U j = true → wr δ = some x → wr δ' = none) →
      last wr (fun j => bif Nat.beq j i then true else U j) D 0 v = (wr δ).getD (last wr U D 0 v) := by
    intro α wr v h
    cases hw : wr δ with
    | none =>
      refine last_congr fun j δ' x h1 h2 => ?_
      rw [Nat.zero_add, beq_nat]
      have : j ≠ i := fun e => by subst e; rw [h1] at hi; cases hi; rw [hw] at h2; cases h2
      simp [this]
    | some x =>
      refine last_mark hi hw (by simp) fun j' δ' h0 h1 h2 => ?_
      rw [Nat.zero_add, beq_nat] at h2
      have : j' ≠ i := by omega
      simp only [this, decide_false, cond_false] at h2
      exact h j' δ' x h0 h1 h2 hw
  refine AState.ext' (fun t => ?_) (fun g => ?_) (fun g => ?_)
  · rw [app_tmp, appAll_tmp, appAll_tmp, key (wrT t)]
    · unfold wrT
      split <;> rfl
    · intro j δ' x h0 h1 h2 h3
      unfold wrT at h3 ⊢
      split at h3
      · rename_i hd
        rw [if_neg (hT j δ' t h0 h1 h2 hd)]
      · cases h3
  · rw [app_obj, appAll_obj, appAll_obj, key (wrO g)]
    · unfold wrO
      cases assoc δ.u g <;> rfl
    · intro j δ' x h0 h1 h2 h3
      exact hO j δ' g x h0 h1 h2 h3
  · rw [Bool.eq_iff_iff, app_used, Bool.or_eq_true, appAll_used, appAll_used]
    constructor
    · rintro (h | h | ⟨j, δ', h1, h2, h3⟩)
      · exact .inr ⟨i, δ, hi, by simp, by simpa using h⟩
      · exact .inl h
      · refine .inr ⟨j, δ', h1, ?_, h3⟩
        rw [h2]
        cases Nat.beq (0 + j) i <;> rfl
    · rintro (h | ⟨j, δ', h1, h2, h3⟩)
      · exact .inr (.inl h)
      · by_cases e : j = i
        · subst e
          rw [hi] at h1
          cases h1
          exact .inl (by simpa using h3)
        · rw [Nat.zero_add, beq_nat] at h2
          simp only [e, decide_false, cond_false] at h2
          exact .inr (.inr ⟨j, δ', h1, by rw [Nat.zero_add]; exact h2, h3⟩)
theorem appAll_agree_tmp {U U' : Nat → Bool} {D : List Dl} {S : AState} {t : Nat} (h : ∀ j δ, D[j]? = some δ → δ.dst = some t → U j = U' j) : (appAll U D 0 S).tmp t = (appAll U' D 0 S).tmp t := by
  rw [appAll_tmp, appAll_tmp]
  refine last_congr fun j δ x h1 h2 => ?_
  rw [Nat.zero_add]
  unfold wrT at h2
  split at h2
  · rename_i hd; exact h j δ h1 hd
  · cases h2
theorem appAll_agree_obj {U U' : Nat → Bool} {D : List Dl} {S : AState} {g : Nat} (h : ∀ j δ o, D[j]? = some δ → assoc δ.u g = some o → U j = U' j) : (appAll U D 0 S).obj g = (appAll U' D 0 S).obj g := by
  rw [appAll_obj, appAll_obj]
  refine last_congr fun j δ x h1 h2 => ?_
  rw [Nat.zero_add]
  exact h j δ x h1 h2

/-! ### What an operation does depends on what it reads -/
theorem opnd_agree {S S' : AState} : ∀ {l : List Operand}, (∀ t ∈ tmpsOf l, S'.tmp t = S.tmp t) → l.map S'.opnd = l.map S.opnd := by
  intro l
  induction l with
  | nil => intro _; rfl
  | cons x l ih =>
    intro h
    cases x with
    | tmp t => simp only [List.map_cons]; rw [ih fun s hs => h s (by simp [tmpsOf, hs])]; congr 1; exact h t (by simp [tmpsOf])
    | _ => simp only [List.map_cons]; rw [ih h]; rfl
theorem deps_agree {S S' : AState} {vs : List AV} (h : ∀ g ∈ deps S vs, S'.obj g = S.obj g) : deps S' vs = deps S vs := by
  unfold deps
  congr 1
  have h1 : ∀ g ∈ vs.flatMap ids, S'.obj g = S.obj g := fun g hg => h g (by unfold deps; exact List.mem_append_left _ hg)
  generalize vs.flatMap ids = l at h1
  induction l with
  | nil => rfl
  | cons g l ih => rw [List.flatMap_cons, List.flatMap_cons, h1 g (by simp), ih fun k hk => h1 k (by simp [hk])]
theorem look_agree {S S' : AState} {vs : List AV} (h : ∀ g ∈ deps S vs, S'.obj g = S.obj g) : lookOf S' vs = lookOf S vs := by
  funext g
  unfold lookOf
  rw [deps_agree h]
  cases hb : (deps S vs).elem g with
  | false => rfl
  | true => exact h g (by simpa using hb)
theorem runD_agree {e : REnv} {i : Nat} {o : Oper} {S S' : AState} {δ : Dl} (h : runD e i o S = some δ) (h1 : ∀ t ∈ δ.ft.rt, S'.tmp t = S.tmp t) (h2 : ∀ g ∈ δ.ft.ro, S'.obj g = S.obj g) (h3 : ∀ g ∈ δ.w, S'.used g = false) : runD e i o S' = some δ := by
  unfold runD at h ⊢
  obtain ⟨p, hp, h⟩ := Option.bind_eq_some_iff.1 h
  cases hc : inB e.n o.dst && (nodupB p.2.2 && p.2.2.all (fun g => !(S.used g))) with
  | false => rw [hc] at h; cases h
  | true =>
    rw [hc, cond_true, Option.some.injEq] at h
    subst h
    have e1 := opnd_agree (S := S) (S' := S') (l := opnds o.op) fun t ht => h1 t (List.mem_append_right _ ht)
    have e34 : depsO o.op S' ((opnds o.op).map S.opnd) = depsO o.op S ((opnds o.op).map S.opnd) ∧ stepC e.tt e.fz e.fns e.k (dstOf e.rid i o) o S' ((opnds o.op).map S.opnd) out3 = some p := by
      rw [← hp]
      cases hmv : isMv o.op with
      | true =>
        refine ⟨by unfold depsO; rw [hmv]; rfl, ?_⟩
        unfold stepC
        cases hop : o.op <;> rw [hop] at hmv <;> first | rfl | cases hmv
      | false =>
        have h2' : ∀ g ∈ deps S ((opnds o.op).map S.opnd), S'.obj g = S.obj g := fun g hg => h2 g (by unfold depsO; rw [hmv]; exact hg)
        have e2 := look_agree (S := S) (S' := S') (vs := (opnds o.op).map S.opnd) h2'
        refine ⟨by unfold depsO; rw [hmv]; exact deps_agree h2', ?_⟩
        unfold stepC
        rw [e2]
    obtain ⟨e3, e4⟩ := e34
    rw [e1, e3]
    rw [e4]
    have e5 : p.2.2.all (fun g => !(S'.used g)) = true := by
      rw [List.all_eq_true]
      intro g hg
      rw [h3 g hg]
      rfl
    simp only [Bool.and_eq_true] at hc
    rw [Option.bind_some, hc.1, hc.2.1, e5]
    rfl
theorem stepG_agree {e : REnv} {i : Nat} {o : Oper} {S S' : AState} {δ : Dl} (h : stepG e i o S = some δ) (h1 : ∀ t ∈ δ.ft.rt, S'.tmp t = S.tmp t) (h2 : ∀ g ∈ δ.ft.ro, S'.obj g = S.obj g) (h3 : ∀ g ∈ δ.w, S'.used g = false) : stepG e i o S' = some δ := by
  unfold stepG at h ⊢
  cases hg : o.guard with
  | none => rw [hg] at h; exact runD_agree h h1 h2 h3
  | some p =>
    obtain ⟨j, want⟩ := p
    rw [hg] at h
    dsimp only at h ⊢
    cases hd : (e.all[j]?).bind (·.dst) with
    | none => rw [hd] at h; exact h
    | some t =>
      rw [hd] at h
      dsimp only at h ⊢
      have hgt : guardT e.all o = [t] := by unfold guardT; rw [hg]; dsimp only; rw [hd]
      have ht : S'.tmp t = S.tmp t := by
        apply h1
        have hs : ∀ {δ' : Dl}, skipD e i o = some δ' → t ∈ δ'.ft.rt := by
          intro δ' h'
          unfold skipD at h'
          cases hb : inB e.n o.dst with
          | false => rw [hb] at h'; cases h'
          | true => rw [hb, cond_true, Option.some.injEq] at h'; subst h'; simp [hgt]
        have hr : ∀ {δ' : Dl}, runD e i o S = some δ' → t ∈ δ'.ft.rt := by
          intro δ' h'
          unfold runD at h'
          obtain ⟨p, hp, h'⟩ := Option.bind_eq_some_iff.1 h'
          rw [Bool.cond_eq_ite] at h'
          split at h'
          · cases h'; simp [hgt]
          · cases h'
        split at h
        · rw [Bool.cond_eq_ite] at h
          split at h
          · exact hr h
          · exact hs h
        · exact hs h
        · cases h
      rw [ht]
      cases hv : S.tmp t with
      | undef => rw [hv] at h; exact h
      | val T c =>
        rw [hv] at h
        cases T with
        | bool =>
          dsimp only at h ⊢
          cases hc : (c == want) with
          | true => rw [hc] at h; exact runD_agree h h1 h2 h3
          | false => rw [hc] at h; exact h
        | _ => cases h
      | _ => rw [hv] at h; cases h
end Go.Ev
