/- The evaluator against the model: the relation of states. No condition. -/
import Derived.Test.YtmbpdaffnabjcaaGreatEA
import Derived.Laws.AppendOwn
import Derived.Deep.AppendSrc
import Derived.Below
set_option linter.unusedVariables false
set_option linter.unusedSimpArgs false
set_option linter.unusedSectionVars false
/- What abstract values stand for in the model's memory; how this is kept while memory grows. -/
namespace Go.Ev

def big : Nat := 9223372036854775807
def isAgg : Ty → Bool
  | .arr _ _ | .unit | .pair _ _ => true
  | _ => false
def ofC (agg : Bool) (cs : List Value) : Value := if agg then .agg cs.toArray else cs.headD (.bool false)
def seg (l : List Value) (o n : Nat) : List Value := (l.drop o).take n
/-- Cells that hold data; what slices lead to lies in blocks of I. -/
def RdL (w : World) (I : Nat → Prop) : (t : Ty) → den t → List Value → Prop
  | .int k, x, vs => vs = [.int k x] ∧ inK k x = true
  | .bool, x, vs => vs = [.bool x]
  | .str, x, vs => ∃ s : ByteArray, vs = [.string s] ∧ bytesL s = x ∧ s.size ≤ big
  | .slice e, xs, vs => ∃ v, vs = [v] ∧ xs.length ≤ big ∧ ((xs = [] ∧ ∃ A cap, v = .slice A 0 cap) ∨
      ∃ b off cap, v = .slice (some ⟨b, off, none⟩) xs.length cap ∧ xs.length ≤ cap ∧ (0 < xs.length → I b ∧
        ∃ arr ty fr, w.heap[b]? = some (.cells arr ty fr) ∧ off + xs.length * size e ≤ arr.size ∧
          ∀ j (h : j < xs.length), RdL w I e (xs[j]'h) (seg arr.toList (off + j * size e) (size e))))
  | .arr n e, xs, vs => xs.length = n ∧ vs.length = n * size e ∧ ∀ j (h : j < xs.length), RdL w I e (xs[j]'h) (seg vs (j * size e) (size e))
  | .ifc, x, vs => ∃ v, vs = [v] ∧ ((x = true ∧ v = .nilIface) ∨ (x = false ∧ ∃ t u, v = .iface t u))
  | .unit, _, vs => vs = []
  | .pair a b, x, vs => RdL w I a x.1 (vs.take (size a)) ∧ RdL w I b x.2 (vs.drop (size a))

theorem RdL.length {w : World} {I : Nat → Prop} : ∀ {t : Ty} {x : den t} {vs : List Value}, RdL w I t x vs → vs.length = size t := by
  intro t
  induction t with
  | int k => intro x vs h; simp only [RdL] at h; rw [h.1]; rfl
  | bool => intro x vs h; simp only [RdL] at h; rw [h]; rfl
  | str => intro x vs h; simp only [RdL] at h; obtain ⟨s, rfl, _⟩ := h; rfl
  | slice e ih => intro x vs h; simp only [RdL] at h; obtain ⟨s, rfl, _⟩ := h; rfl
  | arr n e ih => intro x vs h; simp only [RdL] at h; simpa [size] using h.2.1
  | ifc => intro x vs h; simp only [RdL] at h; obtain ⟨s, rfl, _⟩ := h; rfl
  | unit => intro x vs h; simp only [RdL] at h; rw [h]; rfl
  | pair a b iha ihb =>
    intro x vs h
    simp only [RdL] at h
    have h1 := iha h.1
    have h2 := ihb h.2
    simp only [List.length_take, List.length_drop] at h1 h2
    simp only [size]
    omega

/-- Reading goes on where what is read was not changed. -/
theorem RdL.mono {w w' : World} {I I' : Nat → Prop} (hI : ∀ b, I b → I' b ∧ w'.heap[b]? = w.heap[b]?) :
    ∀ {t : Ty} {x : den t} {vs : List Value}, RdL w I t x vs → RdL w' I' t x vs := by
  intro t
  induction t with
  | int k => intro x vs h; simpa only [RdL] using h
  | bool => intro x vs h; simpa only [RdL] using h
  | str => intro x vs h; simpa only [RdL] using h
  | slice e ih =>
    intro x vs h
    simp only [RdL] at h ⊢
    obtain ⟨v, rfl, hb, h⟩ := h
    refine ⟨v, rfl, hb, ?_⟩
    rcases h with h | ⟨b, off, cap, rfl, hc, h⟩
    · exact .inl h
    · refine .inr ⟨b, off, cap, rfl, hc, fun hl => ?_⟩
      obtain ⟨hi, arr, ty, fr, hh, hs, hj⟩ := h hl
      exact ⟨(hI b hi).1, arr, ty, fr, (hI b hi).2.trans hh, hs, fun j hj' => ih (hj j hj')⟩
  | arr n e ih =>
    intro x vs h
    simp only [RdL] at h ⊢
    exact ⟨h.1, h.2.1, fun j hj => ih (h.2.2 j hj)⟩
  | ifc => intro x vs h; simpa only [RdL] using h
  | unit => intro x vs h; simpa only [RdL] using h
  | pair a b iha ihb =>
    intro x vs h
    simp only [RdL] at h ⊢
    exact ⟨iha h.1, ihb h.2⟩

/-- Where objects lie: a slice's value or a pointer; the blocks that are the object's own. -/
structure Conc where
  ρ : Nat → Value
  β : Nat → List Nat

def offF : Nat → Ty → Option Nat
  | 0, .pair _ _ => some 0
  | i + 1, .pair a b => match offF i b with
    | some o => some (size a + o)
    | none => none
  | _, _ => none
def offP : Ty → List Nat → Option Nat
  | _, [] => some 0
  | t, i :: p => match fldTy i t with
    | some u => match offF i t with
      | some o => match offP u p with
        | some o' => some (o + o')
        | none => none
      | none => none
    | none => none

/-- The element type of an object that is a row. -/
def rowTy : Option Obj → Option Ty
  | some (.row e _ _) => some e
  | some (.frz e _) => some e
  | _ => none
def rowLen : Option Obj → Nat
  | some (.row _ _ xs) => xs.length
  | some (.frz _ xs) => xs.length
  | _ => 0
def boxTy : Option Obj → Option Ty
  | some (.box T _) => some T
  | _ => none

/-- The cells of an abstract value. -/
def AVL (w : World) (I : Nat → Prop) (L : Look) (C : Conc) : AV → List Value → Prop
  | .dead, _ => False
  | .undef, _ => False
  | .tup _, _ => False
  | .val t x, vs => RdL w I t x vs
  | .junk t, vs => vs.length = size t
  | .nil, vs => vs = [.slice none 0 0]
  | .row g, vs => ∃ v, vs = [v] ∧ (rowTy (L g) ≠ none → v = C.ρ g)
  | .view g lo hi, vs => ∃ v, vs = [v] ∧ ∀ e, rowTy (L g) = some e → 0 ≤ lo ∧ lo ≤ hi ∧ hi ≤ (rowLen (L g) : Int) ∧
      ∃ A len cap, C.ρ g = .slice A len cap ∧ v = .slice (if cap = lo.toNat then A else A.map (·.add (lo.toNat * size e))) (hi.toNat - lo.toNat) (cap - lo.toNat)
  | .ptr g p, vs => ∃ v, vs = [v] ∧ ∀ T, boxTy (L g) = some T → ∃ b o, offP T p = some o ∧ C.ρ g = .pointer (some ⟨b, 0, none⟩) ∧ v = .pointer (some ⟨b, o, none⟩)
  | .aptr g p n e i, vs => ∃ v, vs = [v] ∧ ∀ T, boxTy (L g) = some T → 0 ≤ i ∧ i < (n : Int) ∧ tyP T p = some (.arr n e) ∧ ∃ b o, offP T p = some o ∧
      C.ρ g = .pointer (some ⟨b, 0, none⟩) ∧ v = .pointer (some ⟨b, o + i.toNat * size e, none⟩)
  | .eptr g i p, vs => ∃ v, vs = [v] ∧ ∀ e, rowTy (L g) = some e → 0 ≤ i ∧ i < (rowLen (L g) : Int) ∧ ∃ o b off len cap, offP e p = some o ∧
      C.ρ g = .slice (some ⟨b, off, none⟩) len cap ∧ v = .pointer (some ⟨b, off + i.toNat * size e + o, none⟩)
  | .sptr t x, vs => ∃ b o, vs = [.pointer (some ⟨b, o, none⟩)] ∧ I b ∧ ∃ arr ty fr, w.heap[b]? = some (.cells arr ty fr) ∧ o + size t ≤ arr.size ∧ RdL w I t x (seg arr.toList o (size t))
  | .aslice g p n e, vs => ∃ v, vs = [v] ∧ ∀ T, boxTy (L g) = some T → tyP T p = some (.arr n e) ∧ ∃ b o, offP T p = some o ∧
      C.ρ g = .pointer (some ⟨b, 0, none⟩) ∧ v = .slice (some ⟨b, o, none⟩) n n
  | .unit, vs => vs = []
  | .pair a b, vs => AVL w I L C a (vs.take (csize a)) ∧ AVL w I L C b (vs.drop (csize a))
  | .fn f, vs => vs = [.func (.func f) #[] #[]]
  | .pnil, vs => vs = [.pointer none]

theorem AVL.length {w : World} {I : Nat → Prop} {L : Look} {C : Conc} : ∀ {a : AV} {vs : List Value}, AVL w I L C a vs → vs.length = csize a := by
  intro a
  induction a with
  | dead => intro vs h; exact h.elim
  | undef => intro vs h; exact h.elim
  | tup a => intro vs h; exact h.elim
  | val t x => intro vs h; exact RdL.length h
  | junk t => intro vs h; exact h
  | nil => intro vs h; simp only [AVL] at h; rw [h]; rfl
  | row g => intro vs h; obtain ⟨v, rfl, _⟩ := h; rfl
  | view g lo hi => intro vs h; obtain ⟨v, rfl, _⟩ := h; rfl
  | ptr g p => intro vs h; obtain ⟨v, rfl, _⟩ := h; rfl
  | aptr g p n e i => intro vs h; obtain ⟨v, rfl, _⟩ := h; rfl
  | eptr g i p => intro vs h; obtain ⟨v, rfl, _⟩ := h; rfl
  | sptr t x => intro vs h; obtain ⟨b, o, rfl, _⟩ := h; rfl
  | aslice g p n e => intro vs h; obtain ⟨v, rfl, _⟩ := h; rfl
  | unit => intro vs h; simp only [AVL] at h; rw [h]; rfl
  | pair a b iha ihb =>
    intro vs h
    simp only [AVL] at h
    have h1 := iha h.1
    have h2 := ihb h.2
    simp only [List.length_take, List.length_drop] at h1 h2
    simp only [csize]
    omega
  | fn f => intro vs h; simp only [AVL] at h; rw [h]; rfl
  | pnil => intro vs h; simp only [AVL] at h; rw [h]; rfl

/-- An object may go, or change within its form. -/
def Alike (o o' : Option Obj) : Prop := (rowTy o' = none ∨ (rowTy o' = rowTy o ∧ rowLen o' = rowLen o)) ∧ (boxTy o' = none ∨ boxTy o' = boxTy o)
theorem Alike.refl (o : Option Obj) : Alike o o := ⟨.inr ⟨rfl, rfl⟩, .inr rfl⟩
theorem Alike.gone (o : Option Obj) : Alike o none := ⟨.inl rfl, .inl rfl⟩

theorem AVL.mono {w w' : World} {I I' : Nat → Prop} {L L' : Look} {C C' : Conc} (hI : ∀ b, I b → I' b ∧ w'.heap[b]? = w.heap[b]?) :
    ∀ {a : AV} {vs : List Value}, (∀ g ∈ ids a, Alike (L g) (L' g) ∧ C'.ρ g = C.ρ g) → AVL w I L C a vs → AVL w' I' L' C' a vs := by
  intro a
  induction a with
  | dead => intro vs _ h; exact h.elim
  | undef => intro vs _ h; exact h.elim
  | tup a => intro vs _ h; exact h.elim
  | val t x => intro vs _ h; exact RdL.mono hI h
  | junk t => intro vs _ h; exact h
  | nil => intro vs _ h; exact h
  | row g =>
    intro vs hg h
    obtain ⟨v, rfl, h⟩ := h
    obtain ⟨ha, hr⟩ := hg g (by simp [ids])
    refine ⟨v, rfl, fun hn => ?_⟩
    rw [hr]
    rcases ha.1 with h0 | h0
    · exact absurd h0 hn
    · exact h (by rw [← h0.1]; exact hn)
  | view g lo hi =>
    intro vs hg h
    obtain ⟨v, rfl, h⟩ := h
    obtain ⟨ha, hr⟩ := hg g (by simp [ids])
    refine ⟨v, rfl, fun e he => ?_⟩
    rcases ha.1 with h0 | h0
    · rw [h0] at he; cases he
    · rw [h0.1] at he
      rw [h0.2, hr]
      exact h e he
  | ptr g p =>
    intro vs hg h
    obtain ⟨v, rfl, h⟩ := h
    obtain ⟨ha, hr⟩ := hg g (by simp [ids])
    refine ⟨v, rfl, fun T hT => ?_⟩
    rcases ha.2 with h0 | h0
    · rw [h0] at hT; cases hT
    · rw [h0] at hT
      rw [hr]
      exact h T hT
  | aptr g p n e i =>
    intro vs hg h
    obtain ⟨v, rfl, h⟩ := h
    obtain ⟨ha, hr⟩ := hg g (by simp [ids])
    refine ⟨v, rfl, fun T hT => ?_⟩
    rcases ha.2 with h0 | h0
    · rw [h0] at hT; cases hT
    · rw [h0] at hT
      rw [hr]
      exact h T hT
  | eptr g i p =>
    intro vs hg h
    obtain ⟨v, rfl, h⟩ := h
    obtain ⟨ha, hr⟩ := hg g (by simp [ids])
    refine ⟨v, rfl, fun e he => ?_⟩
    rcases ha.1 with h0 | h0
    · rw [h0] at he; cases he
    · rw [h0.1] at he
      rw [h0.2, hr]
      exact h e he
  | sptr t x =>
    intro vs _ h
    obtain ⟨b, o, rfl, hb, arr, ty, fr, hh, hs, hx⟩ := h
    exact ⟨b, o, rfl, (hI b hb).1, arr, ty, fr, (hI b hb).2.trans hh, hs, RdL.mono hI hx⟩
  | aslice g p n e =>
    intro vs hg h
    obtain ⟨v, rfl, h⟩ := h
    obtain ⟨ha, hr⟩ := hg g (by simp [ids])
    refine ⟨v, rfl, fun T hT => ?_⟩
    rcases ha.2 with h0 | h0
    · rw [h0] at hT; cases hT
    · rw [h0] at hT
      rw [hr]
      exact h T hT
  | unit => intro vs _ h; exact h
  | pair a b iha ihb =>
    intro vs hg h
    exact ⟨iha (fun g hg' => hg g (by simp [ids, hg'])) h.1, ihb (fun g hg' => hg g (by simp [ids, hg'])) h.2⟩
  | fn f => intro vs _ h; exact h
  | pnil => intro vs _ h; exact h

/-- Is it written as an aggregate? -/
def aggV : AV → Bool
  | .val t _ => isAgg t
  | .junk t => isAgg t
  | .unit | .pair _ _ => true
  | _ => false
/-- The value of one abstract value (no tuple). -/
def AV1 (w : World) (I : Nat → Prop) (L : Look) (C : Conc) (a : AV) (v : Value) : Prop := ∃ cs, AVL w I L C a cs ∧ v = ofC (aggV a) cs
def TupL (w : World) (I : Nat → Prop) (L : Look) (C : Conc) : AV → List Value → Prop
  | .unit, vs => vs = []
  | .pair a r, v :: vs => AV1 w I L C a v ∧ TupL w I L C r vs
  | _, _ => False
def AVR (w : World) (I : Nat → Prop) (L : Look) (C : Conc) : AV → Value → Prop
  | .dead, _ => True
  | .undef, v => v = undef
  | .tup a, v => ∃ vs : List Value, v = .tuple vs.toArray ∧ TupL w I L C a vs
  | a, v => AV1 w I L C a v

theorem AV1.mono {w w' : World} {I I' : Nat → Prop} {L L' : Look} {C C' : Conc} (hI : ∀ b, I b → I' b ∧ w'.heap[b]? = w.heap[b]?)
    {a : AV} {v : Value} (hg : ∀ g ∈ ids a, Alike (L g) (L' g) ∧ C'.ρ g = C.ρ g) (h : AV1 w I L C a v) : AV1 w' I' L' C' a v :=
  let ⟨cs, h1, h2⟩ := h; ⟨cs, AVL.mono hI hg h1, h2⟩
theorem TupL.mono {w w' : World} {I I' : Nat → Prop} {L L' : Look} {C C' : Conc} (hI : ∀ b, I b → I' b ∧ w'.heap[b]? = w.heap[b]?) :
    ∀ {a : AV} {vs : List Value}, (∀ g ∈ ids a, Alike (L g) (L' g) ∧ C'.ρ g = C.ρ g) → TupL w I L C a vs → TupL w' I' L' C' a vs := by
  intro a
  induction a with
  | unit => intro vs _ h; simpa only [TupL] using h
  | pair a b _ ihb =>
    intro vs hg h
    cases vs with
    | nil => exact h.elim
    | cons v vs => exact ⟨AV1.mono hI (fun g hg' => hg g (by simp [ids, hg'])) h.1, ihb (fun g hg' => hg g (by simp [ids, hg'])) h.2⟩
  | _ => intro vs _ h; simp only [TupL] at h
theorem AVR.mono {w w' : World} {I I' : Nat → Prop} {L L' : Look} {C C' : Conc} (hI : ∀ b, I b → I' b ∧ w'.heap[b]? = w.heap[b]?)
    {a : AV} {v : Value} (hg : ∀ g ∈ ids a, Alike (L g) (L' g) ∧ C'.ρ g = C.ρ g) (h : AVR w I L C a v) : AVR w' I' L' C' a v := by
  cases a with
  | dead => trivial
  | undef => exact h
  | tup a => obtain ⟨vs, rfl, h⟩ := h; exact ⟨vs, rfl, TupL.mono hI hg h⟩
  | _ => exact AV1.mono hI hg h

/-- A value is laid out as a type has it. -/
def shp : AV → Ty → Prop
  | .val t _, T => t = T
  | .junk t, T => t = T
  | .nil, T => ∃ e, T = .slice e
  | .row _, T => ∃ e, T = .slice e
  | .view _ _ _, T => ∃ e, T = .slice e
  | .unit, T => T = .unit
  | .pair a b, T => ∃ x y, T = .pair x y ∧ shp a x ∧ shp b y
  | _, _ => False

/-- An object in memory. -/
def ObjR (w : World) (I : Nat → Prop) (L : Look) (C : Conc) (g : Nat) : Obj → Prop
  | .box T c => ∃ b arr ty, C.ρ g = .pointer (some ⟨b, 0, none⟩) ∧ C.β g = [b] ∧ w.heap[b]? = some (.cells arr ty (0, 0)) ∧ AVL w I L C c arr.toList ∧ shp c T
  | .row e nn xs => xs.length ≤ big ∧ ((C.ρ g = .slice none 0 0 ∧ xs = [] ∧ nn = false ∧ C.β g = []) ∨
      ∃ b off cap arr ty, C.ρ g = .slice (some ⟨b, off, none⟩) xs.length cap ∧ xs.length ≤ cap ∧ C.β g = [b] ∧ w.heap[b]? = some (.cells arr ty (0, 0)) ∧
        off + cap * size e ≤ arr.size ∧ ∀ j (h : j < xs.length), RdL w I e (xs[j]'h) (seg arr.toList (off + j * size e) (size e)))
  | .frz e xs => C.β g = [] ∧ RdL w I (.slice e) xs [C.ρ g]
end Go.Ev
