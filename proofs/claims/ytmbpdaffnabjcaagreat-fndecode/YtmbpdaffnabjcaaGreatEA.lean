/- The evaluator: values, states, operations, code. No condition. -/
import GoSem.Core.Code
import GoSem.Core.Sem
import GoSem.Core.Region
set_option linter.unusedVariables false
set_option linter.unusedSimpArgs false
set_option linter.unusedSectionVars false
/- A small evaluator over typed pure values for the code of the model: types, values, states, operations. -/
namespace Go.Ev

/-! ### Types and what they denote -/
inductive Ty where
  | int (k : IntKind)
  | bool
  | str
  | slice (e : Ty)
  | arr (n : Nat) (e : Ty)
  | ifc
  | unit
  | pair (a b : Ty)

def kb : IntKind → Nat
  | .i8 => 0 | .i16 => 1 | .i32 => 2 | .i64 => 3 | .u8 => 4 | .u16 => 5 | .u32 => 6 | .u64 => 7
def Ty.beq : Ty → Ty → Bool
  | .int k, .int l => Nat.beq (kb k) (kb l)
  | .bool, .bool => true
  | .str, .str => true
  | .slice a, .slice b => a.beq b
  | .arr n a, .arr m b => Nat.beq n m && a.beq b
  | .unit, .unit => true
  | .ifc, .ifc => true
  | .pair a b, .pair c d => a.beq c && b.beq d
  | _, _ => false
theorem kb_inj {k l : IntKind} (h : Nat.beq (kb k) (kb l) = true) : k = l := by
  cases k <;> cases l <;> first | rfl | (exact absurd h (by decide))
theorem Ty.beq_eq : ∀ {a b : Ty}, a.beq b = true → a = b := by
  intro a
  induction a with
  | int k => intro b h; cases b with
    | int l => exact congrArg _ (kb_inj h)
    | _ => exact absurd h (by simp [Ty.beq])
  | bool => intro b h; cases b with
    | bool => rfl
    | _ => exact absurd h (by simp [Ty.beq])
  | str => intro b h; cases b with
    | str => rfl
    | _ => exact absurd h (by simp [Ty.beq])
  | slice e ih => intro b h; cases b with
    | slice f => exact congrArg _ (ih h)
    | _ => exact absurd h (by simp [Ty.beq])
  | arr n e ih => intro b h; cases b with
    | arr m f =>
      simp only [Ty.beq, Bool.and_eq_true] at h
      rw [Nat.eq_of_beq_eq_true h.1, ih h.2]
    | _ => exact absurd h (by simp [Ty.beq])
  | ifc => intro b h; cases b with
    | ifc => rfl
    | _ => exact absurd h (by simp [Ty.beq])
  | unit => intro b h; cases b with
    | unit => rfl
    | _ => exact absurd h (by simp [Ty.beq])
  | pair a b iha ihb => intro c h; cases c with
    | pair c d =>
      simp only [Ty.beq, Bool.and_eq_true] at h
      rw [iha h.1, ihb h.2]
    | _ => exact absurd h (by simp [Ty.beq])

@[reducible] def den : Ty → Type
  | .int _ => Int
  | .bool => Bool
  | .str => List Int
  | .slice e => List (den e)
  | .arr _ e => List (den e)
  | .ifc => Bool
  | .unit => Unit
  | .pair a b => den a × den b

def zero : (t : Ty) → den t
  | .int _ => (0 : Int)
  | .bool => false
  | .str => ([] : List Int)
  | .slice _ => []
  | .arr n e => List.replicate n (zero e)
  | .ifc => true
  | .unit => ()
  | .pair a b => (zero a, zero b)

def size : Ty → Nat
  | .int _ | .bool | .str | .slice _ | .ifc => 1
  | .arr n e => n * size e
  | .unit => 0
  | .pair a b => size a + size b

/-- Equality of data, as Go's '==' has it (no slices). -/
def eqd : (t : Ty) → den t → den t → Bool
  | .int _, x, y => (x : Int) == y
  | .bool, x, y => (x : Bool) == y
  | .str, x, y => (x : List Int) == y
  | .pair a b, x, y => eqd a x.1 y.1 && eqd b x.2 y.2
  | .unit, _, _ => true
  | _, _, _ => false
def comparable : Ty → Bool
  | .int _ | .bool | .str | .unit => true
  | .pair a b => comparable a && comparable b
  | _ => false

/-! ### Values -/
inductive AV where
  | dead
  | undef
  | val (t : Ty) (x : den t)
  | nil
  | row (g : Nat)
  | view (g : Nat) (lo hi : Int)
  | ptr (g : Nat) (path : List Nat)
  | aptr (g : Nat) (path : List Nat) (n : Nat) (e : Ty) (i : Int)
  | eptr (g : Nat) (i : Int) (path : List Nat)
  | sptr (t : Ty) (x : den t)
  | aslice (g : Nat) (path : List Nat) (n : Nat) (e : Ty)
  | junk (t : Ty)
  | unit
  | pair (a b : AV)
  | tup (a : AV)
  | fn (f : Nat)
  | pnil

inductive Obj where
  | box (T : Ty) (c : AV)
  | row (e : Ty) (nn : Bool) (xs : List (den e))
  | frz (e : Ty) (xs : List (den e))

def castD {a b : Ty} (h : a.beq b = true) (x : den a) : den b := Eq.rec (motive := fun c _ => den c) x (Ty.beq_eq h)
def toD (t : Ty) {u : Ty} (x : den u) : Option (den t) :=
  if h : u.beq t = true then some (castD h x) else none
def castL {a b : Ty} (h : a.beq b = true) (x : List (den a)) : List (den b) := Eq.rec (motive := fun c _ => List (den c)) x (Ty.beq_eq h)
def toL (t : Ty) {u : Ty} (x : List (den u)) : Option (List (den t)) :=
  if h : u.beq t = true then some (castL h x) else none

/-! ### What the functions are printed with -/
def maxLen : Nat := 68719476736
def rd {α : Type} (xs : List α) (i : Int) : Option α := if i < 0 then none else xs[i.toNat]?
def st {α : Type} (xs : List α) (i : Int) (x : α) : Option (List α) := if i < 0 then none else if i.toNat < xs.length then some (xs.set i.toNat x) else none
def sub {α : Type} (xs : List α) (lo hi : Int) : Option (List α) :=
  if lo < 0 then none else if hi < lo then none else if (xs.length : Int) < hi then none else some ((xs.take hi.toNat).drop lo.toNat)
def app {α : Type} (xs ys : List α) : Option (List α) := if xs.length + ys.length < maxLen then some (xs ++ ys) else none
def mk {α : Type} (n : Int) (x : α) : Option (List α) := if n < 0 then none else if n.toNat < maxLen then some (List.replicate n.toNat x) else none
def len {α : Type} (xs : List α) : Int := (xs.length : Int)
def ad (k : IntKind) (a b : Int) : Int := k.wrap (a + b)
def su (k : IntKind) (a b : Int) : Int := k.wrap (a - b)
def mu (k : IntKind) (a b : Int) : Int := k.wrap (a * b)
def qu (k : IntKind) (a b : Int) : Int := k.wrap (a.tdiv b)
def re (a b : Int) : Int := a.tmod b
def an (k : IntKind) (a b : Int) : Int := k.wrap ((BitVec.ofInt k.bits a &&& BitVec.ofInt k.bits b).toNat : Int)
def io (k : IntKind) (a b : Int) : Int := k.wrap ((BitVec.ofInt k.bits a ||| BitVec.ofInt k.bits b).toNat : Int)
def xo (k : IntKind) (a b : Int) : Int := k.wrap ((BitVec.ofInt k.bits a ^^^ BitVec.ofInt k.bits b).toNat : Int)
def nt (k : IntKind) (a b : Int) : Int := k.wrap ((BitVec.ofInt k.bits a &&& ~~~ (BitVec.ofInt k.bits b)).toNat : Int)
def sl (k : IntKind) (a b : Int) : Int := k.wrap (a * 2 ^ (min b.toNat k.bits))
def sr (k : IntKind) (a b : Int) : Int := a.fdiv (2 ^ (min b.toNat k.bits))
def cv (k : IntKind) (a : Int) : Int := k.wrap a
def mx (a b : Int) : Int := if b > a then b else a
def mn (a b : Int) : Int := if b < a then b else a

def cut {α : Type} (xs : List α) (lo hi : Int) : List α := (xs.take hi.toNat).drop lo.toNat
def cpy {α : Type} (xs ys : List α) : List α := ys.take xs.length ++ xs.drop ys.length
def optE {α β : Type} (x : Option α) (a : β) (f : α → β) : β := match x with
  | none => a
  | some y => f y
def sumE {α β γ : Type} (x : α ⊕ β) (f : α → γ) (g : β → γ) : γ := match x with
  | .inl y => f y
  | .inr y => g y

end Go.Ev
/- The evaluator: states, operations, code. -/
namespace Go.Ev

/-! ### Parts of values -/
def fld : Nat → AV → Option AV
  | 0, .pair a _ => some a
  | i + 1, .pair _ b => fld i b
  | 0, .val (.pair ta _) x => some (.val ta x.1)
  | i + 1, .val (.pair _ tb) x => fld i (.val tb x.2)
  | _, _ => none
def setFld : Nat → AV → AV → Option AV
  | 0, .pair _ b, v => some (.pair v b)
  | i + 1, .pair a b, v => match setFld i b v with
    | some b' => some (.pair a b')
    | none => none
  | 0, .val (.pair _ tb) x, v => some (.pair v (.val tb x.2))
  | i + 1, .val (.pair ta tb) x, v => match setFld i (.val tb x.2) v with
    | some b' => some (.pair (.val ta x.1) b')
    | none => none
  | _, _, _ => none
def getP : List Nat → AV → Option AV
  | [], a => some a
  | i :: p, a => match fld i a with
    | some b => getP p b
    | none => none
def setP : List Nat → AV → AV → Option AV
  | [], _, v => some v
  | i :: p, a, v => match fld i a with
    | some b => match setP p b v with
      | some b' => setFld i a b'
      | none => none
    | none => none
def zav : Ty → AV
  | .slice _ => .nil
  | .pair a b => .pair (zav a) (zav b)
  | .unit => .unit
  | t => .val t (zero t)
def fldTy : Nat → Ty → Option Ty
  | 0, .pair a _ => some a
  | i + 1, .pair _ b => fldTy i b
  | _, _ => none

def tyP : Ty → List Nat → Option Ty
  | t, [] => some t
  | t, i :: p => match fldTy i t with
    | some u => tyP u p
    | none => none
def isTy (o : Option Ty) (t : Ty) : Bool := match o with
  | some u => u.beq t
  | none => false

def hasSl : Ty → Bool
  | .slice _ => true
  | .arr _ e => hasSl e
  | .pair a b => hasSl a || hasSl b
  | _ => false
abbrev Look := Nat → Option Obj
abbrev Upd := List (Nat × Option Obj)

/-- A value read as data of a type; what it owns is read, too. -/
def rdv (L : Look) : AV → (t : Ty) → Option (den t)
  | .val _ x, t => toD t x
  | .nil, .slice _ => some []
  | .row g, .slice e => match L g with
    | some (.row _ _ xs) => toL e xs
    | some (.frz _ xs) => toL e xs
    | _ => none
  | .view g lo hi, .slice e => match L g with
    | some (.row _ _ xs) => toL e ((xs.take hi.toNat).drop lo.toNat)
    | some (.frz _ xs) => toL e ((xs.take hi.toNat).drop lo.toNat)
    | _ => none
  | .unit, .unit => some ()
  | .pair x y, .pair a b => match rdv L x a with
    | some p => match rdv L y b with
      | some q => some (p, q)
      | none => none
    | none => none
  | _, _ => none
def fits (L : Look) : AV → Ty → Bool
  | .val u _, t => u.beq t
  | .nil, .slice _ => true
  | .row g, .slice e => match L g with
    | some (.row u _ _) => u.beq e
    | some (.frz u _) => u.beq e
    | _ => false
  | .view g _ _, .slice e => match L g with
    | some (.row u _ _) => u.beq e
    | some (.frz u _) => u.beq e
    | _ => false
  | .unit, .unit => true
  | .pair x y, .pair a b => fits L x a && fits L y b
  | _, _ => false
def csize : AV → Nat
  | .val t _ => size t
  | .junk t => size t
  | .unit => 0
  | .pair a b => csize a + csize b
  | _ => 1
def ids : AV → List Nat
  | .row g | .view g _ _ | .ptr g _ | .aptr g _ _ _ _ | .eptr g _ _ | .aslice g _ _ _ => [g]
  | .pair a b => ids a ++ ids b
  | .tup a => ids a
  | _ => []
def frz1 (L : Look) (g : Nat) : Upd := match L g with
  | some (.row e _ xs) => [(g, some (.frz e xs))]
  | _ => []
def frzs (L : Look) : List Nat → Upd
  | [] => []
  | g :: gs => frz1 L g ++ frzs L gs
def elems (L : Look) (e : Ty) : List (Nat × AV) → List (den e) → Option (List (den e))
  | [], acc => some acc
  | (i, v) :: r, acc => bif Nat.blt i acc.length then (match rdv L v e with
    | some x => elems L e r (acc.set i x)
    | none => none) else none
/-- Rows that are fixed from now on, where that may be. -/
def okFz (fz : Bool) (u : Upd) : Bool := fz || u.isEmpty
def fillF (L : Look) (T : Ty) : List (Nat × AV) → AV → Option AV
  | [], acc => some acc
  | (i, v) :: r, acc => match fldTy i T with
    | some u => bif fits L v u then (match setFld i acc v with
      | some acc' => fillF L T r acc'
      | none => none) else none
    | none => none

/-! ### Operations -/
def opnds : Op → List Operand
  | .move x | .assign x | .box _ x | .load _ x | .nilCheck x | .unOp _ _ x | .convert _ _ x | .fieldAddr _ x _ | .field _ x _ | .extract x _ => [x]
  | .pick c a b => [c, a, b]
  | .build _ ps | .buildSlice _ _ ps => ps.toList.map (·.2)
  | .store _ a v | .binOp _ _ a v _ | .makeSlice _ a v | .indexAddr _ a v | .index _ a v => [a, v]
  | .slice _ x l h m => x :: (l.toList ++ (h.toList ++ m.toList))
  | .call c => (match c.callee with | .value f => [f] | _ => []) ++ c.args.toList
  | _ => []
abbrev OpK (R : Type) := AV → Upd → List Nat → Option R
def sameOpnd : Operand → Operand → Bool
  | .tmp s, .tmp t => Nat.beq s t
  | .const (.int _ a), .const (.int _ b) => a == b
  | _, _ => false
def isNilConst : Operand → Bool
  | .const .nilIface => true
  | _ => false
def isShift : BinOp → Bool
  | .shl | .shr => true
  | _ => false
def arithC {R : Type} (op : BinOp) (k : IntKind) (a b : Int) (K : AV → Option R) : Option R :=
  match op with
  | .add => K (.val (.int k) (ad k a b))
  | .sub => K (.val (.int k) (su k a b))
  | .mul => K (.val (.int k) (mu k a b))
  | .quo => bif b == 0 then none else K (.val (.int k) (qu k a b))
  | .rem => bif b == 0 then none else K (.val (.int k) (re a b))
  | .and => K (.val (.int k) (an k a b))
  | .or => K (.val (.int k) (io k a b))
  | .xor => K (.val (.int k) (xo k a b))
  | .andNot => K (.val (.int k) (nt k a b))
  | .shl => bif decide (b < 0) then none else K (.val (.int k) (sl k a b))
  | .shr => bif decide (b < 0) then none else K (.val (.int k) (sr k a b))
  | .eql => K (.val .bool (a == b))
  | .neq => K (.val .bool (a != b))
  | .lss => K (.val .bool (decide (a < b)))
  | .leq => K (.val .bool (decide (a ≤ b)))
  | .gtr => K (.val .bool (decide (a > b)))
  | .geq => K (.val .bool (decide (a ≥ b)))
def isSlT : Option Ty → Bool
  | some (.slice _) => true
  | _ => false
def binC {R : Type} (tx : Option Ty) (L : Look) (op : BinOp) (nilSide : Bool) (x y : AV) (K : AV → Option R) : Option R :=
  match x, y with
  | .val (.int k) a, .val (.int l) b => bif Nat.beq (kb k) (kb l) || isShift op then arithC op k a b K else none
  | .val .str a, .val .str b => match op with
    | .add => match app (α := Int) a b with
      | some c => K (.val .str c)
      | none => none
    | .eql => K (.val .bool ((a : List Int) == b))
    | .neq => K (.val .bool (!((a : List Int) == b)))
    | _ => none
  | .val .ifc b, .val .ifc true => bif nilSide && isTy tx .ifc then (match op with
      | .eql => K (.val .bool b)
      | .neq => K (.val .bool (!b))
      | _ => none) else none
  | .val t a, .val u b => match toD t b with
    | some b' => bif comparable t && isTy tx t then (match op with
      | .eql => K (.val .bool (eqd t a b'))
      | .neq => K (.val .bool (!(eqd t a b')))
      | _ => none) else none
    | none => none
  | .nil, .nil => bif isSlT tx then (match op with
    | .eql => K (.val .bool true)
    | .neq => K (.val .bool false)
    | _ => none) else none
  | .row g, .nil => match L g with
    | some (.row _ true _) => bif isSlT tx then (match op with
      | .eql => K (.val .bool false)
      | .neq => K (.val .bool true)
      | _ => none) else none
    | _ => none
  | _, _ => none
def intOf : AV → Option Int
  | .val (.int _) n => some n
  | _ => none
/-- The bounds of a slice expression: the optional ones in order. -/
def bound (o : Option Operand) (vs : List AV) (dflt : Int) : Option (Int × List AV) :=
  match o, vs with
  | none, vs => some (dflt, vs)
  | some _, v :: r => match intOf v with
    | some n => some (n, r)
    | none => none
  | some _, [] => none
def sliceC {R : Type} (tt : Nat → Option Ty) (L : Look) (t : Nat) (x : AV) (l h : Option Operand) (vs : List AV) (K : AV → Option R) : Option R :=
  match tt t, x with
  | some .str, .val .str xs => match bound l vs 0 with
    | some (lo, r) => match bound h r (len (α := Int) xs) with
      | some (hi, _) => (sub (α := Int) xs lo hi).bind fun ys => K (.val .str ys)
      | none => none
    | none => none
  | some (.slice e), .val (.slice u) xs => match bound l vs 0 with
    | some (lo, r) => match bound h r (len xs) with
      | some (hi, _) => bif u.beq e then (sub xs lo hi).bind fun ys => K (.val (.slice u) ys) else none
      | none => none
    | none => none
  | some (.slice e), .row g => match L g with
    | some (.row u _ xs) => match bound l vs 0 with
      | some (lo, r) => match bound h r (len xs) with
        | some (hi, _) => bif u.beq e then (sub xs lo hi).bind fun _ => K (.view g lo hi) else none
        | none => none
      | none => none
    | some (.frz u xs) => match bound l vs 0 with
      | some (lo, r) => match bound h r (len xs) with
        | some (hi, _) => bif u.beq e then (sub xs lo hi).bind fun _ => K (.view g lo hi) else none
        | none => none
      | none => none
    | _ => none
  | some (.arr n e), .ptr g p => match l, h with
    | none, none => match L g with
      | some (.box T _) => bif isTy (tyP T p) (.arr n e) then K (.aslice g p n e) else none
      | _ => none
    | _, _ => none
  | _, _ => none
def lenC (tx : Option Ty) (L : Look) : AV → Option Int
  | .val .str xs => bif isTy tx .str then some (len (α := Int) xs) else none
  | .val (.slice _) xs => bif isSlT tx then some (len xs) else none
  | .nil => bif isSlT tx then some 0 else none
  | .row g => match L g with
    | some (.row _ _ xs) => bif isSlT tx then some (len xs) else none
    | some (.frz _ xs) => bif isSlT tx then some (len xs) else none
    | _ => none
  | .view g lo hi => match L g with
    | some (.row _ _ _) => bif isSlT tx then some (hi - lo) else none
    | some (.frz _ _) => bif isSlT tx then some (hi - lo) else none
    | _ => none
  | _ => none
def tyAt (tt : Nat → Option Ty) : List Nat → Option Ty
  | t :: _ => tt t
  | [] => none
def rdSrc (tt : Nat → Option Ty) (L : Look) (u : Nat) (e : Ty) (x : AV) : Option (List (den e)) :=
  match tt u, x with
  | some .str, .val .str y => toL e (u := .int .u8) y
  | some (.slice _), x => rdv L x (.slice e)
  | _, _ => none
def appendC {R : Type} (tt : Nat → Option Ty) (L : Look) (d : Nat) (ts : List Nat) (s x : AV) (K : OpK R) : Option R :=
  match ts with
  | [t, u] => match tt t with
    | some (.slice e) => match rdSrc tt L u e x with
      | some ys => match s with
        | .nil => (app ([] : List (den e)) ys).bind fun zs => K (.row (d * 64)) [(d * 64, some (.row e false zs))] [d * 64]
        | .row g => match L g with
          | some (.row v nn xs) => match toL e xs with
            | some xs' => bif (ids x).elem g then none else
              (app xs' ys).bind fun zs => K (.row (d * 64)) [(d * 64, some (.row e nn zs)), (g, none)] [d * 64]
            | none => none
          | _ => none
        | _ => none
      | none => none
    | _ => none
  | _ => none
/-- copy(dst, src): the destination a row of the call's own, or an array of its own, whole. -/
def copyC {R : Type} (tx : Option Ty) (L : Look) (s x : AV) (K : OpK R) : Option R :=
  match s with
  | .row g => match L g with
    | some (.row e nn xs) => bif (ids x).elem g || !(isTy tx (.slice e)) then none else match rdv L x (.slice e) with
      | some ys => K (.val (.int .i64) (mn (len ys) (len xs))) [(g, some (.row e nn (ys.take xs.length ++ xs.drop ys.length)))] []
      | none => none
    | _ => none
  | .aslice g p m e => match L g with
    | some (.box T c) => match getP p c with
      | some (.val (.arr n u) xs) => bif (ids x).elem g || !(isTy tx (.slice u)) then none else match rdv L x (.slice u) with
        | some ys => match setP p c (.val (.arr n u) (ys.take xs.length ++ xs.drop ys.length)) with
          | some c' => bif u.beq e && Nat.beq n m then K (.val (.int .i64) (mn (len ys) (len xs))) [(g, some (.box T c'))] [] else none
          | none => none
        | none => none
      | _ => none
    | _ => none
  | _ => none
def loadC {R : Type} (L : Look) (T : Ty) (p : AV) (K : AV → Option R) : Option R :=
  match p with
  | .ptr g path => match L g with
    | some (.box _ c) => match getP path c with
      | some v => bif fits L v T then K v else none
      | none => none
    | _ => none
  | .aptr g path n e i => match L g with
    | some (.box _ c) => match getP path c with
      | some (.val (.arr m u) xs) => bif Nat.beq n m && (u.beq e && u.beq T) then (rd xs i).bind fun x => K (.val u x) else none
      | _ => none
    | _ => none
  | .eptr g i path => match L g with
    | some (.row u _ xs) => (rd xs i).bind fun x => match getP path (.val u x) with
      | some v => bif fits L v T then K v else none
      | none => none
    | some (.frz u xs) => (rd xs i).bind fun x => match getP path (.val u x) with
      | some v => bif fits L v T then K v else none
      | none => none
    | _ => none
  | .sptr u x => bif u.beq T then K (.val u x) else none
  | _ => none
def storeC {R : Type} (fz : Bool) (L : Look) (T : Ty) (p v : AV) (K : Upd → Option R) : Option R :=
  match p with
  | .ptr g path => match L g with
    | some (.box T0 c) => bif isTy (tyP T0 path) T && fits L v T then (match setP path c v with
        | some c' => K [(g, some (.box T0 c'))]
        | none => none) else none
    | _ => none
  | .aptr g path n e i => match L g with
    | some (.box T0 c) => match getP path c with
      | some (.val (.arr m u) xs) => bif Nat.beq n m && (u.beq e && u.beq T) && (ids v).isEmpty then (match rdv L v u with
        | some x => (st xs i x).bind fun ys => match setP path c (.val (.arr m u) ys) with
          | some c' => K [(g, some (.box T0 c'))]
          | none => none
        | none => none) else none
      | _ => none
    | _ => none
  | .eptr g i path => match L g with
    | some (.row u nn xs) => bif (ids v).elem g || !(okFz fz (frzs L (ids v))) then none else match path with
      | [] => bif u.beq T then (match rdv L v u with
        | some x => (st xs i x).bind fun ys => K ((g, some (.row u nn ys)) :: frzs L (ids v))
        | none => none) else none
      | _ => none
    | _ => none
  | _ => none
def indexAddrC {R : Type} (tt : Nat → Option Ty) (L : Look) (t : Nat) (x : AV) (i : Int) (K : AV → Option R) : Option R :=
  match tt t, x with
  | some (.slice e), .val (.slice u) xs => bif u.beq e then (rd xs i).bind fun y => K (.sptr u y) else none
  | some (.slice e), .row g => match L g with
    | some (.row u _ xs) => bif u.beq e then (rd xs i).bind fun _ => K (.eptr g i []) else none
    | some (.frz u xs) => bif u.beq e then (rd xs i).bind fun _ => K (.eptr g i []) else none
    | _ => none
  | some (.slice e), .view g lo hi => match L g with
    | some (.row u _ xs) => bif u.beq e then (rd ((xs.take hi.toNat).drop lo.toNat) i).bind fun _ => K (.eptr g (lo + i) []) else none
    | some (.frz u xs) => bif u.beq e then (rd ((xs.take hi.toNat).drop lo.toNat) i).bind fun _ => K (.eptr g (lo + i) []) else none
    | _ => none
  | some (.arr n e), .ptr g path => match L g with
    | some (.box _ c) => match getP path c with
      | some (.val (.arr m u) xs) => bif Nat.beq n m && u.beq e then (rd xs i).bind fun _ => K (.aptr g path n e i) else none
      | _ => none
    | _ => none
  | _, _ => none
def posF (T : Ty) (i : Nat) : Bool := match fldTy i T with
  | some u => Nat.blt 0 (size u)
  | none => false
def fieldAddrC {R : Type} (tt : Nat → Option Ty) (L : Look) (s i : Nat) (p : AV) (K : AV → Option R) : Option R :=
  match tt s with
  | some Ts => bif posF Ts i then (match p with
    | .ptr g q => match L g with
      | some (.box T0 _) => bif isTy (tyP T0 q) Ts then K (.ptr g (q ++ [i])) else none
      | _ => none
    | .eptr g j q => match L g with
      | some (.row e _ _) => bif isTy (tyP e q) Ts then K (.eptr g j (q ++ [i])) else none
      | some (.frz e _) => bif isTy (tyP e q) Ts then K (.eptr g j (q ++ [i])) else none
      | _ => none
    | .sptr t x => bif t.beq Ts then (match fld i (.val t x) with
      | some (.val u y) => K (.sptr u y)
      | _ => none) else none
    | _ => none) else none
  | none => none
def fieldC {R : Type} (tt : Nat → Option Ty) (L : Look) (s i : Nat) (v : AV) (K : AV → Option R) : Option R :=
  match tt s with
  | some Ts => bif fits L v Ts then (match fld i v with
    | some w => K w
    | none => none) else none
  | none => none
def convC {R : Type} (tt : Nat → Option Ty) (L : Look) (s t : Nat) (x : AV) (K : AV → Option R) : Option R :=
  match tt s, tt t with
  | some (.int _), some (.int k) => match intOf x with
    | some n => K (.val (.int k) (cv k n))
    | none => none
  | some (.slice (.int .u8)), some .str => match rdv L x (.slice (.int .u8)) with
    | some xs => K (.val .str xs)
    | none => none
  | _, _ => none
def mxs (f : Int → Int → Int) : List AV → Int → Option Int
  | [], a => some a
  | .val (.int .i64) b :: r, a => mxs f r (f a b)
  | _, _ => none
def isRec : Ty → Bool
  | .unit | .pair _ _ => true
  | _ => false
def opC {R : Type} (tt : Nat → Option Ty) (fz : Bool) (L : Look) (d : Nat) (o : Op) (vs : List AV) (K : OpK R) : Option R :=
  match o, vs with
  | .move _, [v] => K v [] []
  | .assign _, [v] => K v [] []
  | .pick _ _ _, [.val .bool c, .val .bool a, .val .bool b] => K (.val .bool (cond c a b)) [] []
  | .pick _ _ _, [.val .bool c, a, b] => cond c (K a [] []) (K b [] [])
  | .alloc t, [] => match tt t with
    | some T => K (.ptr (d * 64) []) [(d * 64, some (.box T (zav T)))] [d * 64]
    | none => none
  | .box t _, [v] => match tt t with
    | some T => bif fits L v T then K (.ptr (d * 64) []) [(d * 64, some (.box T v))] [d * 64] else none
    | none => none
  | .build t parts, vs => match tt t with
    | some (.arr n e) => bif (vs.flatMap ids).isEmpty then (match elems L e ((parts.toList.map (·.1)).zip vs) (List.replicate n (zero e)) with
      | some xs => K (.val (.arr n e) xs) [] []
      | none => none) else none
    | some T => bif isRec T then (match fillF L T ((parts.toList.map (·.1)).zip vs) (zav T) with
      | some v => K v [] []
      | none => none) else none
    | none => none
  | .buildSlice t n parts, vs => match tt t with
    | some (.slice e) => bif Nat.ble (n * size e) 16777216 && Nat.ble n 16777216 && okFz fz (frzs L (vs.flatMap ids)) then (match elems L e ((parts.toList.map (·.1)).zip vs) (List.replicate n (zero e)) with
      | some xs => K (.row (d * 64)) ((d * 64, some (.row e true xs)) :: frzs L (vs.flatMap ids)) [d * 64]
      | none => none) else none
    | _ => none
  | .load t _, [p] => match tt t with
    | some T => loadC L T p fun v => K v [] []
    | none => none
  | .store t _ _, [p, v] => match tt t with
    | some T => storeC fz L T p v fun u => K .dead u []
    | none => none
  | .nilCheck _, [.ptr g p] => match L g with
    | some (.box _ _) => K (.ptr g p) [] []
    | _ => none
  | .binOp op xt x y _, [a, b] => binC (tt xt) L op (isNilConst x || isNilConst y) a b fun v => K v [] []
  | .unOp .not _ _, [.val .bool b] => K (.val .bool (!b)) [] []
  | .unOp .neg _ _, [.val (.int k) n] => K (.val (.int k) (su k 0 n)) [] []
  | .convert s t _, [x] => convC tt L s t x fun v => K v [] []
  | .makeSlice t l c, [.val (.int .i64) n, .val (.int .i64) _] => bif sameOpnd l c then (match tt t with
    | some (.slice e) => (mk n (zero e)).bind fun xs => K (.row (d * 64)) [(d * 64, some (.row e true xs))] [d * 64]
    | _ => none) else none
  | .slice t _ l h none, x :: vs => sliceC tt L t x l h vs fun v => K v [] []
  | .fieldAddr s _ i, [p] => fieldAddrC tt L s i p fun v => K v [] []
  | .field s _ i, [v] => fieldC tt L s i v fun v => K v [] []
  | .indexAddr t _ _, [x, .val (.int .i64) i] => indexAddrC tt L t x i fun v => K v [] []
  | .index t _ _, [.val .str xs, .val (.int _) i] => bif isTy (tt t) .str then (rd (α := Int) xs i).bind fun c => K (.val (.int .u8) c) [] [] else none
  | .extract _ i, [.tup a] => match fld i a with
    | some w => K w [] []
    | none => none
  | .call c, vs => match c.callee, vs with
    | .builtin .len, [x] => match lenC (tyAt tt c.argTypes.toList) L x with
      | some n => K (.val (.int .i64) n) [] []
      | none => none
    | .builtin .append, [s, x] => appendC tt L d c.argTypes.toList s x K
    | .builtin .copy, [s, x] => copyC (tyAt tt c.argTypes.toList) L s x K
    | .builtin .max, .val (.int .i64) a :: r => match mxs mx r a with
      | some n => K (.val (.int .i64) n) [] []
      | none => none
    | .builtin .min, .val (.int .i64) a :: r => match mxs mn r a with
      | some n => K (.val (.int .i64) n) [] []
      | none => none
    | _, _ => none
  | _, _ => none

/-! ### What functions and loops take and give -/
inductive Mode where
  | sh (t : Ty)
  | own (e : Ty) (nn : Bool)
  | opt (e : Ty)
  | unit
  | pair (a b : Mode)
  | pbox (m : Mode)
@[reducible] def denM : Mode → Type
  | .sh t => den t
  | .own e _ => List (den e)
  | .opt e => Option (List (den e))
  | .unit => Unit
  | .pair a b => denM a × denM b
  | .pbox m => denM m
/-- The type of what a mode has in memory. -/
def tyM : Mode → Ty
  | .sh t => t
  | .own e _ => .slice e
  | .opt e => .slice e
  | .unit => .unit
  | .pair a b => .pair (tyM a) (tyM b)
  | .pbox _ => .unit
def tyOk : Mode → Bool
  | .pair a b => tyOk a && tyOk b
  | .pbox _ => false
  | _ => true
def unM {R : Type} : (m : Mode) → denM m → (base c : Nat) → (AV → Upd → List Nat → Nat → Option R) → Option R
  | .sh t, x, _, c, K => K (.val t x) [] [] c
  | .own e nn, xs, b, c, K => K (.row (b + c)) [(b + c, some (.row e nn xs))] [b + c] (c + 1)
  | .opt e, x, b, c, K => match x with
    | none => K .nil [] [] c
    | some xs => K (.row (b + c)) [(b + c, some (.row e true xs))] [b + c] (c + 1)
  | .unit, _, _, c, K => K .unit [] [] c
  | .pair m n, x, b, c, K => unM m x.1 b c fun v u w c => unM n x.2 b c fun v' u' w' c => K (.pair v v') (u ++ u') (w ++ w') c
  | .pbox m, x, b, c, K => unM m x b (c + 1) fun v u w c' => bif tyOk m then K (.ptr (b + c) []) ((b + c, some (.box (tyM m) v)) :: u) ((b + c) :: w) c' else none
/-- A value taken as a mode has it: the data, the objects that are handed over. -/
def pkM (L : Look) : (m : Mode) → AV → Option (denM m × List Nat)
  | .sh t, v => match rdv L v t with
    | some x => some (x, [])
    | none => none
  | .own e nn, .row g => match L g with
    | some (.row _ b xs) => bif !nn || b then (match toL e xs with
      | some ys => some (ys, [g])
      | none => none) else none
    | _ => none
  | .own e nn, .view g lo hi => match L g with
    | some (.row _ _ xs) => bif !nn then (match toL e ((xs.take hi.toNat).drop lo.toNat) with
      | some ys => some (ys, [g])
      | none => none) else none
    | _ => none
  | .own _ nn, .nil => bif nn then none else some ([], [])
  | .opt _, .nil => some (none, [])
  | .opt e, .row g => match L g with
    | some (.row _ true xs) => (match toL e xs with
      | some ys => some (some ys, [g])
      | none => none)
    | _ => none
  | .unit, .unit => some ((), [])
  | .pair m n, .pair a b => match pkM L m a with
    | some (x, g) => match pkM L n b with
      | some (y, h) => some ((x, y), g ++ h)
      | none => none
    | none => none
  | .pbox m, .ptr g [] => match L g with
    | some (.box T c) => bif T.beq (tyM m) then (match pkM L m c with
      | some (x, h) => some (x, g :: h)
      | none => none) else none
    | _ => none
  | _, _ => none
/-- The objects that are only read: they must not be handed over, too. -/
def shIds (L : Look) : Mode → AV → List Nat
  | .sh _, v => ids v
  | .pair m n, .pair a b => shIds L m a ++ shIds L n b
  | .pbox m, .ptr g _ => match L g with
    | some (.box _ c) => shIds L m c
    | _ => []
  | _, _ => []
def nodupB : List Nat → Bool
  | [] => true
  | x :: r => !(r.elem x) && nodupB r
def disjB (a b : List Nat) : Bool := a.all fun x => !(b.elem x)

inductive PM where
  | v (t : Ty)
  | p (m : Mode)
  | f (k : Nat)
@[reducible] def denPs : List PM → Type
  | [] => Unit
  | .v t :: r => den t × denPs r
  | .p m :: r => denM m × denPs r
  | .f _ :: r => denPs r
/-- What stands behind the pointers that are handed in is handed back behind the results. -/
@[reducible] def outM : List PM → List Mode
  | [] => []
  | .p m :: r => m :: outM r
  | .v _ :: r => outM r
  | .f _ :: r => outM r
@[reducible] def denRs : List Mode → Type
  | [] => Unit
  | [m] => denM m
  | m :: n :: r => denM m × denRs (n :: r)
def unMs {R : Type} : (ms : List Mode) → denRs ms → (base c : Nat) → (List AV → Upd → List Nat → Nat → Option R) → Option R
  | [], _, _, c, K => K [] [] [] c
  | [m], x, b, c, K => unM m x b c fun v u w c => K [v] u w c
  | m :: n :: r, x, b, c, K => unM m x.1 b c fun v u w c => unMs (n :: r) x.2 b c fun vs u' w' c => K (v :: vs) (u ++ u') (w ++ w') c
def pkMs (L : Look) : (ms : List Mode) → List AV → Option (denRs ms × List Nat × List Nat)
  | [], [] => some ((), [], [])
  | [m], [a] => match pkM L m a with
    | some (x, o) => some (x, o, shIds L m a)
    | none => none
  | m :: n :: r, a :: as => match pkM L m a with
    | some (x, o) => match pkMs L (n :: r) as with
      | some (y, o', s) => some ((x, y), o ++ o', shIds L m a ++ s)
      | none => none
    | none => none
  | _, _ => none
/-- What is known of a function: its parameters, its results, and the Lean function that it computes. -/
structure Sig where
  ps : List PM
  res : List Mode
  F : Nat → denPs ps → Option (denRs (res ++ outM ps))
end Go.Ev
/- The evaluator: states, regions, code. -/
namespace Go.Ev

structure AState where
  tmp : Nat → AV
  obj : Nat → Option Obj
  used : Nat → Bool
def bytesL (s : ByteArray) : List Int := s.data.toList.map fun b => (b.toNat : Int)
def loK : IntKind → Int
  | .i8 => -128 | .i16 => -32768 | .i32 => -2147483648 | .i64 => -9223372036854775808 | _ => 0
def hiK : IntKind → Int
  | .i8 => 127 | .i16 => 32767 | .i32 => 2147483647 | .i64 => 9223372036854775807
  | .u8 => 255 | .u16 => 65535 | .u32 => 4294967295 | .u64 => 18446744073709551615
def inK (k : IntKind) (n : Int) : Bool := decide (loK k ≤ n) && decide (n ≤ hiK k)
def cav : Value → AV
  | .int k n => bif inK k n then .val (.int k) n else .dead
  | .bool b => .val .bool b
  | .string s => bif Nat.ble s.size 281474976710656 then .val .str (bytesL s) else .dead
  | .slice none 0 0 => .nil
  | .pointer none => .pnil
  | .nilIface => .val .ifc true
  | _ => .dead
def AState.opnd (S : AState) : Operand → AV
  | .tmp t => S.tmp t
  | .const v => cav v
  | .func f => .fn f
  | .global _ => .dead
def AState.set (S : AState) (t : Nat) (v : AV) : AState := { S with tmp := fun i => bif Nat.beq i t then v else S.tmp i }
def AState.put (S : AState) (t : Option Nat) (v : AV) : AState := match t with
  | some t => S.set t v
  | none => S
def assoc : Upd → Nat → Option (Option Obj)
  | [], _ => none
  | (h, o) :: r, g => bif Nat.beq g h then some o else assoc r g
def AState.upd (S : AState) (u : Upd) (w : List Nat) : AState :=
  { S with obj := fun g => match assoc u g with
             | some o => o
             | none => S.obj g
           used := fun g => w.elem g || S.used g }
def kids (o : Option Obj) : List Nat := match o with
  | some (.box _ c) => ids c
  | _ => []
def deps (S : AState) (vs : List AV) : List Nat := vs.flatMap ids ++ (vs.flatMap ids).flatMap fun g => kids (S.obj g)
/-- Operations that look at no object. -/
def isMv : Op → Bool
  | .move _ | .assign _ => true
  | _ => false
def depsO (o : Op) (S : AState) (vs : List AV) : List Nat := bif isMv o then [] else deps S vs
def lookOf (S : AState) (vs : List AV) : Look := fun g => bif (deps S vs).elem g then S.obj g else none

/-! ### Calls -/
def pkPs (L : Look) : (ps : List PM) → List AV → Option (denPs ps × List Nat × List Nat)
  | [], [] => some ((), [], [])
  | .v t :: r, a :: as => match rdv L a t with
    | some x => match pkPs L r as with
      | some (y, o, s) => some ((x, y), o, ids a ++ s)
      | none => none
    | none => none
  | .p m :: r, .ptr g [] :: as => match L g with
    | some (.box T c) => bif T.beq (tyM m) && tyOk m then (match pkM L m c with
      | some (x, h) => match pkPs L r as with
        | some (y, o, s) => some ((x, y), g :: h ++ o, shIds L m c ++ s)
        | none => none
      | none => none) else none
    | _ => none
  | .f k :: r, .fn j :: as => bif Nat.beq k j then (match pkPs L r as with
    | some (y, o, s) => some (y, o, s)
    | none => none) else none
  | _, _ => none
/-- The boxes behind the pointers that were handed in, with what they hold now. -/
def putO : List PM → List AV → List AV → Upd
  | .p m :: r, .ptr g _ :: as, v :: vs => (g, some (.box (tyM m) v)) :: putO r as vs
  | .v _ :: r, _ :: as, vs => putO r as vs
  | .f _ :: r, _ :: as, vs => putO r as vs
  | _, _, _ => []
/-- May a result share memory with an argument? -/
def shares : Mode → Bool
  | .sh t => hasSl t
  | .own e _ => hasSl e
  | .opt e => hasSl e
  | .pair a b => shares a || shares b
  | .pbox m => shares m
  | _ => false
def sharesL : List Mode → Bool
  | [] => false
  | m :: r => shares m || sharesL r
def kills (l : List Nat) : Upd := l.map fun g => (g, none)
def chain : List AV → AV
  | [] => .unit
  | a :: r => .pair a (chain r)
/-- The results as one value: one by itself, several as a tuple. -/
def oneV (res : List Mode) (vs : List AV) : AV := match res, vs with
  | [_], v :: _ => v
  | _, vs => .tup (chain (vs.take res.length))
def callC {R : Type} (fz : Bool) (fns : Nat → Option Sig) (k : Nat) (L : Look) (d : Nat) (vs : List AV) (K : OpK R) : Option R :=
  match vs with
  | .fn f :: as => match fns f with
    | some sg => match pkPs L sg.ps as with
      | some (x, o, s) => bif nodupB o && (disjB o s && okFz fz (bif sharesL (sg.res ++ outM sg.ps) then frzs L s else [])) then ((sg.F k x).bind fun y => unMs (sg.res ++ outM sg.ps) y (d * 64) 0 fun vs u w _ =>
          K (oneV sg.res vs) (u ++ (putO sg.ps as (vs.drop sg.res.length) ++ (kills o ++ bif sharesL (sg.res ++ outM sg.ps) then frzs L s else []))) w) else none
      | none => none
    | none => none
  | _ => none

/-! ### Regions -/
def stepC {R : Type} (tt : Nat → Option Ty) (fz : Bool) (fns : Nat → Option Sig) (k : Nat) (d : Nat) (o : Oper) (S : AState) (vs : List AV) (K : OpK R) : Option R :=
  match o.op with
  | .call c => match c.callee with
    | .value _ => callC fz fns k (lookOf S vs) d vs K
    | _ => opC tt fz (lookOf S vs) d o.op vs K
  | _ => opC tt fz (lookOf S vs) d o.op vs K
def dstOf (rid i : Nat) (o : Oper) : Nat := match o.dst with
  | some t => t
  | none => 4096 + rid * 256 + i
def inB (n : Nat) : Option Nat → Bool
  | some t => Nat.blt t n
  | none => true
def doOp {R : Type} (tt : Nat → Option Ty) (fz : Bool) (fns : Nat → Option Sig) (k n : Nat) (rid i : Nat) (o : Oper) (S : AState) (K : Upd → List Nat → AState → Option R) : Option R :=
  stepC tt fz fns k (dstOf rid i o) o S ((opnds o.op).map S.opnd) fun v u w =>
    bif inB n o.dst && (nodupB w && w.all (fun g => !(S.used g))) then K u w ((S.upd u w).put o.dst v) else none
/-- Of a guarded operation: is it carried out? -/
def guardC {R : Type} (all : List Oper) (o : Oper) (S : AState) (skip run : AState → Option R) : Option R :=
  match o.guard with
  | none => run S
  | some (j, want) => match (all[j]?).bind (·.dst) with
    | some t => match S.tmp t with
      | .val .bool c => cond c (cond want (run (S.set t (.val .bool true))) (skip (S.set t (.val .bool true))))
          (cond want (skip (S.set t (.val .bool false))) (run (S.set t (.val .bool false))))
      | .undef => skip S
      | _ => none
    | none => skip S
def evOps {R : Type} (tt : Nat → Option Ty) (fz : Bool) (fns : Nat → Option Sig) (k n : Nat) (rid : Nat) (all : List Oper) : List Oper → Nat → AState → (AState → Option R) → Option R
  | [], _, S, K => K S
  | o :: os, i, S, K => guardC all o S (fun S => bif inB n o.dst then evOps tt fz fns k n rid all os (i + 1) (S.put o.dst .undef) K else none)
      (fun S => doOp tt fz fns k n rid i o S fun _ _ S' => evOps tt fz fns k n rid all os (i + 1) S' K)

/-! A region whose order is open: what is not ordered must not meet. -/
structure Foot where
  i : Nat
  rt : List Nat
  ro : List Nat
  wt : List Nat
  wo : List Nat
def tmpsOf : List Operand → List Nat
  | [] => []
  | .tmp t :: r => t :: tmpsOf r
  | _ :: r => tmpsOf r
def maskOf (ms : List Nat) : List Edge → Nat
  | [] => 0
  | e :: r => (bif Region.binds .any e then Nat.lor (Nat.shiftLeft 1 e.on) (ms.getD e.on 0) else 0).lor (maskOf ms r)
def masks : List Oper → List Nat → List Nat
  | [], ms => ms
  | o :: r, ms => masks r (ms ++ [maskOf ms o.after.toList])
def meet (a b : List Nat) : Bool := a.any fun x => b.elem x
def clash (f g : Foot) : Bool := meet f.wt g.rt || meet f.wt g.wt || meet f.rt g.wt || meet f.wo g.ro || meet f.wo g.wo || meet f.ro g.wo
def clear (ms : List Nat) (f : Foot) : List Foot → Bool
  | [] => true
  | g :: r => ((ms.getD f.i 0).testBit g.i || !(clash f g)) && clear ms f r
/-- What an operation waits for stands ahead of it. -/
def edgesOk : List Oper → Nat → Bool
  | [], _ => true
  | o :: r, i => o.after.toList.all (fun e => !(Region.binds .any e) || Nat.blt e.on i) && edgesOk r (i + 1)
def guardT (all : List Oper) (o : Oper) : List Nat := match o.guard with
  | some (j, _) => match (all[j]?).bind (·.dst) with
    | some t => [t]
    | none => []
  | none => []
def evOpsD {R : Type} (tt : Nat → Option Ty) (fz : Bool) (fns : Nat → Option Sig) (k n : Nat) (rid : Nat) (all : List Oper) (ms : List Nat) : List Oper → Nat → List Foot → AState → (AState → Option R) → Option R
  | [], _, _, S, K => K S
  | o :: os, i, fs, S, K => guardC all o S
      (fun S => bif inB n o.dst && clear ms ⟨i, guardT all o, [], o.dst.toList, []⟩ fs then
        evOpsD tt fz fns k n rid all ms os (i + 1) (⟨i, guardT all o, [], o.dst.toList, []⟩ :: fs) (S.put o.dst .undef) K else none)
      (fun S => doOp tt fz fns k n rid i o S fun u w S' =>
        bif clear ms ⟨i, guardT all o ++ tmpsOf (opnds o.op), depsO o.op S ((opnds o.op).map S.opnd), o.dst.toList, u.map (·.1) ++ w⟩ fs then
          evOpsD tt fz fns k n rid all ms os (i + 1) (⟨i, guardT all o ++ tmpsOf (opnds o.op), depsO o.op S ((opnds o.op).map S.opnd), o.dst.toList, u.map (·.1) ++ w⟩ :: fs) S' K else none)

/-! ### Code -/
@[reducible] def denI : List (Nat × Mode) → Type
  | [] => Unit
  | [(_, m)] => denM m
  | (_, m) :: r => denM m × denI r
/-- What is kept over a loop: the slots with their modes, and boxes whose content nobody reads. -/
abbrev Items := List (Nat × Mode)
inductive LSpec (R : Type) where
  | mk (inn out : Items) (keep : List (Nat × Ty)) (F : Nat → denI inn → Option (denI out))
  | mkR (inn out : Items) (keep : List (Nat × Ty)) (F : Nat → denI inn → Option (denI out ⊕ R))
def keepS : List (Nat × Ty) → AState
  | [] => ⟨fun _ => .dead, fun _ => none, fun _ => false⟩
  | (s, t) :: r => ((keepS r).upd [(s * 64, some (.box t (.junk t)))] [s * 64]).set s (.ptr (s * 64) [])
def unI {R : Type} : (is : Items) → denI is → AState → (AState → Option R) → Option R
  | [], _, S, K => K S
  | [(s, m)], x, S, K => unM m x (s * 64) 0 fun v u w _ => K ((S.upd u w).set s v)
  | (s, m) :: i :: r, x, S, K => unM m x.1 (s * 64) 0 fun v u w _ => unI (i :: r) x.2 ((S.upd u w).set s v) K
/-- A box that was handed in keeps its number. -/
def homeB (fx : List Nat) (s : Nat) (m : Mode) (v : AV) : Bool := match m, v with
  | .pbox _, .ptr g _ => Nat.beq g (s * 64) || !(fx.elem s)
  | .pbox _, _ => false
  | _, _ => true
def pkI (fx : List Nat) (S : AState) : (is : Items) → Option (denI is × List Nat × List Nat)
  | [] => some ((), [], [])
  | [(s, m)] => match pkM S.obj m (S.tmp s) with
    | some (x, o) => bif homeB fx s m (S.tmp s) then some (x, o, shIds S.obj m (S.tmp s)) else none
    | none => none
  | (s, m) :: i :: r => match pkM S.obj m (S.tmp s) with
    | some (x, o) => bif homeB fx s m (S.tmp s) then (match pkI fx S (i :: r) with
      | some (y, o', h) => some ((x, y), o ++ o', shIds S.obj m (S.tmp s) ++ h)
      | none => none) else none
    | none => none
def keepB (S : AState) : List (Nat × Ty) → Option (List Nat)
  | [] => some []
  | (s, t) :: r => match S.tmp s with
    | .ptr g [] => match S.obj g with
      | some (.box T _) => bif Nat.beq g (s * 64) && T.beq t then (match keepB S r with
        | some l => some (g :: l)
        | none => none) else none
      | _ => none
    | _ => none
def pack {A : Type} (fx : List Nat) (fz : Bool) (S : AState) (is : Items) (keep : List (Nat × Ty)) (K : denI is → Option A) : Option A :=
  match pkI fx S is with
  | some (x, o, h) => match keepB S keep with
    | some l => bif nodupB (o ++ l) && (disjB (o ++ l) h && okFz fz (frzs S.obj h)) then K x else none
    | none => none
  | none => none
structure CEnv (R0 : Type) where
  tt : Nat → Option Ty
  fz : Bool
  fns : Nat → Option Sig
  k : Nat
  n : Nat
  fx : List Nat
  loops : Nat → Option (LSpec R0)
  ret : AState → Option R0
def modeN : Mode → Nat
  | .sh _ | .unit => 0
  | .own _ _ | .opt _ => 1
  | .pair m n => modeN m + modeN n
  | .pbox m => modeN m + 1
def isPb : Mode → Bool
  | .pbox _ => true
  | _ => false
/-- Every slot once, no slot with too many objects, every box that was handed in among them. -/
def itemsOk (fx : List Nat) (is : Items) (keep : List (Nat × Ty)) : Bool :=
  nodupB (is.map (·.1) ++ keep.map (·.1)) && (is.all (fun p => Nat.ble (modeN p.2) 60) && fx.all fun i => is.any (fun p => Nat.beq p.1 i && isPb p.2) || keep.any (fun p => Nat.beq p.1 i))
def loopC {R R0 : Type} (e : CEnv R0) (id : Nat) (S : AState) (kn : AState → Option R) (kr : R0 → Option R) : Option R :=
  match e.loops id with
  | some (.mk inn out keep F) => bif itemsOk e.fx inn keep && itemsOk e.fx out keep then pack e.fx e.fz S inn keep fun x => (F e.k x).bind fun y => unI out y (keepS keep) kn else none
  | some (.mkR inn out keep F) => bif itemsOk e.fx inn keep && itemsOk e.fx out keep then pack e.fx e.fz S inn keep fun x => (F e.k x).bind fun
    | .inl y => unI out y (keepS keep) kn
    | .inr r => kr r
    else none
  | none => none
def ev {R R0 : Type} (e : CEnv R0) : Code → AState → (AState → Option R) → (Nat → AState → Option R) → (R0 → Option R) → Option R
  | .skip, S, kn, _, _ => kn S
  | .region rid ops draw, S, kn, _, _ => cond draw
      (cond (edgesOk ops.toList 0) (evOpsD e.tt e.fz e.fns e.k e.n rid ops.toList (masks ops.toList []) ops.toList 0 [] S kn) none)
      (evOps e.tt e.fz e.fns e.k e.n rid ops.toList ops.toList 0 S kn)
  | .seq a b, S, kn, kx, kr => ev e a S (fun S => ev e b S kn kx kr) kx kr
  | .cond c a b, S, kn, kx, kr => match S.opnd c with
    | .val .bool x => cond x (ev e a S kn kx kr) (ev e b S kn kx kr)
    | _ => none
  | .block id (.loop _), S, kn, _, kr => loopC e id S kn kr
  | .block id c, S, kn, kx, kr => ev e c S kn (fun j S => bif Nat.beq j id then kn S else kx j S) kr
  | .exit j, S, _, kx, _ => kx j S
  | .ret, S, _, _, kr => (e.ret S).bind kr
  | _, _, _, _, _ => none

/-! ### Functions -/
def cellV (tt : Nat → Option Ty) (S : AState) (t ty : Nat) : AV := match S.tmp t with
  | .ptr g [] => match S.obj g with
    | some (.box T c) => bif isTy (tt ty) T then c else .dead
    | _ => .dead
  | _ => .dead
def resV (tt : Nat → Option Ty) (S : AState) : List ResultVar → List AV
  | [] => []
  | .tmp t :: r => S.tmp t :: resV tt S r
  | .cell t ty :: r => cellV tt S t ty :: resV tt S r
/-- What stands behind the pointers at the end: (the boxes, what they hold). -/
def outV (S : AState) : List PM → Nat → Option (List Nat × List AV)
  | [], _ => some ([], [])
  | .p _ :: r, i => match S.obj (i * 64) with
    | some (.box _ c) => match outV S r (i + 1) with
      | some (g, vs) => some ((i * 64) :: g, c :: vs)
      | none => none
    | _ => none
  | .v _ :: r, i => outV S r (i + 1)
  | .f _ :: r, i => outV S r (i + 1)
def ownM : Mode → Bool
  | .own _ _ | .opt _ | .pbox _ => true
  | .pair a b => ownM a || ownM b
  | _ => false
/-- No box that is handed in owns a row. -/
def fzOf : List PM → Bool
  | [] => true
  | .p m :: r => !(ownM m) && fzOf r
  | _ :: r => fzOf r
def fxOf : List PM → Nat → List Nat
  | [], _ => []
  | .p _ :: r, i => i :: fxOf r (i + 1)
  | _ :: r, i => fxOf r (i + 1)
def retC (tt : Nat → Option Ty) (ps : List PM) (res : List Mode) (rs : List ResultVar) (S : AState) : Option (denRs (res ++ outM ps)) :=
  match outV S ps 0 with
  | some (g, vs) => match pkMs S.obj (res ++ outM ps) (resV tt S rs ++ vs) with
    | some (x, o, s) => bif nodupB (g ++ o) && (disjB (g ++ o) s && okFz (fzOf ps) (frzs S.obj s)) then some x else none
    | none => none
  | none => none
def parS {R : Type} : (ps : List PM) → denPs ps → Nat → AState → (AState → Option R) → Option R
  | [], _, _, S, K => K S
  | .v t :: r, x, i, S, K => parS r x.2 (i + 1) (S.set i (.val t x.1)) K
  | .p m :: r, x, i, S, K => bif Nat.ble (modeN (.pbox m)) 60 then unM (.pbox m) x.1 (i * 64) 0 fun v u w _ => parS r x.2 (i + 1) ((S.upd u w).set i v) K else none
  | .f k :: r, x, i, S, K => parS r x (i + 1) (S.set i (.fn k)) K
def S0 : AState := ⟨fun _ => .dead, fun _ => none, fun _ => false⟩
abbrev Loops (ps : List PM) (res : List Mode) := Nat → Option (LSpec (denRs (res ++ outM ps)))
def runC (tt : Nat → Option Ty) (fns : Nat → Option Sig) (k n : Nat) (rs : List ResultVar) (c : Code) (ps : List PM) (res : List Mode)
    (loops : Loops ps res) (x : denPs ps) : Option (denRs (res ++ outM ps)) :=
  parS ps x 0 S0 fun S => ev ⟨tt, fzOf ps, fns, k, n, fxOf ps 0, loops, retC tt ps res rs⟩ c S (fun S => retC tt ps res rs S) (fun _ _ => none) some
def bodyOf (fn : Func) : Code := match fn.body with
  | some c => c
  | none => .refuse ""
def runF (tt : Nat → Option Ty) (fns : Nat → Option Sig) (k : Nat) (fn : Func) (ps : List PM) (res : List Mode)
    (loops : Loops ps res) (x : denPs ps) : Option (denRs (res ++ outM ps)) := runC tt fns k fn.ntmps fn.results.toList (bodyOf fn) ps res loops x
/-- One round of a loop: the code within 'block id (loop ..)', out of the function's code. -/
def findL (id : Nat) : Code → Code
  | .seq a b => match findL id a with
    | .refuse _ => findL id b
    | c => c
  | .cond _ a b => match findL id a with
    | .refuse _ => findL id b
    | c => c
  | .block j (.loop c) => bif Nat.beq j id then c else findL id c
  | .block _ c => findL id c
  | .loop c => findL id c
  | _ => .refuse ""
def roundM {R0 : Type} (e : CEnv R0) (id : Nat) (inn out : Items) (keep : List (Nat × Ty)) (F : denI inn → Option (denI out)) (c : Code) (x : denI inn) : Option (denI out) :=
  unI inn x (keepS keep) fun S => ev e c S (fun S => pack e.fx e.fz S inn keep F)
    (fun j S => bif Nat.beq j id then pack e.fx e.fz S out keep some else none) (fun _ => none)
def roundR {R0 : Type} (e : CEnv R0) (id : Nat) (inn out : Items) (keep : List (Nat × Ty)) (F : denI inn → Option (denI out ⊕ R0)) (c : Code) (x : denI inn) : Option (denI out ⊕ R0) :=
  unI inn x (keepS keep) fun S => ev e c S (fun S => pack e.fx e.fz S inn keep F)
    (fun j S => bif Nat.beq j id then pack e.fx e.fz S out keep (fun y => some (.inl y)) else none) (fun r => some (.inr r))
/-- What is said of a loop of a function: one round of it, whatever comes of the next ones. -/
def runL (tt : Nat → Option Ty) (fns : Nat → Option Sig) (k : Nat) (fn : Func) (ps : List PM) (res : List Mode) (loops : Loops ps res) (id : Nat) : LSpec (denRs (res ++ outM ps)) → Prop
  | .mk inn out keep F => ∀ x, roundM ⟨tt, fzOf ps, fns, k, fn.ntmps, fxOf ps 0, loops, retC tt ps res fn.results.toList⟩ id inn out keep (F k) (findL id (bodyOf fn)) x = F (k + 1) x
  | .mkR inn out keep F => ∀ x, roundR ⟨tt, fzOf ps, fns, k, fn.ntmps, fxOf ps 0, loops, retC tt ps res fn.results.toList⟩ id inn out keep (F k) (findL id (bodyOf fn)) x = F (k + 1) x
end Go.Ev
