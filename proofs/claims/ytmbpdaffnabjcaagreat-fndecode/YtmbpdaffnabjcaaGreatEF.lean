/- The evaluator against the model: loops, arguments, results. No condition. -/
import Derived.Test.YtmbpdaffnabjcaaGreatEE
import Derived.LoopN
set_option linter.unusedVariables false
set_option linter.unusedSimpArgs false
set_option linter.unusedSectionVars false
/- The evaluator is right about code. -/
namespace Go.Ev
def loopsIn : Code → List (Nat × Code)
  | .seq a b => loopsIn a ++ loopsIn b
  | .cond _ a b => loopsIn a ++ loopsIn b
  | .block id (.loop c) => (id, c) :: loopsIn c
  | .block _ c => loopsIn c
  | .loop c => loopsIn c
  | _ => []
section
variable {P : Program} {F : Fr} {R0 : Type}
structure EnvOK (P : Program) (F : Fr) (e : CEnv R0) : Prop where
  hT : TOK P e.tt
  hn : e.n = F.n
  hF : e.fz = true → ∀ b, ¬ F.Mr b
  hfns : ∀ f sg, e.fns f = some sg → CallOK P f sg e.k
  hm : P.follows .mixedOrders = true
  hfx : ∀ g v, (g, v) ∈ F.fixed → ∃ i ∈ e.fx, g = i * 64
/-- What is known of a loop, as far as the fuel goes. -/
def LoopAt (P : Program) (F : Fr) (e : CEnv R0) (RetR : R0 → Act → World → Prop) (n : Option Nat) (id : Nat) (c : Code) : LSpec R0 → Prop
  | .mk inn out keep Fl => itemsOk e.fx inn keep = true → itemsOk e.fx out keep = true → ∀ x y, Fl e.k x = some y → ∀ a w, Ready F inn keep x a w → ∀ Q : Exit → Act → World → Prop, (∀ a' w', Ready F out keep y a' w' → Q (.exit id) a' w') →
      (match n with | some n => Code.rounds P c Q n a w | none => (Code.loop c).wp P Q a w)
  | .mkR inn out keep Fl => itemsOk e.fx inn keep = true → itemsOk e.fx out keep = true → ∀ x z, Fl e.k x = some z → ∀ a w, Ready F inn keep x a w → ∀ Q : Exit → Act → World → Prop, (∀ y a' w', z = .inl y → Ready F out keep y a' w' → Q (.exit id) a' w') →
      (∀ r0 a' w', z = .inr r0 → RetR r0 a' w' → Q .ret a' w') → (match n with | some n => Code.rounds P c Q n a w | none => (Code.loop c).wp P Q a w)
theorem LoopAt.loop {e : CEnv R0} {RetR : R0 → Act → World → Prop} {n id : Nat} {c : Code} {sp : LSpec R0} (h : LoopAt P F e RetR (some n) id c sp) : LoopAt P F e RetR none id c sp := by
  cases sp with
  | mk inn out keep Fl => exact fun h1 h2 x y hy a w hr Q hQ => wp_loop_rounds n (h h1 h2 x y hy a w hr Q hQ)
  | mkR inn out keep Fl => exact fun h1 h2 x y hy a w hr Q hQ hQ' => wp_loop_rounds n (h h1 h2 x y hy a w hr Q hQ hQ')
theorem ev_ok {e : CEnv R0} (he : EnvOK P F e) {RetR : R0 → Act → World → Prop} (hret : ∀ S a w C z, Sim F S a w C → e.ret S = some z → RetR z a w) :
    ∀ (c : Code) {R : Type} {kn : AState → Option R} {kx : Nat → AState → Option R} {kr : R0 → Option R} {r : R} {Q : Exit → Act → World → Prop} {S : AState} {a : Act} {w : World} {C : Conc},
      (∀ p ∈ loopsIn c, ∀ sp, e.loops p.1 = some sp → LoopAt P F e RetR none p.1 p.2 sp) → Sim F S a w C → ev e c S kn kx kr = some r → (∀ S a w C, kn S = some r → Sim F S a w C → Q .normal a w) →
      (∀ j S a w C, kx j S = some r → Sim F S a w C → Q (.exit j) a w) → (∀ z a w, kr z = some r → RetR z a w → Q .ret a w) → c.wp P Q a w := by
  intro c
  induction c with
  | skip => intro R kn kx kr r Q S a w C hl hs h hkn hkx hkr; exact wp_skip (hkn S a w C h hs)
  | region rid ops draw =>
    intro R kn kx kr r Q S a w C hl hs h hkn hkx hkr
    exact region_wp (e := ⟨e.tt, e.fz, e.fns, e.k, e.n, rid, ops.toList⟩) he.hn (stepOK he.hT he.hF he.hfns) he.hm rfl (fun S' a' w' C' h' hs' => hkn S' a' w' C' h' hs') hs h
  | seq x y ihx ihy =>
    intro R kn kx kr r Q S a w C hl hs h hkn hkx hkr
    refine wp_seq (ihx (fun p hp => hl p (List.mem_append_left _ hp)) hs h (fun S a w C h hs => ?_) (fun j S a w C h hs => hkx j S a w C h hs) (fun z a w h hr => hkr z a w h hr))
    exact ihy (fun p hp => hl p (List.mem_append_right _ hp)) hs h hkn hkx hkr
  | cond x y z ihy ihz =>
    intro R kn kx kr r Q S a w C hl hs h hkn hkx hkr
    simp only [ev] at h
    have hx := (opnd_rep hs x).1
    split at h
    · rename_i b hb
      rw [hb, AVR_bool] at hx
      refine wp_cond hx ?_
      cases b with
      | true => exact ihy (fun p hp => hl p (List.mem_append_left _ hp)) hs h hkn hkx hkr
      | false => exact ihz (fun p hp => hl p (List.mem_append_right _ hp)) hs h hkn hkx hkr
    · cases h
  | block id c ih =>
    intro R kn kx kr r Q S a w C hl hs h hkn hkx hkr
    by_cases hlp : ∃ c', c = .loop c'
    · obtain ⟨c', rfl⟩ := hlp
      have h' : loopC e id S kn kr = some r := h
      refine wp_block ?_
      unfold loopC at h'
      split at h'
      · rename_i inn out keep Fl hsp
        cases hc : itemsOk e.fx inn keep && itemsOk e.fx out keep with
        | false => rw [hc] at h'; cases h'
        | true =>
          rw [hc, cond_true] at h'
          rw [Bool.and_eq_true] at hc
          obtain ⟨x, hx, hr⟩ := repack he.hF he.hfx hs hc.1 h'
          obtain ⟨y, hy, hk⟩ := Option.bind_eq_some_iff.1 hx
          refine hl (id, c') (by simp [loopsIn]) _ hsp hc.1 hc.2 x y hy a w hr _ (fun a' w' hrd => ?_)
          obtain ⟨S', C', q1, q2⟩ := hrd _ _ _ hk
          show (if id = id then Q .normal a' w' else Q (.exit id) a' w')
          rw [if_pos rfl]
          exact hkn S' a' w' C' q1 q2
      · rename_i inn out keep Fl hsp
        cases hc : itemsOk e.fx inn keep && itemsOk e.fx out keep with
        | false => rw [hc] at h'; cases h'
        | true =>
          rw [hc, cond_true] at h'
          rw [Bool.and_eq_true] at hc
          obtain ⟨x, hx, hr⟩ := repack he.hF he.hfx hs hc.1 h'
          obtain ⟨z, hz, hk⟩ := Option.bind_eq_some_iff.1 hx
          refine hl (id, c') (by simp [loopsIn]) _ hsp hc.1 hc.2 x z hz a w hr _ (fun y a' w' e1 hrd => ?_) (fun r0 a' w' e1 hrr => ?_)
          · subst e1
            obtain ⟨S', C', q1, q2⟩ := hrd _ _ _ hk
            show (if id = id then Q .normal a' w' else Q (.exit id) a' w')
            rw [if_pos rfl]
            exact hkn S' a' w' C' q1 q2
          · subst e1
            exact hkr r0 a' w' hk hrr
      · cases h'
    · have h' : ev e c S kn (fun j S => bif Nat.beq j id then kn S else kx j S) kr = some r := by
        cases c <;> first | exact h | exact absurd ⟨_, rfl⟩ hlp
      have hl' : ∀ p ∈ loopsIn c, ∀ sp, e.loops p.1 = some sp → LoopAt P F e RetR none p.1 p.2 sp := by
        intro p hp
        refine hl p ?_
        cases c <;> first | exact hp | exact absurd ⟨_, rfl⟩ hlp
      refine wp_block (ih hl' hs h' (fun S a w C h hs => hkn S a w C h hs) (fun j S a w C h hs => ?_) (fun z a w h hr => hkr z a w h hr))
      show (if j = id then Q .normal a w else Q (.exit j) a w)
      rw [beq_nat] at h
      by_cases e1 : j = id
      · rw [if_pos e1]
        simp only [e1, decide_true, cond_true] at h
        exact hkn S a w C h hs
      · rw [if_neg e1]
        simp only [e1, decide_false, cond_false] at h
        exact hkx j S a w C h hs
  | exit j => intro R kn kx kr r Q S a w C hl hs h hkn hkx hkr; exact wp_exit (hkx j S a w C h hs)
  | ret =>
    intro R kn kx kr r Q S a w C hl hs h hkn hkx hkr
    obtain ⟨z, h1, h2⟩ := Option.bind_eq_some_iff.1 (show (e.ret S).bind kr = some r from h)
    exact wp_ret (hkr z a w h2 (hret S a w C z hs h1))
  | _ => intro R kn kx kr r Q S a w C hl hs h hkn hkx hkr; cases h
theorem loopsIn_sub : ∀ {c : Code} {p : Nat × Code}, p ∈ loopsIn c → ∀ q ∈ loopsIn p.2, q ∈ loopsIn c := by
  intro c
  induction c with
  | seq x y ihx ihy =>
    intro p hp q hq
    rcases List.mem_append.1 hp with hp | hp
    · exact List.mem_append_left _ (ihx hp q hq)
    · exact List.mem_append_right _ (ihy hp q hq)
  | cond b x y ihx ihy =>
    intro p hp q hq
    rcases List.mem_append.1 hp with hp | hp
    · exact List.mem_append_left _ (ihx hp q hq)
    · exact List.mem_append_right _ (ihy hp q hq)
  | block id c ih =>
    intro p hp q hq
    cases c with
    | loop c' =>
      have hp' : p ∈ (id, c') :: loopsIn c' := hp
      show q ∈ (id, c') :: loopsIn c'
      rcases List.mem_cons.1 hp' with rfl | hp'
      · exact List.mem_cons_of_mem _ hq
      · exact List.mem_cons_of_mem _ (ih (show p ∈ loopsIn (.loop c') from hp') q hq)
    | _ => exact ih hp q hq
  | loop c ih => intro p hp q hq; exact ih hp q hq
  | _ => intro p hp; cases hp
/-- One round of a loop, whatever comes of the next ones. -/
def LRound (e : CEnv R0) (id : Nat) (c : Code) : LSpec R0 → Prop
  | .mk inn out keep Fl => (∀ x, Fl 0 x = none) ∧ ∀ k x, roundM { e with k := k } id inn out keep (Fl k) c x = Fl (k + 1) x
  | .mkR inn out keep Fl => (∀ x, Fl 0 x = none) ∧ ∀ k x, roundR { e with k := k } id inn out keep (Fl k) c x = Fl (k + 1) x
theorem loops_ok {e : CEnv R0} {N : Nat} (he : ∀ k, k ≤ N → EnvOK P F { e with k := k }) {RetR : R0 → Act → World → Prop} (hret : ∀ S a w C z, Sim F S a w C → e.ret S = some z → RetR z a w) {c0 : Code}
    (hL : ∀ p ∈ loopsIn c0, ∀ sp, e.loops p.1 = some sp → LRound e p.1 p.2 sp) :
    ∀ k, k ≤ N → ∀ p ∈ loopsIn c0, ∀ sp, e.loops p.1 = some sp → LoopAt P F { e with k := k } RetR (some k) p.1 p.2 sp := by
  intro k
  induction k with
  | zero =>
    intro _ p hp sp hsp
    have h := hL p hp sp hsp
    cases sp with
    | mk inn out keep Fl => intro _ _ x y hy; have := h.1 x; rw [this] at hy; cases hy
    | mkR inn out keep Fl => intro _ _ x y hy; have := h.1 x; rw [this] at hy; cases hy
  | succ k ih =>
    intro hkN p hp sp hsp
    have ih := ih (by omega)
    have he := he k (by omega)
    have h := hL p hp sp hsp
    have hin : ∀ q ∈ loopsIn p.2, ∀ sp, e.loops q.1 = some sp → LoopAt P F { e with k := k } RetR none q.1 q.2 sp := fun q hq sp hsp => (ih q (loopsIn_sub hp q hq) sp hsp).loop
    cases sp with
    | mk inn out keep Fl =>
      intro h1 h2 x y hy a w hr Q hQ
      have hy' : Fl (k + 1) x = some y := hy
      rw [← h.2 k x] at hy'
      obtain ⟨S', C', q1, q2⟩ := hr _ _ _ hy'
      show Code.wp P p.2 _ a w
      refine ev_ok he hret p.2 hin q2 q1 (fun S a w C hk hs => ?_) (fun j S a w C hk hs => ?_) (fun z a w hk _ => by cases hk)
      · obtain ⟨x', k1, k2⟩ := repack he.hF he.hfx hs h1 hk
        exact ih p hp _ hsp h1 h2 x' y k1 a w k2 Q hQ
      · dsimp only at hk
        rw [beq_nat] at hk
        by_cases e1 : j = p.1
        · simp only [e1, decide_true, cond_true] at hk
          obtain ⟨x', k1, k2⟩ := repack he.hF he.hfx hs h2 hk
          cases k1
          rw [e1]
          exact hQ a w k2
        · simp only [e1, decide_false, cond_false] at hk
          cases hk
    | mkR inn out keep Fl =>
      intro h1 h2 x y hy a w hr Q hQ hQ'
      have hy' : Fl (k + 1) x = some y := hy
      rw [← h.2 k x] at hy'
      obtain ⟨S', C', q1, q2⟩ := hr _ _ _ hy'
      show Code.wp P p.2 _ a w
      refine ev_ok he hret p.2 hin q2 q1 (fun S a w C hk hs => ?_) (fun j S a w C hk hs => ?_) (fun z a w hk hz => ?_)
      · obtain ⟨x', k1, k2⟩ := repack he.hF he.hfx hs h1 hk
        exact ih p hp _ hsp h1 h2 x' y k1 a w k2 Q hQ hQ'
      · dsimp only at hk
        rw [beq_nat] at hk
        by_cases e1 : j = p.1
        · simp only [e1, decide_true, cond_true] at hk
          obtain ⟨x', k1, k2⟩ := repack he.hF he.hfx hs h2 hk
          cases k1
          rw [e1]
          exact hQ x' a w rfl k2
        · simp only [e1, decide_false, cond_false] at hk
          cases hk
      · cases hk
        exact hQ' z a w rfl hz
end
end Go.Ev
/- What a function's evaluation says of its calls. -/
namespace Go.Ev
def fixedOf : List PM → List Value → Nat → List (Nat × Value)
  | .p _ :: r, a :: as, i => (i * 64, a) :: fixedOf r as (i + 1)
  | _ :: r, _ :: as, i => fixedOf r as (i + 1)
  | _, _, _ => []
theorem fixedOf_fx : ∀ {ps : List PM} {as : List Value} {i : Nat} {g : Nat} {v : Value}, (g, v) ∈ fixedOf ps as i → ∃ j ∈ fxOf ps i, g = j * 64 := by
  intro ps
  induction ps with
  | nil => intro as i g v h; cases as <;> cases h
  | cons p r ih =>
    intro as i g v h
    cases as with
    | nil => cases p <;> cases h
    | cons a as =>
      cases p with
      | p m =>
        simp only [fixedOf] at h
        rcases List.mem_cons.1 h with h | h
        · cases h; exact ⟨i, by simp [fxOf], rfl⟩
        · obtain ⟨j, hj, e⟩ := ih h
          exact ⟨j, by simp [fxOf, hj], e⟩
      | v t => exact ih (by simpa [fixedOf] using h)
      | f k => exact ih (by simpa [fixedOf] using h)
theorem ModeL.noOwn {w : World} {J : Nat → Prop} : ∀ {m : Mode} {x : denM m} {cs : List Value} {bs : List (Bool × Nat)}, ownM m = false → ModeL w J m x cs bs → bs = [] := by
  intro m
  induction m with
  | sh t => intro x cs bs _ h; exact h.2
  | own e nn => intro x cs bs h; cases h
  | opt e => intro x cs bs h; cases h
  | unit => intro x cs bs _ h; exact h.2
  | pair m n ihm ihn =>
    intro x cs bs hn h
    simp only [ownM, Bool.or_eq_false_iff] at hn
    obtain ⟨b1, b2, rfl, h1, h2⟩ := h
    rw [ihm hn.1 h1, ihn hn.2 h2]
    rfl
  | pbox m ih => intro x cs bs h; cases h
theorem ModeL.noBox {w : World} {J : Nat → Prop} : ∀ {m : Mode} {x : denM m} {cs : List Value} {bs : List (Bool × Nat)}, tyOk m = true → ModeL w J m x cs bs → ∀ p ∈ bs, p.1 = false := by
  intro m
  induction m with
  | sh t => intro x cs bs _ h p hp; rw [h.2] at hp; cases hp
  | own e nn =>
    intro x cs bs _ h p hp
    obtain ⟨v, rs, _, _, rfl⟩ := h
    obtain ⟨b, _, rfl⟩ := List.mem_map.1 hp
    rfl
  | opt e =>
    intro x cs bs _ h p hp
    cases x with
    | none => rw [h.2] at hp; cases hp
    | some xs =>
      obtain ⟨v, rs, _, _, rfl⟩ := h
      obtain ⟨b, _, rfl⟩ := List.mem_map.1 hp
      rfl
  | unit => intro x cs bs _ h p hp; rw [h.2] at hp; cases hp
  | pair m n ihm ihn =>
    intro x cs bs hn h p hp
    simp only [tyOk, Bool.and_eq_true] at hn
    obtain ⟨b1, b2, rfl, h1, h2⟩ := h
    rcases List.mem_append.1 hp with hp | hp
    · exact ihm hn.1 h1 p hp
    · exact ihn hn.2 h2 p hp
  | pbox m ih => intro x cs bs h; cases h
theorem ArgsR.len {w : World} {J : Nat → Prop} : ∀ {ps : List PM} {x : denPs ps} {as : List Value} {bs : List (Bool × Nat)}, ArgsR w J ps x as bs → as.length = ps.length := by
  intro ps
  induction ps with
  | nil => intro x as bs h; rw [h.1]; rfl
  | cons p r ih =>
    intro x as bs h
    cases p with
    | v t => obtain ⟨a, as', cs, rfl, _, _, h⟩ := h; simp [ih h]
    | p m => obtain ⟨as', b, arr, ty, b1, b2, rfl, _, _, _, _, h⟩ := h; simp [ih h]
    | f k => obtain ⟨as', rfl, h⟩ := h; simp [ih h]
theorem ArgsR.noOwn {w : World} {J : Nat → Prop} : ∀ {ps : List PM} {x : denPs ps} {as : List Value} {bs : List (Bool × Nat)}, fzOf ps = true → ArgsR w J ps x as bs → ∀ p ∈ bs, p.1 = true := by
  intro ps
  induction ps with
  | nil => intro x as bs _ h p hp; rw [h.2] at hp; cases hp
  | cons p r ih =>
    intro x as bs hf h
    cases p with
    | v t => obtain ⟨a, as', cs, rfl, _, _, h⟩ := h; exact ih hf h
    | p m =>
      obtain ⟨as', b, arr, ty, b1, b2, rfl, _, _, h1, rfl, h⟩ := h
      simp only [fzOf, Bool.and_eq_true, Bool.not_eq_true'] at hf
      rw [ModeL.noOwn hf.1 h1]
      intro p hp
      rcases List.mem_cons.1 hp with rfl | hp
      · rfl
      · exact ih hf.2 h p hp
    | f k => obtain ⟨as', rfl, h⟩ := h; exact ih hf h
/-- A block behind a pointer that is handed in. -/
theorem ArgsR.box {w : World} {J : Nat → Prop} : ∀ {ps : List PM} {x : denPs ps} {as : List Value} {bs : List (Bool × Nat)} {i b : Nat}, ArgsR w J ps x as bs → (true, b) ∈ bs → ∃ j ∈ fxOf ps i, (j * 64, Value.pointer (some ⟨b, 0, none⟩)) ∈ fixedOf ps as i := by
  intro ps
  induction ps with
  | nil => intro x as bs i b h hb; rw [h.2] at hb; cases hb
  | cons p r ih =>
    intro x as bs i b h hb
    cases p with
    | v t => obtain ⟨a, as', cs, rfl, _, _, h⟩ := h; exact ih h hb
    | p m =>
      obtain ⟨as', b', arr, ty, b1, b2, rfl, _, ht, h1, rfl, h⟩ := h
      rcases List.mem_cons.1 hb with hb | hb
      · cases hb; exact ⟨i, by simp [fxOf], by simp [fixedOf]⟩
      · rcases List.mem_append.1 hb with hb | hb
        · have := ModeL.noBox ht h1 _ hb; cases this
        · obtain ⟨j, k1, k2⟩ := ih (i := i + 1) h hb
          exact ⟨j, by simp [fxOf, k1], by simp [fixedOf, k2]⟩
    | f k => obtain ⟨as', rfl, h⟩ := h; exact ih h hb

section
variable {P : Program} {F : Fr} {a : Act} {w : World} {I : Nat → Prop}
theorem parS_sim : ∀ {ps : List PM} {x : denPs ps} {as : List Value} {bs : List (Bool × Nat)} {i : Nat} {S : AState} {C : Conc}, SimI I F S a w C → ArgsR w I ps x as bs → (∀ j (h : j < as.length), a.tmps.getD (i + j) undef = as[j]'h) →
    (∀ g, S.used g = true → g < i * 64) → (blks bs).Nodup → (∀ p ∈ bs, p.2 < w.heap.size ∧ ¬ I p.2 ∧ Kd F p.1 p.2) → (∀ b ∈ blks bs, ∀ g, S.obj g ≠ none → b ∉ C.β g) →
    ∀ {R : Type} {K : AState → Option R} {r : R}, parS ps x i S K = some r → ∃ S' C', K S' = some r ∧ SimI I F S' a w C' ∧ (∀ g, S.used g = true → C'.ρ g = C.ρ g ∧ S'.used g = true) ∧ ∀ g v, (g, v) ∈ fixedOf ps as i → C'.ρ g = v ∧ S'.used g = true := by
  intro ps
  induction ps with
  | nil => intro x as bs i S C hs ha _ _ _ _ _ R K r h; exact ⟨S, C, h, hs, fun g hg => ⟨rfl, hg⟩, fun g v hg => by rw [ha.1] at hg; cases hg⟩
  | cons p r ih =>
    intro x as bs i S C hs ha hv hu hn hb hbo R K r' h
    cases p with
    | v t =>
      obtain ⟨av, as', cs, rfl, h1, h2, h3⟩ := ha
      have e0 : a.tmps.getD i undef = av := hv 0 (by simp)
      have s1 := hs.note (t := i) (v := .val t x.1) (AVR_of_AV1 ⟨cs, h1, by rw [e0, h2]; rfl⟩) (fun g hg => by cases hg)
      obtain ⟨S', C', k1, k2, k3, k4⟩ := ih (i := i + 1) s1 h3 (fun j hj => by
        have := hv (j + 1) (by simpa using hj)
        rw [show i + 1 + j = i + (j + 1) by omega, this]; rfl) (fun g hg => by have := hu g hg; omega) hn hb hbo h
      exact ⟨S', C', k1, k2, k3, fun g v hg => k4 g v hg⟩
    | f k =>
      obtain ⟨as', rfl, h3⟩ := ha
      have e0 : a.tmps.getD i undef = .func (.func k) #[] #[] := hv 0 (by simp)
      have s1 := hs.note (t := i) (v := .fn k) (AVR_of_AV1 ⟨[.func (.func k) #[] #[]], rfl, by rw [e0]; rfl⟩) (fun g hg => by cases hg)
      obtain ⟨S', C', k1, k2, k3, k4⟩ := ih (i := i + 1) s1 h3 (fun j hj => by
        have := hv (j + 1) (by simpa using hj)
        rw [show i + 1 + j = i + (j + 1) by omega, this]; rfl) (fun g hg => by have := hu g hg; omega) hn hb hbo h
      exact ⟨S', C', k1, k2, k3, fun g v hg => k4 g v hg⟩
    | p m =>
      obtain ⟨as', b, arr, ty, b1, b2, rfl, q1, q2, q3, rfl, q4⟩ := ha
      have e0 : a.tmps.getD i undef = .pointer (some ⟨b, 0, none⟩) := hv 0 (by simp)
      have h' : (bif Nat.ble (modeN (.pbox m)) 60 then unM (.pbox m) x.1 (i * 64) 0 fun v u w _ => parS r x.2 (i + 1) ((S.upd u w).set i v) K else none) = some r' := h
      cases hm : Nat.ble (modeN (.pbox m)) 60 with
      | false => rw [hm] at h'; cases h'
      | true =>
        rw [hm, cond_true, unM_nat] at h'
        obtain ⟨⟨v, u, nw, c'⟩, hun, h'⟩ := Option.bind_eq_some_iff.1 h'
        have eb : (true, b) :: (b1 ++ b2) = ((true, b) :: b1) ++ b2 := rfl
        rw [eb, blks_append, List.nodup_append] at hn
        obtain ⟨n1, n2, n3⟩ := hn
        obtain ⟨C1, s1, k1, k2, k3, k4⟩ := item_sim hs hun (Nat.le_of_ble_eq_true hm) (fun g hg => by have := hu g hg; omega) (cs := [.pointer (some ⟨b, 0, none⟩)]) (bs := (true, b) :: b1) (by rw [e0]; rfl) ⟨b, arr, ty, b1, rfl, rfl, q1, q3⟩ n1
          (fun p hp => hb p (by rw [eb]; exact List.mem_append_left _ hp)) (fun b' hb' => hbo b' (by rw [eb, blks_append]; exact List.mem_append_left _ hb'))
        obtain ⟨S', C', j1, j2, j3, j4⟩ := ih (i := i + 1) s1 q4 (fun j hj => by
          have := hv (j + 1) (by simpa using hj)
          rw [show i + 1 + j = i + (j + 1) by omega, this]; rfl) (fun g hg => by
            rcases k1 g hg with hg | hg
            · have := hu g hg; omega
            · omega) n2 (fun p hp => hb p (by rw [eb]; exact List.mem_append_right _ hp)) (fun b' hb' g hg hbg => by
            rcases k3 g b' hg hbg with hq | ⟨q1, q2⟩
            · exact n3 b' hq b' hb' rfl
            · exact hbo b' (by rw [eb, blks_append]; exact List.mem_append_right _ hb') g q1 q2) h'
        refine ⟨S', C', j1, j2, fun g hg => ?_, fun g v hg => ?_⟩
        · obtain ⟨q1, q2⟩ := k2 g hg
          obtain ⟨q3, q4⟩ := j3 g q2
          exact ⟨q3.trans q1, q4⟩
        · simp only [fixedOf] at hg
          rcases List.mem_cons.1 hg with hg | hg
          · cases hg
            obtain ⟨q1, q2⟩ := k4 rfl
            obtain ⟨q3, q4⟩ := j3 _ q1
            exact ⟨by rw [q3, q2, e0], q4⟩
          · exact j4 g v hg
end
end Go.Ev
/- What a function's evaluation says of its calls: the end of a call. -/
namespace Go.Ev
def oneVal : List Value → Value
  | [v] => v
  | vs => .tuple vs.toArray
theorem mapM_run {α β : Type} {P : Program} {w : World} (f : α → Sem β) : ∀ (l : List α) (ys : List β), All2 (fun x y => (f x).run P w = .ok y w) l ys → (l.mapM f : Sem (List β)).run P w = .ok ys w := by
  intro l
  induction l with
  | nil => intro ys h; cases ys with | nil => simp | cons _ _ => exact h.elim
  | cons x l ih =>
    intro ys h
    cases ys with
    | nil => exact h.elim
    | cons y ys => simp [h.1, ih ys h.2]
section
variable {P : Program} {F : Fr} {S : AState} {a : Act} {w : World} {C : Conc}
theorem results_run {fn : Func} {ys : List Value} {tmps : Array Value} {w : World} (h : All2 (fun r y => (match r with | .tmp t => pure (tmps.getD t undef) | .cell a t => do loadVar t (← asAddr (tmps.getD a undef)) : Sem Value).run P w = .ok y w) fn.results.toList ys) :
    (results fn tmps).run P w = .ok (oneVal ys) w := by
  have e : (if h : ys.toArray.size = 1 then ys.toArray[0] else Value.tuple ys.toArray) = oneVal ys := by
    match ys with
    | [] => rfl
    | [v] => rfl
    | v :: u :: r => rfl
  unfold results
  rw [Array.mapM_eq_mapM_toList, ← e]
  simp only [bind_map_left]
  rw [Sem.run_bind, mapM_run _ _ ys (?_ : All2 _ _ ys)]
  · rfl
  · exact h
theorem loadVar_ok {tt : Nat → Option Ty} (hT : TOK P tt) {t : TypeId} {T : Ty} (ht : tt t = some T) {w : World} {b : Nat} {arr : Array Value} {ty : TypeId} {fr : Nat × Nat}
    (hb : w.heap[b]? = some (.cells arr ty fr)) (hs : size T = arr.size) : (do loadVar t (← asAddr (.pointer (some ⟨b, 0, none⟩))) : Sem Value).run P w = .ok (ofC (isAgg T) arr.toList) w := by
  have := loadAt_ok hT ht hb (o := 0) (by omega)
  rw [seg_all (by simp [hs])] at this
  rw [← this]
  simp [Instr.loadAt, Instr.sureAddr, asAddr]
theorem cellV_ok {tt : Nat → Option Ty} {t ty : Nat} (h : cellV tt S t ty ≠ .dead) : ∃ g T, S.tmp t = .ptr g [] ∧ S.obj g = some (.box T (cellV tt S t ty)) ∧ tt ty = some T := by
  unfold cellV at h ⊢
  split at h
  · rename_i g hg
    split at h
    · rename_i T c hb
      cases hi : isTy (tt ty) T with
      | false => rw [hi] at h; exact absurd rfl h
      | true =>
        refine ⟨g, T, hg, ?_, ?_⟩
        · simp only [hg, hb, hi, cond_true]
        · unfold isTy at hi
          split at hi
          · rename_i u hu; rw [hu, Ty.beq_eq hi]
          · cases hi
    · exact absurd rfl h
  · exact absurd rfl h
theorem resV_ok {tt : Nat → Option Ty} (hT : TOK P tt) (hs : Sim F S a w C) : ∀ {rs : List ResultVar}, (∀ v ∈ resV tt S rs, v ≠ .dead) →
    ∃ ys, All2 (fun r y => (match r with | .tmp t => pure (a.tmps.getD t undef) | .cell b t => do loadVar t (← asAddr (a.tmps.getD b undef)) : Sem Value).run P w = .ok y w) rs ys ∧ All2 (AVR w (Imm F w S C) S.obj C) (resV tt S rs) ys := by
  intro rs
  induction rs with
  | nil => intro _; exact ⟨[], trivial, trivial⟩
  | cons r rs ih =>
    intro h
    cases r with
    | tmp t =>
      obtain ⟨ys, h1, h2⟩ := ih fun v hv => h v (List.mem_cons_of_mem _ hv)
      exact ⟨_ :: ys, ⟨Sem.run_pure .., h1⟩, ⟨hs.tmp t, h2⟩⟩
    | cell t ty =>
      obtain ⟨ys, h1, h2⟩ := ih fun v hv => h v (List.mem_cons_of_mem _ hv)
      obtain ⟨g, T, q1, q2, hty⟩ := cellV_ok (h _ List.mem_cons_self)
      obtain ⟨b, arr, ty', k1, k2, k3, k4, k5⟩ := hs.obj g _ q2
      have hv := hs.tmp t
      rw [q1] at hv
      obtain ⟨cs, ⟨v0, rfl, hpp⟩, hav⟩ := hv
      obtain ⟨b', o', r1, r2, r3⟩ := hpp T (by rw [q2]; rfl)
      simp only [offP, Option.some.injEq] at r1
      subst r1
      rw [k1] at r2
      cases r2
      have hval : a.tmps.getD t undef = .pointer (some ⟨b, 0, none⟩) := by rw [hav, r3]; rfl
      have hsz : size T = arr.size := by rw [← shp_size k5, ← AVL.length k4, Array.length_toList]
      refine ⟨ofC (isAgg T) arr.toList :: ys, ⟨?_, h1⟩, ⟨AVR_of_AV1 ⟨arr.toList, k4, by rw [shp_agg k5]⟩, h2⟩⟩
      show (do loadVar ty (← asAddr (a.tmps.getD t undef)) : Sem Value).run P w = _
      rw [hval]
      exact loadVar_ok hT hty k3 hsz
/-- The boxes that were handed in, at the end. -/
theorem outV_ok (hs : Sim F S a w C) : ∀ {ps : List PM} {x : denPs ps} {J : Nat → Prop} {w0 : World} {as : List Value} {bs : List (Bool × Nat)} {i : Nat} {gs : List Nat} {vs : List AV}, ArgsR w0 J ps x as bs → (∀ g v, (g, v) ∈ fixedOf ps as i → C.ρ g = v) → outV S ps i = some (gs, vs) →
    ∃ outs, OutR w ps as outs ∧ All2 (AVL w (Imm F w S C) S.obj C) vs outs ∧ vs.length = (outM ps).length ∧ (∀ j ∈ fxOf ps i, j * 64 ∈ gs ∧ S.obj (j * 64) ≠ none) ∧ ∀ g v, (g, v) ∈ fixedOf ps as i → ∃ b, v = .pointer (some ⟨b, 0, none⟩) ∧ C.β g = [b] := by
  intro ps
  induction ps with
  | nil =>
    intro x J w0 as bs i gs vs ha hf h
    simp only [outV, Option.some.injEq, Prod.mk.injEq] at h
    obtain ⟨rfl, rfl⟩ := h
    exact ⟨[], ⟨ha.1, rfl⟩, trivial, rfl, (fun j hj => by cases hj), fun g v hg => by rw [ha.1] at hg; cases hg⟩
  | cons p r ih =>
    intro x J w0 as bs i gs vs ha hf h
    cases p with
    | v t =>
      obtain ⟨av, as', cs, rfl, _, _, h3⟩ := ha
      obtain ⟨outs, k1, k2, k3, k4, k5⟩ := ih (i := i + 1) h3 (fun g v hg => hf g v hg) h
      exact ⟨outs, ⟨av, as', rfl, k1⟩, k2, k3, k4, k5⟩
    | f k =>
      obtain ⟨as', rfl, h3⟩ := ha
      obtain ⟨outs, k1, k2, k3, k4, k5⟩ := ih (i := i + 1) h3 (fun g v hg => hf g v hg) h
      exact ⟨outs, ⟨_, as', rfl, k1⟩, k2, k3, k4, k5⟩
    | p m =>
      obtain ⟨as', b, arr, ty, b1, b2, rfl, q1, q2, q3, rfl, q4⟩ := ha
      simp only [outV] at h
      split at h
      · rename_i T c hbx
        split at h
        · rename_i g' vs' ho
          simp only [Option.some.injEq, Prod.mk.injEq] at h
          obtain ⟨rfl, rfl⟩ := h
          obtain ⟨outs, k1, k2, k3, k4, k5⟩ := ih (i := i + 1) q4 (fun g v hg => hf g v (by simp [fixedOf, hg])) ho
          obtain ⟨b', arr', ty', r1, r2, r3, r4, r5⟩ := hs.obj _ _ hbx
          have e1 : C.ρ (i * 64) = .pointer (some ⟨b, 0, none⟩) := hf _ _ (by simp [fixedOf])
          rw [r1] at e1
          cases e1
          refine ⟨arr'.toList :: outs, ⟨as', b, arr'.toList, outs, ty', rfl, rfl, by simpa using r3, k1⟩, ⟨r4, k2⟩, by simp [outM, k3], fun j hj => ?_, fun g v hg => ?_⟩
          · simp only [fxOf] at hj
            rcases List.mem_cons.1 hj with rfl | hj
            · exact ⟨by simp, by rw [hbx]; simp⟩
            · exact ⟨List.mem_cons_of_mem _ (k4 j hj).1, (k4 j hj).2⟩
          · simp only [fixedOf] at hg
            rcases List.mem_cons.1 hg with hg | hg
            · cases hg; exact ⟨b, rfl, r2⟩
            · exact k5 g v hg
        · cases h
      · cases h
theorem pkMs_each {L : Look} : ∀ {ms : List Mode} {vs : List AV} {x : denRs ms} {o s : List Nat}, pkMs L ms vs = some (x, o, s) → All2 (fun m v => ∃ (y : denM m) (o : List Nat), pkM L m v = some (y, o)) ms vs
  | [], [], x, o, s, h => trivial
  | [m], [a], x, o, s, h => by
    simp only [pkMs] at h
    split at h
    · rename_i x1 o1 h1
      exact ⟨⟨x1, o1, h1⟩, trivial⟩
    · cases h
  | m :: n :: r, a :: as, x, o, s, h => by
    simp only [pkMs] at h
    split at h
    · rename_i x1 o1 h1
      split at h
      · rename_i x2 o2 s2 h2
        exact ⟨⟨x1, o1, h1⟩, pkMs_each h2⟩
      · cases h
    · cases h
  | [], _ :: _, x, o, s, h => by simp [pkMs] at h
  | [_], [], x, o, s, h => by simp [pkMs] at h
  | [_], _ :: _ :: _, x, o, s, h => by simp [pkMs] at h
  | _ :: _ :: _, [], x, o, s, h => by simp [pkMs] at h
theorem vals_of {L M : Look} {I : Nat → Prop} : ∀ {ms : List Mode} {us : List AV} {ys : List Value}, All2 (fun m v => ∃ (y : denM m) (o : List Nat), pkM L m v = some (y, o)) ms us → All2 (AVR w I M C) us ys →
    ∃ css, All2 (AVL w I M C) us css ∧ css.length = ms.length ∧ ys = List.zipWith (fun m cs => ofC (aggM m) cs) ms css := by
  intro ms
  induction ms with
  | nil =>
    intro us ys h hy
    cases us with
    | nil => cases ys with | nil => exact ⟨[], trivial, rfl, rfl⟩ | cons _ _ => exact hy.elim
    | cons _ _ => exact h.elim
  | cons m r ih =>
    intro us ys h hy
    cases us with
    | nil => exact h.elim
    | cons u us =>
      cases ys with
      | nil => exact hy.elim
      | cons y ys =>
        obtain ⟨⟨x1, o1, h1⟩, h2⟩ := h
        obtain ⟨cs, c1, c2⟩ := pkM_val h1 hy.1
        obtain ⟨css, d1, d2, d3⟩ := ih h2 hy.2
        exact ⟨cs :: css, ⟨c1, d1⟩, by simp [d2], by simp [c2, d3]⟩
end
end Go.Ev
/- A function's evaluation, and the contract of its calls. -/
namespace Go.Ev
def notRefuse : Code → Bool
  | .refuse _ => false
  | _ => true
theorem findL_none {id : Nat} : ∀ {c : Code}, id ∉ (loopsIn c).map (·.1) → findL id c = .refuse "" := by
  intro c
  induction c with
  | seq x y ihx ihy =>
    intro h
    simp only [loopsIn, List.map_append, List.mem_append, not_or] at h
    simp only [findL, ihx h.1, ihy h.2]
  | cond b x y ihx ihy =>
    intro h
    simp only [loopsIn, List.map_append, List.mem_append, not_or] at h
    simp only [findL, ihx h.1, ihy h.2]
  | block j c ih =>
    intro h
    by_cases hlp : ∃ c', c = .loop c'
    · obtain ⟨c', rfl⟩ := hlp
      have h' : id ∉ ((j, c') :: loopsIn c').map (·.1) := h
      rw [List.map_cons, List.mem_cons, not_or] at h'
      have := ih (show id ∉ (loopsIn (.loop c')).map (·.1) from h'.2)
      show (bif Nat.beq j id then c' else findL id c') = _
      have e : Nat.beq j id = false := by
        cases hb : Nat.beq j id with
        | false => rfl
        | true => exact absurd (Nat.eq_of_beq_eq_true hb).symm h'.1
      rw [e, cond_false]
      exact this
    · have h1 : loopsIn (.block j c) = loopsIn c := by cases c <;> first | rfl | exact absurd ⟨_, rfl⟩ hlp
      have h2 : findL id (.block j c) = findL id c := by cases c <;> first | rfl | exact absurd ⟨_, rfl⟩ hlp
      rw [h1] at h
      rw [h2]
      exact ih h
  | loop c ih => intro h; exact ih h
  | _ => intro _; rfl
theorem findL_some {id : Nat} {b : Code} (hb : notRefuse b = true) : ∀ {c : Code}, ((loopsIn c).map (·.1)).Nodup → (id, b) ∈ loopsIn c → findL id c = b := by
  have two : ∀ {x y : Code}, (findL id x = b → (match findL id x with | .refuse _ => findL id y | c => c) = b) ∧ (findL id x = .refuse "" → (match findL id x with | .refuse _ => findL id y | c => c) = findL id y) := by
    intro x y
    refine ⟨fun h => ?_, fun h => by rw [h]⟩
    rw [h]
    cases b <;> first | rfl | cases hb
  have both : ∀ {x y : Code}, (((loopsIn x ++ loopsIn y)).map (·.1)).Nodup → ((((loopsIn x)).map (·.1)).Nodup → (id, b) ∈ loopsIn x → findL id x = b) → ((((loopsIn y)).map (·.1)).Nodup → (id, b) ∈ loopsIn y → findL id y = b) →
      (id, b) ∈ loopsIn x ++ loopsIn y → (match findL id x with | .refuse _ => findL id y | c => c) = b := by
    intro x y hn hx hy hm
    rw [List.map_append, List.nodup_append] at hn
    obtain ⟨n1, n2, n3⟩ := hn
    rcases List.mem_append.1 hm with hm | hm
    · exact two.1 (hx n1 hm)
    · have : id ∉ (loopsIn x).map (·.1) := fun h => n3 id h id (List.mem_map.2 ⟨_, hm, rfl⟩) rfl
      rw [two.2 (findL_none this)]
      exact hy n2 hm
  intro c
  induction c with
  | seq x y ihx ihy => intro hn hm; exact both hn ihx ihy hm
  | cond d x y ihx ihy => intro hn hm; exact both hn ihx ihy hm
  | block j c ih =>
    intro hn hm
    by_cases hlp : ∃ c', c = .loop c'
    · obtain ⟨c', rfl⟩ := hlp
      have hm' : (id, b) ∈ (j, c') :: loopsIn c' := hm
      have hn' : (((j, c') :: loopsIn c').map (·.1)).Nodup := hn
      rw [List.map_cons, List.nodup_cons] at hn'
      show (bif Nat.beq j id then c' else findL id c') = b
      rcases List.mem_cons.1 hm' with e | hm'
      · cases e; simp
      · have hne : Nat.beq j id = false := by
          cases hb : Nat.beq j id with
          | false => rfl
          | true =>
            have := Nat.eq_of_beq_eq_true hb
            subst this
            exact absurd (List.mem_map.2 ⟨_, hm', rfl⟩) hn'.1
        rw [hne, cond_false]
        exact ih hn'.2 hm'
    · have h1 : loopsIn (.block j c) = loopsIn c := by cases c <;> first | rfl | exact absurd ⟨_, rfl⟩ hlp
      have h2 : findL id (.block j c) = findL id c := by cases c <;> first | rfl | exact absurd ⟨_, rfl⟩ hlp
      rw [h1] at hn hm
      rw [h2]
      exact ih hn hm
  | loop c ih => intro hn hm; exact ih hn hm
  | _ => intro _ hm; cases hm
/-- What is asked of a function's frame. -/
def okB (fn : Func) (sg : Sig) : Bool :=
  Nat.ble sg.ps.length fn.ntmps && (fn.body.isSome && (!(fn.name == "runtime.NumGoroutine") && (nodupB ((loopsIn (bodyOf fn)).map (·.1)) && (loopsIn (bodyOf fn)).all fun p => notRefuse p.2)))
/-- All loops that have a summary: one round each. -/
def LoopsOK (tt : Nat → Option Ty) (fns : Nat → Option Sig) (fn : Func) (ps : List PM) (res : List Mode) (loops : Loops ps res) : Prop :=
  ∀ id ∈ (loopsIn (bodyOf fn)).map (·.1), ∀ sp, loops id = some sp → (match sp with | .mk _ _ _ F => ∀ x, F 0 x = none | .mkR _ _ _ F => ∀ x, F 0 x = none) ∧ ∀ k, runL tt fns k fn ps res loops id sp
section
variable {P : Program}
def RetR (P : Program) (fn : Func) (sg : Sig) (w0 : World) (J : Nat → Prop) (args : List Value) (bs : List (Bool × Nat)) (z : denRs (sg.res ++ outM sg.ps)) (a : Act) (w : World) : Prop :=
  a.defers = [] ∧ ∃ v, (results fn a.tmps).run P w = .ok v w ∧ ∃ css outs J' bs', EndR sg z w0 J args bs (.returned v) w css outs J' bs'
theorem ret_val {res : List Mode} {css : List (List Value)} (h : css.length = res.length) :
    oneVal (List.zipWith (fun m cs => ofC (aggM m) cs) res css) = retV res css := by
  match res, css, h with
  | [], [], _ => rfl
  | [m], [cs], _ => rfl
  | m :: n :: r, cs :: cs' :: css, _ => rfl
theorem Ext.wider {M M' : Nat → Prop} (h : ∀ b, M b → M' b) {w w' : World} (e : Ext M w w') : Ext M' w w' := ⟨e.os, e.tape, e.output, e.size, fun b hb hn => e.block b hb fun hm => hn (h b hm)⟩
theorem ret_ok {fn : Func} {sg : Sig} {w0 : World} {J : Nat → Prop} {args : List Value} {bs : List (Bool × Nat)} {x : denPs sg.ps} {n : Nat} (hok : okB fn sg = true) (ha : ArgsR w0 J sg.ps x args bs)
    {S : AState} {a : Act} {w : World} {C : Conc} {z : denRs (sg.res ++ outM sg.ps)} {F : Fr} (eF : F = ⟨w0, J, fun b => (true, b) ∈ bs, fun b => (false, b) ∈ bs, n, fixedOf sg.ps args 0⟩) (hs : Sim F S a w C)
    {tt : Nat → Option Ty} (hT : TOK P tt) (h : retC tt sg.ps sg.res fn.results.toList S = some z) : RetR P fn sg w0 J args bs z a w := by
  have e1 : F.w0 = w0 := by rw [eF]
  have e2 : F.fixed = fixedOf sg.ps args 0 := by rw [eF]
  have e3 : ∀ b, F.Mr b ↔ (false, b) ∈ bs := fun b => by rw [eF]
  have e4 : ∀ b, F.Mb b ↔ (true, b) ∈ bs := fun b => by rw [eF]
  have e5 : ∀ b, F.J b ↔ J b := fun b => by rw [eF]
  unfold retC at h
  split at h
  · rename_i gs vs hout
    split at h
    · rename_i y o s hpk
      cases hc : nodupB (gs ++ o) && (disjB (gs ++ o) s && okFz (fzOf sg.ps) (frzs S.obj s)) with
      | false => rw [hc] at h; cases h
      | true =>
        rw [hc, cond_true] at h
        cases h
        simp only [Bool.and_eq_true] at hc
        obtain ⟨hnd, hdj, hfz⟩ := hc
        rw [nodupB_iff] at hnd
        rw [disjB_iff] at hdj
        have hF : fzOf sg.ps = true → ∀ b, ¬ F.Mr b := fun hf b hb => by have := ArgsR.noOwn hf ha _ ((e3 b).1 hb); cases this
        have hM : ∀ g ob, S.obj g = some ob → S.obj g = some ob ∧ ObjR w (Imm F w S C) S.obj C g ob := fun g ob hg => ⟨hg, hs.obj g ob hg⟩
        obtain ⟨outs, o1, o2, o3, o4, o5⟩ := outV_ok hs ha (fun g v hg => (hs.fix g v (by rw [e2]; exact hg)).1) hout
        have hea := pkMs_each hpk
        have hl : (resV tt S fn.results.toList).length = sg.res.length := by
          have := hea.length
          simp only [List.length_append, o3] at this
          omega
        obtain ⟨hea1, hea2⟩ := All2.append hl.symm hea
        obtain ⟨ys, y1, hys⟩ := resV_ok (tt := tt) hT hs (rs := fn.results.toList) (fun v hv e => by
          have : ∀ {ms : List Mode} {vs : List AV}, All2 (fun m v => ∃ (y : denM m) (o : List Nat), pkM S.obj m v = some (y, o)) ms vs → ∀ v ∈ vs, ∃ (m : Mode) (y : denM m) (o : List Nat), pkM S.obj m v = some (y, o) := by
            intro ms
            induction ms with
            | nil => intro vs h v hv; cases vs with | nil => cases hv | cons _ _ => exact h.elim
            | cons m r ih =>
              intro vs h v hv
              cases vs with
              | nil => exact h.elim
              | cons u us =>
                rcases List.mem_cons.1 hv with rfl | hv
                · exact ⟨m, h.1⟩
                · exact ih h.2 v hv
          obtain ⟨m, y, o, q⟩ := this hea1 v hv
          subst e
          cases m with
          | sh t => cases t <;> simp [pkM, rdv] at q
          | _ => simp [pkM] at q)
        refine ⟨hs.nd, _, results_run y1, ?_⟩
        obtain ⟨css, c1, c2, c3⟩ := vals_of hea1 hys
        have hcs : All2 (AVL w (Imm F w S C) S.obj C) ((resV tt S fn.results.toList) ++ vs) (css ++ outs) := by
          clear hl hea hea1 hea2 hpk hys c2 c3
          revert c1
          generalize resV tt S fn.results.toList = us
          intro c1
          induction us generalizing css with
          | nil => cases css with | nil => exact o2 | cons _ _ => exact c1.elim
          | cons u us ih => cases css with | nil => exact c1.elim | cons cs css => exact ⟨c1.1, ih css c1.2⟩
        obtain ⟨p1, p2, p3⟩ := pkMs_ok hM hpk hcs
        obtain ⟨f1, f2, f3⟩ := Sim.frz' hs hF (fun g ob hg => hg) s hfz
        have hnd2 : o.Nodup := (List.nodup_append.1 hnd).2.1
        have hin : ∀ g ∈ o, ∀ b ∈ C.β g, b < w.heap.size ∧ (w0.heap.size ≤ b ∨ (knd S.obj g = false ∧ (false, b) ∈ bs)) := fun g hg b hb => by
          have := hs.own g b (p2 g hg) hb
          rw [e1] at this
          refine ⟨this.1, this.2.imp id fun q => ?_⟩
          unfold Fr.M at q
          cases hob : S.obj g with
          | none => exact absurd hob (p2 g hg)
          | some ob =>
            rw [hob] at q
            cases ob with
            | box T c =>
              exfalso
              obtain ⟨j, j1, j2⟩ := ArgsR.box (i := 0) ha ((e4 b).1 q)
              obtain ⟨b', q1, q2⟩ := o5 _ _ j2
              cases q1
              have hj := o4 j j1
              have := hs.sep g (j * 64) b (p2 g hg) hj.2 hb (by rw [q2]; simp)
              rw [this] at hg
              exact (List.nodup_append.1 hnd).2.2 _ hj.1 _ hg rfl
            | row e nn xs => exact ⟨by simp [knd, hob], (e3 b).1 q⟩
            | frz e xs =>
              obtain ⟨q1, _⟩ := hs.obj g _ hob
              rw [q1] at hb
              cases hb
        refine ⟨css, outs, fun b => Imm F w (S.upd (frzs S.obj s) []) (C.frz (frzs S.obj s)) b, o.flatMap (blk S.obj C), ?_⟩
        refine ⟨?_, ?_, ?_, c2, o1, ?_, ?_, ?_⟩
        · rw [c3, ret_val c2]
        · have := Ext.wider (M' := fun b => b ∈ blks bs) (fun b hb => hb.elim (fun h => List.mem_map.2 ⟨_, (e4 b).1 h, rfl⟩) (fun h => List.mem_map.2 ⟨_, (e3 b).1 h, rfl⟩)) hs.ext
          rwa [e1] at this
        · exact resL_mono (fun b hb => ⟨IP_imm hs hF (fun g ob hg => hg) hfz p3 hb, rfl⟩) (fun _ _ => rfl) p1
        · rw [blks_flat]
          exact nodup_flat hs hnd2 p2
        · intro p hp
          obtain ⟨g, hg, hp⟩ := List.mem_flatMap.1 hp
          unfold blk at hp
          obtain ⟨b, hb, rfl⟩ := List.mem_map.1 hp
          obtain ⟨h1, h2⟩ := hin g hg b hb
          refine ⟨h1, h2.imp id fun q => ⟨q.1, ?_⟩⟩
          rw [q.1]
          exact q.2
        · intro b hb
          refine ⟨hb.1, fun hlt => (e5 b).1 (hb.2.1 (by rw [e1]; exact hlt)), fun hm => ?_⟩
          rw [blks_flat] at hm
          obtain ⟨g, hg, hbg⟩ := List.mem_flatMap.1 hm
          have hn : assoc (frzs S.obj s) g = none := by
            cases hq : assoc (frzs S.obj s) g with
            | none => rfl
            | some ob => exact absurd (assoc_frzs hq).1 (hdj g (List.mem_append_right _ hg))
          refine hb.2.2 g ?_ ?_
          · rw [upd_obj, hn]; exact p2 g hg
          · simpa [Conc.frz, hn] using hbg
    · cases h
  · cases h
theorem call_step {tt : Nat → Option Ty} {fns : Nat → Option Sig} {f : FuncId} {fn : Func} {sg : Sig} {loops : Loops sg.ps sg.res} {k j : Nat} (hT : TOK P tt) (hm : P.follows .mixedOrders = true) (hf : P.funcs[f]? = some fn) (hok : okB fn sg = true)
    (hL : LoopsOK tt fns fn sg.ps sg.res loops) (hrun : ∀ x, runF tt fns k fn sg.ps sg.res loops x = sg.F j x) (hfns : ∀ k', k' ≤ k → ∀ g sg', fns g = some sg' → CallOK P g sg' k') : CallOK P f sg j := by
  have hok' := hok
  unfold okB at hok'
  simp only [Bool.and_eq_true] at hok'
  obtain ⟨hlen, hbody, hname, hnd, hnr⟩ := hok'
  obtain ⟨c, hc⟩ := Option.isSome_iff_exists.1 hbody
  have hbo : bodyOf fn = c := by unfold bodyOf; rw [hc]
  refine ⟨⟨fn, hf, by simpa using hname, by rw [hc]; rfl⟩, fun x y hy w J args bs ha hbn hb hJ => ?_⟩
  refine calls_of_wp hf hc ?_
  have hlen' : args.size ≤ fn.ntmps := by
    have := ha.len
    have h2 := Nat.le_of_ble_eq_true hlen
    rw [Array.length_toList] at this
    omega
  rw [← hrun x] at hy
  unfold runF runC at hy
  rw [hbo] at hy
  let F : Fr := ⟨w, J, fun b => (true, b) ∈ bs, fun b => (false, b) ∈ bs, fn.ntmps, fixedOf sg.ps args.toList 0⟩
  have hjm : ∀ b, J b → ¬ (true, b) ∈ bs ∧ ¬ (false, b) ∈ bs ∧ b < w.heap.size := fun b hj => ⟨fun h => (hJ b hj).2 (List.mem_map.2 ⟨_, h, rfl⟩), fun h => (hJ b hj).2 (List.mem_map.2 ⟨_, h, rfl⟩), (hJ b hj).1⟩
  have h0 : SimI J F S0 { tmps := args ++ Array.replicate (fn.ntmps - args.size) undef, defers := [] } w ⟨fun _ => undef, fun _ => []⟩ :=
    ⟨by show (args ++ Array.replicate (fn.ntmps - args.size) undef).size = fn.ntmps
        rw [Array.size_append, Array.size_replicate]; omega, rfl, fun t => trivial, fun g o hg => (by cases hg), fun g hg => absurd rfl hg, fun g k b hg => absurd rfl hg, fun g b hg => absurd rfl hg, fun t g hg => (by cases hg), fun g T c k hg => (by cases hg),
      fun g hg => absurd rfl hg, Ext.refl _ w, fun b hj => hjm b hj, fun b hj => ⟨(hJ b hj).1, fun _ => hj, fun g hg => absurd rfl hg⟩⟩
  obtain ⟨S', C', s1, s2, _, s4⟩ := parS_sim (i := 0) h0 ha (fun q hq => by
      rw [Array.length_toList] at hq
      simp [Array.getD_eq_getD_getElem?, Array.getElem?_append, hq]) (fun g hg => by cases hg) hbn
    (fun p hp => by
      have hpm : p.2 ∈ blks bs := List.mem_map.2 ⟨p, hp, rfl⟩
      refine ⟨hb _ hpm, fun hj => (hJ _ hj).2 hpm, ?_⟩
      right
      obtain ⟨t, b⟩ := p
      cases t <;> exact hp) (fun b _ g hg => absurd rfl hg) hy
  have s5 := s2.done s4
  let e : CEnv (denRs (sg.res ++ outM sg.ps)) := ⟨tt, fzOf sg.ps, fns, k, fn.ntmps, fxOf sg.ps 0, loops, retC tt sg.ps sg.res fn.results.toList⟩
  have he : ∀ k', k' ≤ k → EnvOK P F { e with k := k' } := fun k' hk => ⟨hT, rfl, fun hf b hb => (by have := ArgsR.noOwn hf ha _ hb; cases this), hfns k' hk, hm, fun g v hg => fixedOf_fx hg⟩
  have hret : ∀ S a w' C z, Sim F S a w' C → e.ret S = some z → RetR P fn sg w J args.toList bs z a w' := fun S a w' C z hs hz => ret_ok hok ha rfl hs hT hz
  have hall : ∀ p ∈ loopsIn c, ∀ sp, e.loops p.1 = some sp → LRound e p.1 p.2 sp := fun p hp sp hsp => by
    obtain ⟨l1, l2⟩ := hL p.1 (by rw [hbo]; exact List.mem_map.2 ⟨p, hp, rfl⟩) sp hsp
    have hfl : findL p.1 (bodyOf fn) = p.2 := by
      rw [hbo]
      refine findL_some ?_ ?_ hp
      · rw [hbo] at hnr
        exact List.all_eq_true.1 hnr p hp
      · rw [hbo] at hnd
        exact nodupB_iff.1 hnd
    cases sp with
    | mk inn out keep Fl => exact ⟨l1, fun k x => by have := l2 k x; rw [hfl] at this; exact this⟩
    | mkR inn out keep Fl => exact ⟨l1, fun k x => by have := l2 k x; rw [hfl] at this; exact this⟩
  have hloops := loops_ok he hret hall k (Nat.le_refl k)
  have fin : ∀ z a' w', some z = some y → RetR P fn sg w J args.toList bs z a' w' → ∀ ex, (ex = .normal ∨ ex = .ret) → bodyPost P fn (fun e w' => ∃ css outs J' bs', EndR sg y w J args.toList bs e w' css outs J' bs') ex a' w' := by
    rintro z a' w' hz ⟨h1, v, h2, h3⟩ ex hex
    cases hz
    rcases hex with rfl | rfl <;> exact ⟨h1, v, h2, h3⟩
  refine ev_ok (he k (Nat.le_refl k)) hret c (fun p hp sp hsp => (hloops p hp sp hsp).loop) s5 s1 (fun S a' w' C hk hs => ?_) (fun j S a' w' C hk hs => by cases hk) (fun z a' w' hk hz => fin z a' w' hk hz _ (.inr rfl))
  exact fin y a' w' rfl (hret S a' w' C y hs hk) _ (.inl rfl)
end
end Go.Ev
