/- FnExactMsgSize: the law holds at every input: the call returns true and the argument reads as it did. No condition beyond the statement. -/
import Derived.Test.YtmbpdaffnabjcaaGreatS
import Derived.Test.YtmbpdaffnabjcaaGreatEH
import Derived.Test.YtmbpdaffnabjcaaGreatQB
import Derived.Test.YtmbpdaffnabjcaaGreatRows
import Derived.Test.YtmbpdaffnabjcaaGreatC
import Derived.WalkKit
import Derived.ProofKit
import Derived.OpenShut
import Derived.ShutString
import Derived.ChangeOld
import Derived.Below
import Derived.Carry
set_option linter.unusedVariables false
set_option linter.unusedSimpArgs false
set_option linter.unusedSectionVars false
/- The plain law of FnExactMsgSize, in the form that the row takes. -/
namespace Go.Ev.G
open Go.Ev
theorem pureFnExactMsgSize (x0 : den tLimits) (_ : InR tLimits x0) (x1 : den tMsg) (y1 : InR tMsg x1) : ∃ k, S_wFnExactMsgSize.F k (x0, x1, ()) = some true := (fnExactMsgSize_Y x0 y1).ex
end Go.Ev.G
/- FnExactMsgSize: the law holds at every input: the call returns true and the argument reads as it did. No condition beyond the statement. -/
namespace Go.Proofs.YtmbpdaffnabjcaaGreat.fnExactMsgSize
open Go.ChangeShapes Go.WideShapes Go.ChangeAt Go.RowKit
set_option linter.unusedVariables false
theorem own : ownKnob Tryz.prog.godebug = none := by kernel_rfl
theorem laidOut : laidOutB Tryz.prog = true := by kernel_rfl
theorem walk (w : World) (args : Array Value) (x0 : Ev.den Go.Ev.G.tLimits) (x1 : Ev.den Go.Ev.G.tMsg) (ha : Ev.ArgsR w (fun b => b < w.heap.size) Go.Ev.G.S_wFnExactMsgSize.ps (x0, (x1, ())) args.toList []) (y0 : Ev.InR Go.Ev.G.tLimits x0) (y1 : Ev.InR Go.Ev.G.tMsg x1) :
    Calls Tryz.prog 9 args w fun e w' => e = .returned (.bool true) ∧ Below w.heap.size w w' := by
  obtain ⟨k, hk⟩ := Go.Ev.G.pureFnExactMsgSize x0 y0 x1 y1
  refine ((Go.Ev.G.c_wFnExactMsgSize k).call (x0, (x1, ())) true hk w (fun b => b < w.heap.size) args [] ha List.nodup_nil (fun b hb => by cases hb) (fun b hb => ⟨hb, fun h => by cases h⟩)).mono ?_
  rintro e w' ⟨css, outs, J', bs', hE⟩
  exact ⟨Ev.end_bool hE.ret hE.res hE.len, Ev.below_of hE.ext⟩
set_option maxRecDepth 100000 in
theorem lifted (os : Os) (started : os.Started) (H : Type) (enc : TypeId × Value → H) :
    ReturnsInHanded {} Tryz.checked os 9 .any (Rows.fnExactMsgSizeSpec.pre6 enc Tryz.prog Tryz.f9 Rows.fnExactMsgSizeRow.domain false) (Rows.fnExactMsgSizeSpec.post enc Tryz.prog Tryz.f9 false true false false) := by
  refine returnsInHanded_of_change (C := Tryz.checked) own started (by kernel_rfl) Tryz.func9
    (ChangeSpec.witness6 (enc := enc) (C := Tryz.checked) false ⟨#[], #[.agg (Ev.zcells Go.Ev.G.tLimits).toArray, .agg (Ev.zcells Go.Ev.G.tMsg).toArray], []⟩ 8 (by kernel_rfl) (by kernel_rfl) (by kernel_rfl) (by kernel_rfl)) ?_
  intro W base args ds gs before hval0 hW hcnd _
  have hval : ∀ (j : Nat) t v, Tryz.f9.params[j]? = some t → args[j]? = some v → Value.okWide Tryz.prog W .any base t v := hval0
  have hW' := hW
  obtain ⟨p, q, hA0, hV, rfl, hfz, hnd⟩ := hW
  have hA : DataW.TrodAll enc Tryz.prog W 0 (fun _ => true) true Tryz.f9.params.toList args.toList ds p := hA0
  rw [Tryz.params9] at hA hval
  obtain ⟨v0, vs0, d0, ds0, p0, q0, hargs, rfl, rfl, h0, r0⟩ := trodAll_cons hA
  obtain ⟨v1, vs1, d1, ds1, p1, q1, rfl, rfl, rfl, h1, r1⟩ := trodAll_cons r0
  obtain ⟨rfl, rfl, rfl⟩ := trodAll_nil r1
  obtain rfl : args = #[v0, v1] := by cases args; simp_all
  obtain ⟨rfl, rfl⟩ := trodVars_none hV
  have lt0 : ∀ x ∈ p0, x.block < W.heap.size := by obtain ⟨m, hm⟩ := h0; exact DataW.trod_lt m _ _ _ hm
  obtain ⟨f0, hf0⟩ := id h0
  obtain ⟨x0, hx0⟩ := Ev.trod_rd Go.Ev.G.tok (T := Go.Ev.G.tLimits) rfl (t := 117) rfl hf0
  have e0 := Ev.okWide_ofC Go.Ev.G.tok (T := Go.Ev.G.tLimits) rfl rfl (hval 0 117 v0 rfl rfl)
  have lt1 : ∀ x ∈ p1, x.block < W.heap.size := by obtain ⟨m, hm⟩ := h1; exact DataW.trod_lt m _ _ _ hm
  obtain ⟨f1, hf1⟩ := id h1
  obtain ⟨x1, hx1⟩ := Ev.trod_rd Go.Ev.G.tok (T := Go.Ev.G.tMsg) rfl (t := 132) rfl hf1
  have e1 := Ev.okWide_ofC Go.Ev.G.tok (T := Go.Ev.G.tMsg) rfl rfl (hval 1 132 v1 rfl rfl)
  clear hA0 hval0
  refine (walk W #[v0, v1] x0 x1 ⟨v0, _, _, rfl, hx0, e0, ⟨v1, _, _, rfl, hx1, e1, ⟨rfl, rfl⟩⟩⟩ (Ev.InR_of hx0) (Ev.InR_of hx1)).mono fun e W' ⟨he, bel⟩ => ?_
  subst he
  exact ⟨_, rfl, _, _, _, [], _, [], hW', trodAll_mk1 (shut_bool Tryz.underlying4 _), (trodAll_cons_mk (Below.trod laidOut (by kernel_rfl) (of_decide_eq_true (by kernel_rfl)) h0 bel lt0) (trodAll_cons_mk (Below.trod laidOut (by kernel_rfl) (of_decide_eq_true (by kernel_rfl)) h1 bel lt1) trodAll_mk0)), rfl, bel.frame _, fun h => by cases h⟩
set_option maxHeartbeats 40000000 in
theorem facts : joinedFacts Tryz.prog 9 Tryz.f9 Rows.fnExactMsgSizeSpec Rows.fnExactMsgSizeRow = true := by
  unfold joinedFacts
  simp only [Bool.and_eq_true]
  repeat' apply And.intro
  all_goals (as_aux_lemma => kernel_rfl)
set_option maxHeartbeats 40000000 in
theorem over : Rows.fnExactMsgSizeRow.holds Tryz.pinned (OpenSpec.ofChange Rows.fnExactMsgSizeSpec) :=
  OpenClaim.holds_of_wide 9 Tryz.f9 rfl rfl rfl rfl rfl rfl rfl ⟨rfl, rfl, rfl, rfl, rfl⟩ rfl rfl rfl rfl rfl (by as_aux_lemma => kernel_rfl) Tryz.func9 facts
    (of_decide_eq_true (by kernel_rfl)) (by unfold Func.isWrapper; first | (rw [if_pos (by decide +kernel)]; kernel_rfl) | (rw [if_neg (by decide +kernel)]; exact ⟨rfl, rfl⟩))
    (fun os started H enc _ => lifted os started H enc)
theorem proved : Rows.FnExactMsgSizeSaid := over
#print axioms proved
end Go.Proofs.YtmbpdaffnabjcaaGreat.fnExactMsgSize
namespace Go.Proofs.YtmbpdaffnabjcaaGreat
/-- The row, under a short name, for the claim. -/
theorem fnExactMsgSize_holds : Rows.FnExactMsgSizeSaid := fnExactMsgSize.proved
end Go.Proofs.YtmbpdaffnabjcaaGreat
