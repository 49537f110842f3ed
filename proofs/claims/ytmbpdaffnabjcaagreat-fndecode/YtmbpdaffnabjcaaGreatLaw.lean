/- FnDecode: the law holds at every input: the call returns true and the argument reads as it did. No condition beyond the statement. -/
import Derived.Test.YtmbpdaffnabjcaaGreatS
import Derived.Test.YtmbpdaffnabjcaaGreatEH
import Derived.Test.YtmbpdaffnabjcaaGreatQB
import Derived.Test.YtmbpdaffnabjcaaGreatRows
import Derived.Test.YtmbpdaffnabjcaaGreatC
import Derived.WalkKit
import Derived.ProofKit
import Derived.OpenShut
import Derived.ShutString
import Derived.ChangeOld
import Derived.Below
import Derived.Carry
set_option linter.unusedVariables false
set_option linter.unusedSimpArgs false
set_option linter.unusedSectionVars false
/- The plain law of FnDecode, in the form that the row takes. -/
namespace Go.Ev.G
open Go.Ev
theorem pureFnDecode (x0 : List Int) (_ : InR bs x0) : ∃ k, S_wFnDecode.F k (x0, ()) = some true := (fnDecode_Y x0).ex
end Go.Ev.G
/- FnDecode: the law holds at every input: the call returns true and the argument reads as it did. No condition beyond the statement. -/
namespace Go.Proofs.YtmbpdaffnabjcaaGreat.fnDecode
open Go.ChangeShapes Go.WideShapes Go.ChangeAt Go.RowKit
set_option linter.unusedVariables false
theorem own : ownKnob Tryz.prog.godebug = none := by kernel_rfl
theorem laidOut : laidOutB Tryz.prog = true := by kernel_rfl
theorem walk (w : World) (args : Array Value) (x0 : Ev.den Go.Ev.G.bs) (ha : Ev.ArgsR w (fun b => b < w.heap.size) Go.Ev.G.S_wFnDecode.ps (x0, ()) args.toList []) (y0 : Ev.InR Go.Ev.G.bs x0) :
    Calls Tryz.prog 6 args w fun e w' => e = .returned (.bool true) ∧ Below w.heap.size w w' := by
  obtain ⟨k, hk⟩ := Go.Ev.G.pureFnDecode x0 y0
  refine ((Go.Ev.G.c_wFnDecode k).call (x0, ()) true hk w (fun b => b < w.heap.size) args [] ha List.nodup_nil (fun b hb => by cases hb) (fun b hb => ⟨hb, fun h => by cases h⟩)).mono ?_
  rintro e w' ⟨css, outs, J', bs', hE⟩
  exact ⟨Ev.end_bool hE.ret hE.res hE.len, Ev.below_of hE.ext⟩
set_option maxRecDepth 100000 in
theorem lifted (os : Os) (started : os.Started) (H : Type) (enc : TypeId × Value → H) :
    ReturnsInHanded {} Tryz.checked os 6 .any (Rows.fnDecodeSpec.pre6 enc Tryz.prog Tryz.f6 Rows.fnDecodeRow.domain false) (Rows.fnDecodeSpec.post enc Tryz.prog Tryz.f6 false true false false) := by
  refine returnsInHanded_of_change (C := Tryz.checked) own started (by kernel_rfl) Tryz.func6
    (ChangeSpec.witness6 (enc := enc) (C := Tryz.checked) false ⟨#[], #[.slice none 0 0], []⟩ 8 (by kernel_rfl) (by kernel_rfl) (by kernel_rfl) (by kernel_rfl)) ?_
  intro W base args ds gs before hval0 hW hcnd _
  have hval : ∀ (j : Nat) t v, Tryz.f6.params[j]? = some t → args[j]? = some v → Value.okWide Tryz.prog W .any base t v := hval0
  have hW' := hW
  obtain ⟨p, q, hA0, hV, rfl, hfz, hnd⟩ := hW
  have hA : DataW.TrodAll enc Tryz.prog W 0 (fun _ => true) true Tryz.f6.params.toList args.toList ds p := hA0
  rw [Tryz.params6] at hA hval
  obtain ⟨v0, vs0, d0, ds0, p0, q0, hargs, rfl, rfl, h0, r0⟩ := trodAll_cons hA
  obtain ⟨rfl, rfl, rfl⟩ := trodAll_nil r0
  obtain rfl : args = #[v0] := by cases args; simp_all
  obtain ⟨rfl, rfl⟩ := trodVars_none hV
  have lt0 : ∀ x ∈ p0, x.block < W.heap.size := by obtain ⟨m, hm⟩ := h0; exact DataW.trod_lt m _ _ _ hm
  obtain ⟨f0, hf0⟩ := id h0
  obtain ⟨x0, hx0⟩ := Ev.trod_rd Go.Ev.G.tok (T := Go.Ev.G.bs) rfl (t := 22) rfl hf0
  have e0 := Ev.okWide_ofC Go.Ev.G.tok (T := Go.Ev.G.bs) rfl rfl (hval 0 22 v0 rfl rfl)
  clear hA0 hval0
  refine (walk W #[v0] x0 ⟨v0, _, _, rfl, hx0, e0, ⟨rfl, rfl⟩⟩ (Ev.InR_of hx0)).mono fun e W' ⟨he, bel⟩ => ?_
  subst he
  exact ⟨_, rfl, _, _, _, [], _, [], hW', trodAll_mk1 (shut_bool Tryz.underlying4 _), (trodAll_cons_mk (Below.trod laidOut (by kernel_rfl) (of_decide_eq_true (by kernel_rfl)) h0 bel lt0) trodAll_mk0), rfl, bel.frame _, fun h => by cases h⟩
set_option maxHeartbeats 40000000 in
theorem facts : joinedFacts Tryz.prog 6 Tryz.f6 Rows.fnDecodeSpec Rows.fnDecodeRow = true := by
  unfold joinedFacts
  simp only [Bool.and_eq_true]
  repeat' apply And.intro
  all_goals (as_aux_lemma => kernel_rfl)
set_option maxHeartbeats 40000000 in
theorem over : Rows.fnDecodeRow.holds Tryz.pinned (OpenSpec.ofChange Rows.fnDecodeSpec) :=
  OpenClaim.holds_of_wide 6 Tryz.f6 rfl rfl rfl rfl rfl rfl rfl ⟨rfl, rfl, rfl, rfl, rfl⟩ rfl rfl rfl rfl rfl (by as_aux_lemma => kernel_rfl) Tryz.func6 facts
    (of_decide_eq_true (by kernel_rfl)) (by unfold Func.isWrapper; first | (rw [if_pos (by decide +kernel)]; kernel_rfl) | (rw [if_neg (by decide +kernel)]; exact ⟨rfl, rfl⟩))
    (fun os started H enc _ => lifted os started H enc)
theorem proved : Rows.FnDecodeSaid := over
#print axioms proved
end Go.Proofs.YtmbpdaffnabjcaaGreat.fnDecode
namespace Go.Proofs.YtmbpdaffnabjcaaGreat
/-- The row, under a short name, for the claim. -/
theorem fnDecode_holds : Rows.FnDecodeSaid := fnDecode.proved
end Go.Proofs.YtmbpdaffnabjcaaGreat
