/-
Lemmas of one proof, the texts LtC1 to LtC1 joined.
-/
import Derived.Test.YtgeolchkidamgaaT15
set_option linter.unusedSimpArgs false
set_option linter.unusedVariables false

/-
The statement TopLeverTravelled holds: a train that takes the least way between two places is, at each count, at the place that lies as far along the way, and the rest that the statement says.
-/
namespace Go.Proofs.Ytgeolchkidamgaa.travelled
set_option maxHeartbeats 4000000
open Go Go.Sim Go.Proofs Go.ChangeShapes Go.WideShapes Go.ChangeAt Go.RowKit

set_option maxRecDepth 100000 in
theorem contract (H : Type) (enc : TypeId × Value → H) (W : World) (base : Nat) (args : Array Value) (ds gs : List (DataW H)) (before : List MemPlace)
    (hval : ∀ (j : Nat) t v, Try.f3.params[j]? = some t → args[j]? = some v → Value.okWide Try.prog W .any base t v)
    (hW : DataW.Whole enc Try.prog Try.f3.params.toList Rows.topLeverTravelledSpec.vars false W args.toList ds gs before) :
    Calls Try.prog 3 args W fun e W' => ∃ v, e = .returned v ∧ Rows.topLeverTravelledSpec.post enc Try.prog Try.f3 false true false false W args v W' := by
  have hW' := hW
  obtain ⟨p, q, hA0, hV, rfl, hfz, hnd⟩ := hW
  have hA : DataW.TrodAll enc Try.prog W 0 (fun _ => true) true Try.f3.params.toList args.toList ds p := hA0
  rw [Try.params3] at hA hval
  obtain ⟨v0, vs0, d0, ds0, p0, q0, hargs, rfl, rfl, h0, r0⟩ := trodAll_cons hA
  obtain ⟨v1, vs1, d1, ds1, p1, q1, rfl, rfl, rfl, h1, r1⟩ := trodAll_cons r0
  obtain ⟨rfl, rfl, rfl⟩ := trodAll_nil r1
  obtain rfl : args = #[v0, v1] := by cases args; simp_all
  obtain ⟨rfl, rfl⟩ := trodVars_none hV
  obtain ⟨n, a0⟩ := arg_net (hval 0 26 v0 rfl rfl) h0
  obtain ⟨a, b, c, e, hr, a1⟩ := arg_four (hval 1 28 v1 rfl rfl) h1
  have hc := law_calls (Go.Sim.law_travelled n a b c e hr 0 .empty) (told W) (args := #[v0, v1]) (.cons a0 (.cons a1 .nil))
  exact hc.mono fun e W' he => law_post laidOut (by kernel_rfl) (by kernel_rfl) Try.underlying4 rfl rfl hW' he

abbrev wArgs : Array Value := #[.agg #[.slice none 0 0, .slice none 0 0, .slice none 0 0], .agg #[.int .u8 0, .int .u8 0, .int .u8 0, .int .u8 0]]

theorem reads (os : Os) {H : Type} (enc : TypeId × Value → H) : ∃ ds places, DataW.whole enc Try.prog ((laidWorld os).forCall (fun _ _ => 0) ⟨#[], wArgs, []⟩).memory Try.f3.params.toList Rows.topLeverTravelledSpec.vars false wArgs.toList 8 =
    some (ds, [], places) :=
  ⟨[.agg [.nil, .nil, .nil], .agg [.agg [.lit (.int .u8 0), .lit (.int .u8 0)], .agg [.lit (.int .u8 0), .lit (.int .u8 0)]]], [], by kernel_rfl⟩

set_option maxRecDepth 100000 in
theorem lifted (os : Os) (started : os.Started) (H : Type) (enc : TypeId × Value → H) (F : Stop.Interp) :
    ReturnsInHanded {} Try.checked os 3 .any ((OpenSpec.ofChange Rows.topLeverTravelledSpec).preRow enc Try.prog Try.f3 Rows.topLeverTravelledRow.domain false Rows.topLeverTravelledRow.laid) (((OpenSpec.ofChange Rows.topLeverTravelledSpec).at F).post enc Try.prog Try.f3 false true false false) := by
  obtain ⟨ds, places, hx⟩ := reads os enc
  refine returnsInHanded_of_row (C := Try.checked) (s := OpenSpec.ofChange Rows.topLeverTravelledSpec) own started (by kernel_rfl) Try.func3
    (witness_row_at (enc := enc) (C := Try.checked) false (laidWorld os) wArgs rfl (by kernel_rfl) (by kernel_rfl) (by kernel_rfl)
      (OpenSpec.preRow_of_cond 8 hx (by kernel_rfl) (fun k hk => by cases hk) (by kernel_rfl) (by rw [MakeChecks.laidMetH_plain _ _ _ (by kernel_rfl)]; exact laidMet_of_run' 8 (by kernel_rfl) (by kernel_rfl)))) ?_
  intro W base args ds gs before hval hW _ _ _ hL _ _
  exact contract H enc W base args ds gs before hval hW

theorem and_both {a b : Bool} (h1 : a = true) (h2 : b = true) : (a && b) = true := by rw [h1, h2]; rfl

/-- The closed facts, one by one. -/
theorem closed : joinedFacts Try.pinned.checked.prog 3 Try.f3 (OpenSpec.ofChange Rows.topLeverTravelledSpec).bare Rows.topLeverTravelledRow = true := by
  unfold joinedFacts
  repeat' with_reducible apply and_both
  all_goals (as_aux_lemma => kernel_rfl)

/-- **TopLeverTravelled holds.** -/
theorem said : Rows.TopLeverTravelledSaid :=
  OpenClaim.holds_of_cond 3 Try.f3 rfl rfl rfl rfl rfl rfl rfl ⟨rfl, rfl, rfl, rfl, rfl⟩ rfl rfl rfl rfl rfl (by as_aux_lemma => kernel_rfl) Try.func3 closed
    (of_decide_eq_true (by as_aux_lemma => kernel_rfl)) (by as_aux_lemma => unfold Func.isWrapper; first | (rw [if_pos (by decide +kernel)]; kernel_rfl) | (rw [if_neg (by decide +kernel)]; exact ⟨rfl, rfl⟩))
    (fun os started H enc _ F => by rw [OpenClaim.pre_eq_preRow]; exact lifted os started H enc F)

#print axioms said
end Go.Proofs.Ytgeolchkidamgaa.travelled
