/-
Lemmas of one proof, the texts AwK1 to AwK1 joined.
-/
import Derived.Test.YtlooccmcmeofhaaGreatDoorT16
set_option linter.unusedSimpArgs false
set_option linter.unusedVariables false
set_option maxRecDepth 100000
set_option maxHeartbeats 32000000
noncomputable section
open Go Go.Proofs

namespace Go.Sim
theorem If:∀ k ∈ kSpl,∀ lo H,Za NC lo k.f k.args H k.v H:=QL KP (by kernel_rfl)
theorem Ig:∀ k ∈ kEvt,∀ lo H,Za NC lo k.f k.args H k.v H:=QL KP (by kernel_rfl)
end Go.Sim
