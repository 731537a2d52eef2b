/-
Lemmas of one proof, the texts SimBuild to SimBuild joined.
-/
import Derived.Test.YtlooccmcmeofhaaGreatDoorT10
import Derived.Shelf.Strings.Builder1
set_option linter.unusedSimpArgs false
set_option linter.unusedVariables false
set_option maxRecDepth 100000
set_option maxHeartbeats 32000000
noncomputable section
open Go Go.Proofs

namespace Go.Proofs
open Go.Shelf Go.RowKit
variable {P:Program} {ρ:Ren}
end Go.Proofs
namespace Go.Sim
open Go Go.Proofs Go.Shelf Go.RowKit
variable {P:Program} {ρ:Ren}
variable {C:Cfg} {g:Gh} {n:Nat} {H:Heap} {w:World}
end Go.Sim
