/-
Lemmas of one proof, the texts SimLib to SimLib joined.
-/
import Derived.Test.YtgeolchkidamgaaT10
import Derived.Shelf.Small.Strs
import Derived.Shelf.Strconv.Itoa3
import Derived.Shelf.Strings.OnBuilder
set_option linter.unusedSimpArgs false
set_option linter.unusedVariables false

set_option linter.unusedVariables false
namespace Go.Sim
open Go Go.Proofs Go.Shelf Go.RowKit
variable {P:Program} {ρ:Ren} {C:Cfg} {g:Gh} {n:Nat} {H:Heap} {w:World}
end Go.Sim
