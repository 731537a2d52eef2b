/-
Lemmas of one proof, the texts SimLib to SimLib joined.
-/
import Derived.Test.YtklnellnfbmokaaGreatT10
import Derived.Shelf.Small.Strs
import Derived.Shelf.Strconv.Itoa3
import Derived.Shelf.Strings.OnBuilder
set_option linter.unusedSimpArgs false
set_option linter.unusedVariables false

set_option linter.unusedVariables false
namespace Go.Sim
open Go Go.Proofs Go.Shelf Go.RowKit
variable {P:Program} {ρ:Ren} {C:Cfg} {g:Gh} {n:Nat} {H:Heap} {w:World}
def digs:Nat→Nat→List Nat
 | 0,_=>[]
 | f+1,n=>cond (Nat.blt n 10) [48+n] ((48+n % 10)::digs f (n / 10))
def itoaL (n:Int):List Nat:=match n with
 | .ofNat n=>(digs 20 n).reverse
 | .negSucc n=>45::(digs 20 (n+1)).reverse
end Go.Sim
