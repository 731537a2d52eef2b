/-
Lemmas of one proof, the texts AwK2 to AwK2 joined.
-/
import Derived.Test.YtlooccmcmeofhaaGreatDoorT17
set_option linter.unusedSimpArgs false
set_option linter.unusedVariables false
set_option maxRecDepth 100000
set_option maxHeartbeats 32000000
noncomputable section
open Go Go.Proofs

namespace Go.Sim
theorem okRec:∀ k ∈ kRec,∀ lo H,Za NC lo k.f k.args H k.v H:=QL KP (by kernel_rfl)
theorem Z7X:∀ k ∈ Id,∀ lo H,Za NC lo k.f k.args H k.v H:=QL (XE (x:=(134,kSpl)) If (XE (x:=(104,kEvt)) Ig (XE (x:=(57,kChk)) CA KP))) (by kernel_rfl)
def kLog:List Known:=[⟨32,[.str (Ic++[49])],.tup [.ps .unk (awE.map Pos.Ev.row),i64 Ic.length,i64 28]⟩]
theorem okLog:∀ k ∈ kLog,∀ lo H,Za NC lo k.f k.args H k.v H:=QL (XE (x:=(91,Id)) Z7X KP) (by kernel_rfl)
end Go.Sim
