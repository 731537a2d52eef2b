/-
Lemmas of one proof, the texts AwK3 to AwK3 joined.
-/
import Derived.Test.YtlooccmcmeofhaaGreatDoorT18
set_option linter.unusedSimpArgs false
set_option linter.unusedVariables false
set_option maxRecDepth 100000
set_option maxHeartbeats 32000000
noncomputable section
open Go Go.Proofs

namespace Go.Sim
def evR (n:Nat):AV:=.ps .unk ((awE.take n).map Pos.Ev.row)
def kAsk:List Known:=[⟨42,[evR 3,.str [117,112]],.tup [i64 40,i64 0]⟩,⟨42,[evR 2,.str [117,112]],.tup [i64 0,i64 32]⟩,⟨42,[evR 4,.str [117,112]],.tup [i64 0,i64 31]⟩]
def kBlk:List Known:=[⟨43,[evR 4,.str [117,112]],.tup [.ps .unk [[i64 90,i64 200]],i64 0]⟩]
def kIns:List Known:=[⟨27,[evR 7,.str [112]],.tup [.agg [i64 1,i64 5],i64 0]⟩]
def kRdy:List Known:=[⟨26,[evR 12,.str [112]],.tup [.bool false,i64 0]⟩,⟨26,[evR 13,.str [112]],.tup [.bool true,i64 0]⟩]
def kSto:List Known:=[⟨16,[evR 15,.str [117,112]],.tup [evR 15,i64 0]⟩]
def Ih:List Known:=[⟨22,[evR 15,evR 15],.bool true⟩]
theorem Vs:K8 NC [(57,kChk),(76,kOwn)]:=XE CA (XE Ie KP)
theorem okAsk:∀ k ∈ kAsk,∀ lo H,Za NC lo k.f k.args H k.v H:=QL Vs (by kernel_rfl)
theorem okBlk:∀ k ∈ kBlk,∀ lo H,Za NC lo k.f k.args H k.v H:=QL Vs (by kernel_rfl)
theorem okIns:∀ k ∈ kIns,∀ lo H,Za NC lo k.f k.args H k.v H:=QL Vs (by kernel_rfl)
theorem okRdy:∀ k ∈ kRdy,∀ lo H,Za NC lo k.f k.args H k.v H:=QL Vs (by kernel_rfl)
theorem okSto:∀ k ∈ kSto,∀ lo H,Za NC lo k.f k.args H k.v H:=QL Vs (by kernel_rfl)
theorem Z7Y:∀ k ∈ Ih,∀ lo H,Za NC lo k.f k.args H k.v H:=QL Vs (by kernel_rfl)
end Go.Sim
