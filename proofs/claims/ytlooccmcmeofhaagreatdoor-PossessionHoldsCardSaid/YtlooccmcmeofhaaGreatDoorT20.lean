/-
Lemmas of one proof, the texts AwC to AwC joined.
-/
import Derived.Test.YtlooccmcmeofhaaGreatDoorT19
set_option linter.unusedSimpArgs false
set_option linter.unusedVariables false
set_option maxRecDepth 100000
set_option maxHeartbeats 32000000
noncomputable section
open Go Go.Proofs
open List (mem_cons_self)

namespace Go.Sim
def gAw:List (FuncId × List Known):=[(134,kSpl),(104,kEvt),(57,kChk),(76,kOwn),(89,kRec),(32,kLog),(42,kAsk),(43,kBlk),(27,kIns),(26,kRdy),(16,kSto),(22,Ih)]
theorem Z7Z:K8 NC gAw:=XE If (XE Ig (XE CA (XE Ie (XE okRec (XE okLog (XE okAsk (XE okBlk (XE okIns (XE okRdy (XE okSto (XE Z7Y KP)))))))))))
theorem okAw:∀ k ∈ ([⟨15,[],.bool true⟩]:List Known),∀ lo H,Za NC lo k.f k.args H k.v H:=QL Z7Z (by kernel_rfl)
theorem c15:∀ lo H,Za NC lo 15 [] H (.bool true) H:=okAw _ (mem_cons_self ..)
def p15:List AV->Option AV:=fun l=>match l with
 | []=>some (.bool true)
 | _=>none
theorem pok15:Pok p15 15:=by
 intro args v h;cases args with
 | nil=>have e:v=.bool true:=by simpa [p15] using h.symm
        subst e;exact c15
 | cons a r=>simp [p15] at h
theorem pe15:p15 []=some (.bool true):=rfl
attribute [go_sem] pe15
end Go.Sim
