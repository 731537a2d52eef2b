/-
The parts NetAwake, NetZ1, NetD1, NetD2, NetW1, NetFacts2, NetI1, NetW2, NetB1, NetA2, NetA3, NetB2, NetB3, NetNil, NetA4, NetG1, NetV1, NetFacts3, NetV3, NetV9, NetV13, NetA5, NetB4, NetB5, NetB6, NetB7, NetB8, NetB9, NetB10, NetB11, NetB12, NetB13, NetB14, NetA6, NetB16, NetLocal, NetTk0, NetTk, NetTk2 of one proof, joined: each begins with a remark that says what it shows.
-/
import Derived.Test.YtepaopekeidlmaaGreatDoorT14
import GoSem.Step
set_option linter.unusedSimpArgs false
set_option linter.unusedVariables false
open Nat (reduceEqDiff reduceAdd reduceMul reduceSub reduceLeDiff reduceLT)

/-
The document's examples: what 'awake' returns, found by closed runs.
-/
namespace Go.Sim
open Go
def aw0:List Known:=[]
theorem awh0:∀ k ∈ aw0,∀ lo H,CallOk NC lo k.f k.args H k.v H:=fun k h=>by cases h
def ak1:Known:=⟨110,[.ps .unk [[.str [117,112],.ps .unk [[.int .i64 100,.int .i64 5000,.bool false],[.int .i64 50,.int .i64 5080,.bool false],[.int .i64 30,.int .i64 5200,.bool true]]],[.str [115,105,100,101],.ps .unk [[.int .i64 40,.int .i64 0,.bool false]]]]],.int .i64 0⟩
theorem ac1:∀ lo H,CallOk NC lo ak1.f ak1.args H ak1.v H:=known_ok saneNC awh0 (fuel:=5000) (by kernel_rfl) (by kernel_rfl) (by kernel_rfl)
def aw1:List Known:=ak1::aw0
theorem awh1:∀ k ∈ aw1,∀ lo H,CallOk NC lo k.f k.args H k.v H:=fun k h=>(List.mem_cons.1 h).elim (fun e=>e ▸ ac1) (awh0 k)
def ak2:Known:=⟨112,[.agg [.ps .unk [[.str [117,112],.ps .unk [[.int .i64 100,.int .i64 5000,.bool false],[.int .i64 50,.int .i64 5080,.bool false],[.int .i64 30,.int .i64 5200,.bool true]]],[.str [115,105,100,101],.ps .unk [[.int .i64 40,.int .i64 0,.bool false]]]],.ps .unk [[.str [119],.str [117,112],.int .i64 120,.str [115,105,100,101],.bool false]],.ps .unk [[.str [97,114,99,104],.str [98,114,105,100,103,101],.str [117,112],.int .i64 130,.int .i64 150]]]],.int .i64 0⟩
theorem ac2:∀ lo H,CallOk NC lo ak2.f ak2.args H ak2.v H:=known_ok saneNC awh1 (fuel:=5000) (by kernel_rfl) (by kernel_rfl) (by kernel_rfl)
def aw2:List Known:=ak2::aw1
theorem awh2:∀ k ∈ aw2,∀ lo H,CallOk NC lo k.f k.args H k.v H:=fun k h=>(List.mem_cons.1 h).elim (fun e=>e ▸ ac2) (awh1 k)
def ak3:Known:=⟨113,[.agg [.ps .unk [[.str [117,112],.ps .unk [[.int .i64 100,.int .i64 5000,.bool false],[.int .i64 50,.int .i64 5080,.bool false],[.int .i64 30,.int .i64 5200,.bool true]]],[.str [115,105,100,101],.ps .unk [[.int .i64 40,.int .i64 0,.bool false]]]],.ps .unk [[.str [119],.str [117,112],.int .i64 120,.str [115,105,100,101],.bool false]],.ps .unk [[.str [97,114,99,104],.str [98,114,105,100,103,101],.str [117,112],.int .i64 130,.int .i64 150]]]],.int .i64 0⟩
theorem ac3:∀ lo H,CallOk NC lo ak3.f ak3.args H ak3.v H:=known_ok saneNC awh2 (fuel:=5000) (by kernel_rfl) (by kernel_rfl) (by kernel_rfl)
def aw3:List Known:=ak3::aw2
theorem awh3:∀ k ∈ aw3,∀ lo H,CallOk NC lo k.f k.args H k.v H:=fun k h=>(List.mem_cons.1 h).elim (fun e=>e ▸ ac3) (awh2 k)
def ak4:Known:=⟨29,[.agg [.ps .unk [[.str [117,112],.ps .unk [[.int .i64 100,.int .i64 5000,.bool false],[.int .i64 50,.int .i64 5080,.bool false],[.int .i64 30,.int .i64 5200,.bool true]]],[.str [115,105,100,101],.ps .unk [[.int .i64 40,.int .i64 0,.bool false]]]],.ps .unk [[.str [119],.str [117,112],.int .i64 120,.str [115,105,100,101],.bool false]],.ps .unk [[.str [97,114,99,104],.str [98,114,105,100,103,101],.str [117,112],.int .i64 130,.int .i64 150]]]],.int .i64 0⟩
theorem ac4:∀ lo H,CallOk NC lo ak4.f ak4.args H ak4.v H:=known_ok saneNC awh3 (fuel:=5000) (by kernel_rfl) (by kernel_rfl) (by kernel_rfl)
def aw4:List Known:=ak4::aw3
theorem awh4:∀ k ∈ aw4,∀ lo H,CallOk NC lo k.f k.args H k.v H:=fun k h=>(List.mem_cons.1 h).elim (fun e=>e ▸ ac4) (awh3 k)
def ak5:Known:=⟨18,[.agg [.ps .unk [[.str [117,112],.ps .unk [[.int .i64 100,.int .i64 5000,.bool false],[.int .i64 50,.int .i64 5080,.bool false],[.int .i64 30,.int .i64 5200,.bool true]]],[.str [115,105,100,101],.ps .unk [[.int .i64 40,.int .i64 0,.bool false]]]],.ps .unk [[.str [119],.str [117,112],.int .i64 120,.str [115,105,100,101],.bool false]],.ps .unk [[.str [97,114,99,104],.str [98,114,105,100,103,101],.str [117,112],.int .i64 130,.int .i64 150]]],.str [117,112]],.tup [.int .i64 180,.int .i64 0]⟩
theorem ac5:∀ lo H,CallOk NC lo ak5.f ak5.args H ak5.v H:=known_ok saneNC awh4 (fuel:=5000) (by kernel_rfl) (by kernel_rfl) (by kernel_rfl)
def aw5:List Known:=ak5::aw4
theorem awh5:∀ k ∈ aw5,∀ lo H,CallOk NC lo k.f k.args H k.v H:=fun k h=>(List.mem_cons.1 h).elim (fun e=>e ▸ ac5) (awh4 k)
def ak6:Known:=⟨20,[.agg [.ps .unk [[.str [117,112],.ps .unk [[.int .i64 100,.int .i64 5000,.bool false],[.int .i64 50,.int .i64 5080,.bool false],[.int .i64 30,.int .i64 5200,.bool true]]],[.str [115,105,100,101],.ps .unk [[.int .i64 40,.int .i64 0,.bool false]]]],.ps .unk [[.str [119],.str [117,112],.int .i64 120,.str [115,105,100,101],.bool false]],.ps .unk [[.str [97,114,99,104],.str [98,114,105,100,103,101],.str [117,112],.int .i64 130,.int .i64 150]]],.agg [.str [117,112],.int .i64 120]],.tup [.agg [.str [117,112],.int .i64 1,.int .i64 5100],.int .i64 0]⟩
theorem ac6:∀ lo H,CallOk NC lo ak6.f ak6.args H ak6.v H:=known_ok saneNC awh5 (fuel:=5000) (by kernel_rfl) (by kernel_rfl) (by kernel_rfl)
def aw6:List Known:=ak6::aw5
theorem awh6:∀ k ∈ aw6,∀ lo H,CallOk NC lo k.f k.args H k.v H:=fun k h=>(List.mem_cons.1 h).elim (fun e=>e ▸ ac6) (awh5 k)
def ak7:Known:=⟨20,[.agg [.ps .unk [[.str [117,112],.ps .unk [[.int .i64 100,.int .i64 5000,.bool false],[.int .i64 50,.int .i64 5080,.bool false],[.int .i64 30,.int .i64 5200,.bool true]]],[.str [115,105,100,101],.ps .unk [[.int .i64 40,.int .i64 0,.bool false]]]],.ps .unk [[.str [119],.str [117,112],.int .i64 120,.str [115,105,100,101],.bool false]],.ps .unk [[.str [97,114,99,104],.str [98,114,105,100,103,101],.str [117,112],.int .i64 130,.int .i64 150]]],.agg [.str [117,112],.int .i64 179]],.tup [.agg [.str [117,112],.int .i64 2,.int .i64 5171],.int .i64 0]⟩
theorem ac7:∀ lo H,CallOk NC lo ak7.f ak7.args H ak7.v H:=known_ok saneNC awh6 (fuel:=5000) (by kernel_rfl) (by kernel_rfl) (by kernel_rfl)
def aw7:List Known:=ak7::aw6
theorem awh7:∀ k ∈ aw7,∀ lo H,CallOk NC lo k.f k.args H k.v H:=fun k h=>(List.mem_cons.1 h).elim (fun e=>e ▸ ac7) (awh6 k)
def ak8:Known:=⟨51,[.agg [.ps .unk [[.str [117,112],.ps .unk [[.int .i64 100,.int .i64 5000,.bool false],[.int .i64 50,.int .i64 5080,.bool false],[.int .i64 30,.int .i64 5200,.bool true]]],[.str [115,105,100,101],.ps .unk [[.int .i64 40,.int .i64 0,.bool false]]]],.ps .unk [[.str [119],.str [117,112],.int .i64 120,.str [115,105,100,101],.bool false]],.ps .unk [[.str [97,114,99,104],.str [98,114,105,100,103,101],.str [117,112],.int .i64 130,.int .i64 150]]],.str [117,112],.int .i64 5090],.tup [.ps .unk [[.str [117,112],.int .i64 0,.int .i64 5090],[.str [117,112],.int .i64 1,.int .i64 5090]],.int .i64 0]⟩
theorem ac8:∀ lo H,CallOk NC lo ak8.f ak8.args H ak8.v H:=known_ok saneNC awh7 (fuel:=5000) (by kernel_rfl) (by kernel_rfl) (by kernel_rfl)
def aw8:List Known:=ak8::aw7
theorem awh8:∀ k ∈ aw8,∀ lo H,CallOk NC lo k.f k.args H k.v H:=fun k h=>(List.mem_cons.1 h).elim (fun e=>e ▸ ac8) (awh7 k)
def ak9:Known:=⟨21,[.agg [.ps .unk [[.str [117,112],.ps .unk [[.int .i64 100,.int .i64 5000,.bool false],[.int .i64 50,.int .i64 5080,.bool false],[.int .i64 30,.int .i64 5200,.bool true]]],[.str [115,105,100,101],.ps .unk [[.int .i64 40,.int .i64 0,.bool false]]]],.ps .unk [[.str [119],.str [117,112],.int .i64 120,.str [115,105,100,101],.bool false]],.ps .unk [[.str [97,114,99,104],.str [98,114,105,100,103,101],.str [117,112],.int .i64 130,.int .i64 150]]],.agg [.str [117,112],.int .i64 1,.int .i64 5090]],.tup [.agg [.str [117,112],.int .i64 110],.int .i64 0]⟩
theorem ac9:∀ lo H,CallOk NC lo ak9.f ak9.args H ak9.v H:=known_ok saneNC awh8 (fuel:=5000) (by kernel_rfl) (by kernel_rfl) (by kernel_rfl)
def aw9:List Known:=ak9::aw8
theorem awh9:∀ k ∈ aw9,∀ lo H,CallOk NC lo k.f k.args H k.v H:=fun k h=>(List.mem_cons.1 h).elim (fun e=>e ▸ ac9) (awh8 k)
def ak10:Known:=⟨114,[.agg [.ps .unk [[.str [117,112],.ps .unk [[.int .i64 100,.int .i64 5000,.bool false],[.int .i64 50,.int .i64 5080,.bool false],[.int .i64 30,.int .i64 5200,.bool true]]],[.str [115,105,100,101],.ps .unk [[.int .i64 40,.int .i64 0,.bool false]]]],.ps .unk [[.str [119],.str [117,112],.int .i64 120,.str [115,105,100,101],.bool false]],.ps .unk [[.str [97,114,99,104],.str [98,114,105,100,103,101],.str [117,112],.int .i64 130,.int .i64 150]]],.ps .unk [[.str [117,112],.int .i64 100],[.str [115,105,100,101],.int .i64 10]]],.int .i64 0⟩
theorem ac10:∀ lo H,CallOk NC lo ak10.f ak10.args H ak10.v H:=known_ok saneNC awh9 (fuel:=5000) (by kernel_rfl) (by kernel_rfl) (by kernel_rfl)
def aw10:List Known:=ak10::aw9
theorem awh10:∀ k ∈ aw10,∀ lo H,CallOk NC lo k.f k.args H k.v H:=fun k h=>(List.mem_cons.1 h).elim (fun e=>e ▸ ac10) (awh9 k)
def ak11:Known:=⟨203,[.agg [.ps .unk [[.str [117,112],.ps .unk [[.int .i64 100,.int .i64 5000,.bool false],[.int .i64 50,.int .i64 5080,.bool false],[.int .i64 30,.int .i64 5200,.bool true]]],[.str [115,105,100,101],.ps .unk [[.int .i64 40,.int .i64 0,.bool false]]]],.ps .unk [[.str [119],.str [117,112],.int .i64 120,.str [115,105,100,101],.bool false]],.ps .unk [[.str [97,114,99,104],.str [98,114,105,100,103,101],.str [117,112],.int .i64 130,.int .i64 150]]],.agg [.ps .unk [[.str [117,112],.int .i64 100,.int .i64 120],[.str [115,105,100,101],.int .i64 0,.int .i64 0],[.str [117,112],.int .i64 120,.int .i64 120]],.int .i64 20],.agg [.ps .unk [[.str [117,112],.int .i64 100,.int .i64 120]],.int .i64 20]],.int .i64 1⟩
theorem ac11:∀ lo H,CallOk NC lo ak11.f ak11.args H ak11.v H:=known_ok saneNC awh10 (fuel:=5000) (by kernel_rfl) (by kernel_rfl) (by kernel_rfl)
def aw11:List Known:=ak11::aw10
theorem awh11:∀ k ∈ aw11,∀ lo H,CallOk NC lo k.f k.args H k.v H:=fun k h=>(List.mem_cons.1 h).elim (fun e=>e ▸ ac11) (awh10 k)
def ak12:Known:=⟨203,[.agg [.ps .unk [[.str [117,112],.ps .unk [[.int .i64 100,.int .i64 5000,.bool false],[.int .i64 50,.int .i64 5080,.bool false],[.int .i64 30,.int .i64 5200,.bool true]]],[.str [115,105,100,101],.ps .unk [[.int .i64 40,.int .i64 0,.bool false]]]],.ps .unk [[.str [119],.str [117,112],.int .i64 120,.str [115,105,100,101],.bool false]],.ps .unk [[.str [97,114,99,104],.str [98,114,105,100,103,101],.str [117,112],.int .i64 130,.int .i64 150]]],.agg [.ps .unk [[.str [117,112],.int .i64 100,.int .i64 120],[.str [115,105,100,101],.int .i64 0,.int .i64 0]],.int .i64 20],.agg [.ps .unk [[.str [117,112],.int .i64 100,.int .i64 120],[.str [115,105,100,101],.int .i64 0,.int .i64 0]],.int .i64 20]],.int .i64 0⟩
theorem ac12:∀ lo H,CallOk NC lo ak12.f ak12.args H ak12.v H:=known_ok saneNC awh11 (fuel:=5000) (by kernel_rfl) (by kernel_rfl) (by kernel_rfl)
def aw12:List Known:=ak12::aw11
theorem awh12:∀ k ∈ aw12,∀ lo H,CallOk NC lo k.f k.args H k.v H:=fun k h=>(List.mem_cons.1 h).elim (fun e=>e ▸ ac12) (awh11 k)
def ak13:Known:=⟨142,[.agg [.ps .unk [[.str [117,112],.ps .unk [[.int .i64 100,.int .i64 5000,.bool false],[.int .i64 50,.int .i64 5080,.bool false],[.int .i64 30,.int .i64 5200,.bool true]]],[.str [115,105,100,101],.ps .unk [[.int .i64 40,.int .i64 0,.bool false]]]],.ps .unk [[.str [119],.str [117,112],.int .i64 120,.str [115,105,100,101],.bool false]],.ps .unk [[.str [97,114,99,104],.str [98,114,105,100,103,101],.str [117,112],.int .i64 130,.int .i64 150]]],.agg [.str [117,112],.int .i64 100],.agg [.str [115,105,100,101],.int .i64 10]],.tup [.agg [.ps .unk [[.str [117,112],.int .i64 100,.int .i64 120],[.str [115,105,100,101],.int .i64 0,.int .i64 10]],.int .i64 30],.bool true]⟩
theorem ac13:∀ lo H,CallOk NC lo ak13.f ak13.args H ak13.v H:=known_ok saneNC awh12 (fuel:=5000) (by kernel_rfl) (by kernel_rfl) (by kernel_rfl)
def aw13:List Known:=ak13::aw12
theorem awh13:∀ k ∈ aw13,∀ lo H,CallOk NC lo k.f k.args H k.v H:=fun k h=>(List.mem_cons.1 h).elim (fun e=>e ▸ ac13) (awh12 k)
def ak14:Known:=⟨71,[.agg [.ps .unk [[.str [117,112],.ps .unk [[.int .i64 100,.int .i64 5000,.bool false],[.int .i64 50,.int .i64 5080,.bool false],[.int .i64 30,.int .i64 5200,.bool true]]],[.str [115,105,100,101],.ps .unk [[.int .i64 40,.int .i64 0,.bool false]]]],.ps .unk [[.str [119],.str [117,112],.int .i64 120,.str [115,105,100,101],.bool false]],.ps .unk [[.str [97,114,99,104],.str [98,114,105,100,103,101],.str [117,112],.int .i64 130,.int .i64 150]]],.agg [.str [117,112],.int .i64 100],.agg [.str [115,105,100,101],.int .i64 10]],.tup [.ps .unk [[.str [117,112],.int .i64 100,.int .i64 120],[.str [115,105,100,101],.int .i64 0,.int .i64 10]],.int .i64 30,.int .i64 0]⟩
theorem ac14:∀ lo H,CallOk NC lo ak14.f ak14.args H ak14.v H:=known_ok saneNC awh13 (fuel:=5000) (by kernel_rfl) (by kernel_rfl) (by kernel_rfl)
def aw14:List Known:=ak14::aw13
theorem awh14:∀ k ∈ aw14,∀ lo H,CallOk NC lo k.f k.args H k.v H:=fun k h=>(List.mem_cons.1 h).elim (fun e=>e ▸ ac14) (awh13 k)
def ak15:Known:=⟨114,[.agg [.ps .unk [[.str [117,112],.ps .unk [[.int .i64 100,.int .i64 5000,.bool false],[.int .i64 50,.int .i64 5080,.bool false],[.int .i64 30,.int .i64 5200,.bool true]]],[.str [115,105,100,101],.ps .unk [[.int .i64 40,.int .i64 0,.bool false]]]],.ps .unk [[.str [119],.str [117,112],.int .i64 120,.str [115,105,100,101],.bool false]],.ps .unk [[.str [97,114,99,104],.str [98,114,105,100,103,101],.str [117,112],.int .i64 130,.int .i64 150]]],.ps .unk [[.str [115,105,100,101],.int .i64 5]]],.int .i64 0⟩
theorem ac15:∀ lo H,CallOk NC lo ak15.f ak15.args H ak15.v H:=known_ok saneNC awh14 (fuel:=5000) (by kernel_rfl) (by kernel_rfl) (by kernel_rfl)
def aw15:List Known:=ak15::aw14
theorem awh15:∀ k ∈ aw15,∀ lo H,CallOk NC lo k.f k.args H k.v H:=fun k h=>(List.mem_cons.1 h).elim (fun e=>e ▸ ac15) (awh14 k)
def ak16:Known:=⟨203,[.agg [.ps .unk [[.str [117,112],.ps .unk [[.int .i64 100,.int .i64 5000,.bool false],[.int .i64 50,.int .i64 5080,.bool false],[.int .i64 30,.int .i64 5200,.bool true]]],[.str [115,105,100,101],.ps .unk [[.int .i64 40,.int .i64 0,.bool false]]]],.ps .unk [[.str [119],.str [117,112],.int .i64 120,.str [115,105,100,101],.bool false]],.ps .unk [[.str [97,114,99,104],.str [98,114,105,100,103,101],.str [117,112],.int .i64 130,.int .i64 150]]],.agg [.ps .unk [[.str [115,105,100,101],.int .i64 5,.int .i64 0],[.str [117,112],.int .i64 120,.int .i64 120],[.str [115,105,100,101],.int .i64 0,.int .i64 0]],.int .i64 5],.agg [.ps .unk [[.str [115,105,100,101],.int .i64 5,.int .i64 0]],.int .i64 5]],.int .i64 1⟩
theorem ac16:∀ lo H,CallOk NC lo ak16.f ak16.args H ak16.v H:=known_ok saneNC awh15 (fuel:=5000) (by kernel_rfl) (by kernel_rfl) (by kernel_rfl)
def aw16:List Known:=ak16::aw15
theorem awh16:∀ k ∈ aw16,∀ lo H,CallOk NC lo k.f k.args H k.v H:=fun k h=>(List.mem_cons.1 h).elim (fun e=>e ▸ ac16) (awh15 k)
def ak17:Known:=⟨203,[.agg [.ps .unk [[.str [117,112],.ps .unk [[.int .i64 100,.int .i64 5000,.bool false],[.int .i64 50,.int .i64 5080,.bool false],[.int .i64 30,.int .i64 5200,.bool true]]],[.str [115,105,100,101],.ps .unk [[.int .i64 40,.int .i64 0,.bool false]]]],.ps .unk [[.str [119],.str [117,112],.int .i64 120,.str [115,105,100,101],.bool false]],.ps .unk [[.str [97,114,99,104],.str [98,114,105,100,103,101],.str [117,112],.int .i64 130,.int .i64 150]]],.agg [.ps .unk [[.str [115,105,100,101],.int .i64 5,.int .i64 0],[.str [117,112],.int .i64 120,.int .i64 120]],.int .i64 5],.agg [.ps .unk [[.str [115,105,100,101],.int .i64 5,.int .i64 0],[.str [117,112],.int .i64 120,.int .i64 120]],.int .i64 5]],.int .i64 0⟩
theorem ac17:∀ lo H,CallOk NC lo ak17.f ak17.args H ak17.v H:=known_ok saneNC awh16 (fuel:=5000) (by kernel_rfl) (by kernel_rfl) (by kernel_rfl)
def aw17:List Known:=ak17::aw16
theorem awh17:∀ k ∈ aw17,∀ lo H,CallOk NC lo k.f k.args H k.v H:=fun k h=>(List.mem_cons.1 h).elim (fun e=>e ▸ ac17) (awh16 k)
def ak18:Known:=⟨116,[.agg [.ps .unk [[.str [117,112],.ps .unk [[.int .i64 100,.int .i64 5000,.bool false],[.int .i64 50,.int .i64 5080,.bool false],[.int .i64 30,.int .i64 5200,.bool true]]],[.str [115,105,100,101],.ps .unk [[.int .i64 40,.int .i64 0,.bool false]]]],.ps .unk [[.str [119],.str [117,112],.int .i64 120,.str [115,105,100,101],.bool false]],.ps .unk [[.str [97,114,99,104],.str [98,114,105,100,103,101],.str [117,112],.int .i64 130,.int .i64 150]]],.agg [.str [115,105,100,101],.int .i64 5]],.ps .unk [[.str [115,105,100,101],.int .i64 5,.int .i64 0],[.str [115,105,100,101],.int .i64 0,.int .i64 5],[.str [117,112],.int .i64 120,.int .i64 5]]⟩
theorem ac18:∀ lo H,CallOk NC lo ak18.f ak18.args H ak18.v H:=known_ok saneNC awh17 (fuel:=5000) (by kernel_rfl) (by kernel_rfl) (by kernel_rfl)
def aw18:List Known:=ak18::aw17
theorem awh18:∀ k ∈ aw18,∀ lo H,CallOk NC lo k.f k.args H k.v H:=fun k h=>(List.mem_cons.1 h).elim (fun e=>e ▸ ac18) (awh17 k)
def ak19:Known:=⟨33,[.agg [.ps .unk [[.str [117,112],.ps .unk [[.int .i64 100,.int .i64 5000,.bool false],[.int .i64 50,.int .i64 5080,.bool false],[.int .i64 30,.int .i64 5200,.bool true]]],[.str [115,105,100,101],.ps .unk [[.int .i64 40,.int .i64 0,.bool false]]]],.ps .unk [[.str [119],.str [117,112],.int .i64 120,.str [115,105,100,101],.bool false]],.ps .unk [[.str [97,114,99,104],.str [98,114,105,100,103,101],.str [117,112],.int .i64 130,.int .i64 150]]],.agg [.str [115,105,100,101],.int .i64 5],.str [98,114,105,100,103,101]],.tup [.str [97,114,99,104],.int .i64 15,.int .i64 0]⟩
theorem ac19:∀ lo H,CallOk NC lo ak19.f ak19.args H ak19.v H:=known_ok saneNC awh18 (fuel:=5000) (by kernel_rfl) (by kernel_rfl) (by kernel_rfl)
def aw19:List Known:=ak19::aw18
theorem awh19:∀ k ∈ aw19,∀ lo H,CallOk NC lo k.f k.args H k.v H:=fun k h=>(List.mem_cons.1 h).elim (fun e=>e ▸ ac19) (awh18 k)
def ak20:Known:=⟨127,[.agg [.str [117,112],.int .i64 0,.int .i64 100,.str [109,97,105,110],.int .i64 20,.bool false]],.int .i64 0⟩
theorem ac20:∀ lo H,CallOk NC lo ak20.f ak20.args H ak20.v H:=known_ok saneNC awh19 (fuel:=5000) (by kernel_rfl) (by kernel_rfl) (by kernel_rfl)
def aw20:List Known:=ak20::aw19
theorem awh20:∀ k ∈ aw20,∀ lo H,CallOk NC lo k.f k.args H k.v H:=fun k h=>(List.mem_cons.1 h).elim (fun e=>e ▸ ac20) (awh19 k)
def ak21:Known:=⟨127,[.agg [.str [117,112],.int .i64 100,.int .i64 50,.str [109,97,105,110],.int .i64 200,.bool true]],.int .i64 0⟩
theorem ac21:∀ lo H,CallOk NC lo ak21.f ak21.args H ak21.v H:=known_ok saneNC awh20 (fuel:=5000) (by kernel_rfl) (by kernel_rfl) (by kernel_rfl)
def aw21:List Known:=ak21::aw20
theorem awh21:∀ k ∈ aw21,∀ lo H,CallOk NC lo k.f k.args H k.v H:=fun k h=>(List.mem_cons.1 h).elim (fun e=>e ▸ ac21) (awh20 k)
def ak22:Known:=⟨49,[.ps .unk [[.str [117,112],.int .i64 0,.int .i64 100,.str [109,97,105,110],.int .i64 20,.bool false],[.str [117,112],.int .i64 100,.int .i64 50,.str [109,97,105,110],.int .i64 200,.bool true]]],.int .i64 0⟩
theorem ac22:∀ lo H,CallOk NC lo ak22.f ak22.args H ak22.v H:=known_ok saneNC awh21 (fuel:=5000) (by kernel_rfl) (by kernel_rfl) (by kernel_rfl)
def aw22:List Known:=ak22::aw21
theorem awh22:∀ k ∈ aw22,∀ lo H,CallOk NC lo k.f k.args H k.v H:=fun k h=>(List.mem_cons.1 h).elim (fun e=>e ▸ ac22) (awh21 k)
def ak23:Known:=⟨42,[.ps .unk [[.str [117,112],.int .i64 0,.int .i64 100,.str [109,97,105,110],.int .i64 20,.bool false],[.str [117,112],.int .i64 100,.int .i64 50,.str [109,97,105,110],.int .i64 200,.bool true]],.agg [.str [117,112],.int .i64 110]],.tup [.agg [.str [109,97,105,110],.int .i64 239],.int .i64 0]⟩
theorem ac23:∀ lo H,CallOk NC lo ak23.f ak23.args H ak23.v H:=known_ok saneNC awh22 (fuel:=5000) (by kernel_rfl) (by kernel_rfl) (by kernel_rfl)
def aw23:List Known:=ak23::aw22
theorem awh23:∀ k ∈ aw23,∀ lo H,CallOk NC lo k.f k.args H k.v H:=fun k h=>(List.mem_cons.1 h).elim (fun e=>e ▸ ac23) (awh22 k)
def ak24:Known:=⟨54,[.ps .unk [[.str [117,112],.int .i64 0,.int .i64 100,.str [109,97,105,110],.int .i64 20,.bool false],[.str [117,112],.int .i64 100,.int .i64 50,.str [109,97,105,110],.int .i64 200,.bool true]]],.tup [.ps .unk [[.str [109,97,105,110],.int .i64 20,.int .i64 100,.str [117,112],.int .i64 0,.bool false],[.str [109,97,105,110],.int .i64 200,.int .i64 50,.str [117,112],.int .i64 100,.bool true]],.int .i64 0]⟩
theorem ac24:∀ lo H,CallOk NC lo ak24.f ak24.args H ak24.v H:=known_ok saneNC awh23 (fuel:=5000) (by kernel_rfl) (by kernel_rfl) (by kernel_rfl)
def aw24:List Known:=ak24::aw23
theorem awh24:∀ k ∈ aw24,∀ lo H,CallOk NC lo k.f k.args H k.v H:=fun k h=>(List.mem_cons.1 h).elim (fun e=>e ▸ ac24) (awh23 k)
def ak25:Known:=⟨127,[.agg [.str [109,97,105,110],.int .i64 0,.int .i64 60,.str [111,108,100],.int .i64 500,.bool false]],.int .i64 0⟩
theorem ac25:∀ lo H,CallOk NC lo ak25.f ak25.args H ak25.v H:=known_ok saneNC awh24 (fuel:=5000) (by kernel_rfl) (by kernel_rfl) (by kernel_rfl)
def aw25:List Known:=ak25::aw24
theorem awh25:∀ k ∈ aw25,∀ lo H,CallOk NC lo k.f k.args H k.v H:=fun k h=>(List.mem_cons.1 h).elim (fun e=>e ▸ ac25) (awh24 k)
def ak26:Known:=⟨49,[.ps .unk [[.str [109,97,105,110],.int .i64 0,.int .i64 60,.str [111,108,100],.int .i64 500,.bool false]]],.int .i64 0⟩
theorem ac26:∀ lo H,CallOk NC lo ak26.f ak26.args H ak26.v H:=known_ok saneNC awh25 (fuel:=5000) (by kernel_rfl) (by kernel_rfl) (by kernel_rfl)
def aw26:List Known:=ak26::aw25
theorem awh26:∀ k ∈ aw26,∀ lo H,CallOk NC lo k.f k.args H k.v H:=fun k h=>(List.mem_cons.1 h).elim (fun e=>e ▸ ac26) (awh25 k)
def ak27:Known:=⟨55,[.ps .unk [[.str [117,112],.int .i64 0,.int .i64 100,.str [109,97,105,110],.int .i64 20,.bool false],[.str [117,112],.int .i64 100,.int .i64 50,.str [109,97,105,110],.int .i64 200,.bool true]],.ps .unk [[.str [109,97,105,110],.int .i64 0,.int .i64 60,.str [111,108,100],.int .i64 500,.bool false]]],.tup [.ps .unk [[.str [117,112],.int .i64 0,.int .i64 40,.str [111,108,100],.int .i64 520,.bool false]],.int .i64 0]⟩
theorem ac27:∀ lo H,CallOk NC lo ak27.f ak27.args H ak27.v H:=known_ok saneNC awh26 (fuel:=5000) (by kernel_rfl) (by kernel_rfl) (by kernel_rfl)
def aw27:List Known:=ak27::aw26
theorem awh27:∀ k ∈ aw27,∀ lo H,CallOk NC lo k.f k.args H k.v H:=fun k h=>(List.mem_cons.1 h).elim (fun e=>e ▸ ac27) (awh26 k)
def ak28:Known:=⟨110,[.ps .unk [[.str [109,97,105,110],.ps .unk [[.int .i64 300,.int .i64 1000,.bool false]]]]],.int .i64 0⟩
theorem ac28:∀ lo H,CallOk NC lo ak28.f ak28.args H ak28.v H:=known_ok saneNC awh27 (fuel:=5000) (by kernel_rfl) (by kernel_rfl) (by kernel_rfl)
def aw28:List Known:=ak28::aw27
theorem awh28:∀ k ∈ aw28,∀ lo H,CallOk NC lo k.f k.args H k.v H:=fun k h=>(List.mem_cons.1 h).elim (fun e=>e ▸ ac28) (awh27 k)
def ak29:Known:=⟨29,[.agg [.ps .unk [[.str [109,97,105,110],.ps .unk [[.int .i64 300,.int .i64 1000,.bool false]]]],.ps .unk [],.ps .unk []]],.int .i64 0⟩
theorem ac29:∀ lo H,CallOk NC lo ak29.f ak29.args H ak29.v H:=known_ok saneNC awh28 (fuel:=5000) (by kernel_rfl) (by kernel_rfl) (by kernel_rfl)
def aw29:List Known:=ak29::aw28
theorem awh29:∀ k ∈ aw29,∀ lo H,CallOk NC lo k.f k.args H k.v H:=fun k h=>(List.mem_cons.1 h).elim (fun e=>e ▸ ac29) (awh28 k)
def ak30:Known:=⟨133,[.agg [.ps .unk [[.str [117,112],.ps .unk [[.int .i64 100,.int .i64 5000,.bool false],[.int .i64 50,.int .i64 5080,.bool false],[.int .i64 30,.int .i64 5200,.bool true]]],[.str [115,105,100,101],.ps .unk [[.int .i64 40,.int .i64 0,.bool false]]]],.ps .unk [[.str [119],.str [117,112],.int .i64 120,.str [115,105,100,101],.bool false]],.ps .unk [[.str [97,114,99,104],.str [98,114,105,100,103,101],.str [117,112],.int .i64 130,.int .i64 150]]],.str [117,112],.agg [.int .i64 0,.int .i64 100]],.int .i64 0⟩
theorem ac30:∀ lo H,CallOk NC lo ak30.f ak30.args H ak30.v H:=known_ok saneNC awh29 (fuel:=5000) (by kernel_rfl) (by kernel_rfl) (by kernel_rfl)
def aw30:List Known:=ak30::aw29
theorem awh30:∀ k ∈ aw30,∀ lo H,CallOk NC lo k.f k.args H k.v H:=fun k h=>(List.mem_cons.1 h).elim (fun e=>e ▸ ac30) (awh29 k)
def ak31:Known:=⟨133,[.agg [.ps .unk [[.str [117,112],.ps .unk [[.int .i64 100,.int .i64 5000,.bool false],[.int .i64 50,.int .i64 5080,.bool false],[.int .i64 30,.int .i64 5200,.bool true]]],[.str [115,105,100,101],.ps .unk [[.int .i64 40,.int .i64 0,.bool false]]]],.ps .unk [[.str [119],.str [117,112],.int .i64 120,.str [115,105,100,101],.bool false]],.ps .unk [[.str [97,114,99,104],.str [98,114,105,100,103,101],.str [117,112],.int .i64 130,.int .i64 150]]],.str [117,112],.agg [.int .i64 100,.int .i64 150]],.int .i64 0⟩
theorem ac31:∀ lo H,CallOk NC lo ak31.f ak31.args H ak31.v H:=known_ok saneNC awh30 (fuel:=5000) (by kernel_rfl) (by kernel_rfl) (by kernel_rfl)
def aw31:List Known:=ak31::aw30
theorem awh31:∀ k ∈ aw31,∀ lo H,CallOk NC lo k.f k.args H k.v H:=fun k h=>(List.mem_cons.1 h).elim (fun e=>e ▸ ac31) (awh30 k)
def ak32:Known:=⟨50,[.ps .unk [[.str [117,112],.int .i64 0,.int .i64 100,.str [109,97,105,110],.int .i64 20,.bool false],[.str [117,112],.int .i64 100,.int .i64 50,.str [109,97,105,110],.int .i64 200,.bool true]],.agg [.ps .unk [[.str [117,112],.ps .unk [[.int .i64 100,.int .i64 5000,.bool false],[.int .i64 50,.int .i64 5080,.bool false],[.int .i64 30,.int .i64 5200,.bool true]]],[.str [115,105,100,101],.ps .unk [[.int .i64 40,.int .i64 0,.bool false]]]],.ps .unk [[.str [119],.str [117,112],.int .i64 120,.str [115,105,100,101],.bool false]],.ps .unk [[.str [97,114,99,104],.str [98,114,105,100,103,101],.str [117,112],.int .i64 130,.int .i64 150]]],.agg [.ps .unk [[.str [109,97,105,110],.ps .unk [[.int .i64 300,.int .i64 1000,.bool false]]]],.ps .unk [],.ps .unk []]],.int .i64 0⟩
theorem ac32:∀ lo H,CallOk NC lo ak32.f ak32.args H ak32.v H:=known_ok saneNC awh31 (fuel:=5000) (by kernel_rfl) (by kernel_rfl) (by kernel_rfl)
def aw32:List Known:=ak32::aw31
theorem awh32:∀ k ∈ aw32,∀ lo H,CallOk NC lo k.f k.args H k.v H:=fun k h=>(List.mem_cons.1 h).elim (fun e=>e ▸ ac32) (awh31 k)
def ak33:Known:=⟨69,[.ps .unk [[.int .i64 10,.ps .unk [[.str [117,112],.ps .unk [[.int .i64 100,.int .i64 5000,.bool false],[.int .i64 50,.int .i64 5080,.bool false],[.int .i64 30,.int .i64 5200,.bool true]]],[.str [115,105,100,101],.ps .unk [[.int .i64 40,.int .i64 0,.bool false]]]],.ps .unk [[.str [119],.str [117,112],.int .i64 120,.str [115,105,100,101],.bool false]],.ps .unk [[.str [97,114,99,104],.str [98,114,105,100,103,101],.str [117,112],.int .i64 130,.int .i64 150]],.ps .unk []],[.int .i64 20,.ps .unk [[.str [109,97,105,110],.ps .unk [[.int .i64 300,.int .i64 1000,.bool false]]]],.ps .unk [],.ps .unk [],.ps .unk [[.str [117,112],.int .i64 0,.int .i64 100,.str [109,97,105,110],.int .i64 20,.bool false],[.str [117,112],.int .i64 100,.int .i64 50,.str [109,97,105,110],.int .i64 200,.bool true]]]]],.int .i64 0⟩
theorem ac33:∀ lo H,CallOk NC lo ak33.f ak33.args H ak33.v H:=known_ok saneNC awh32 (fuel:=5000) (by kernel_rfl) (by kernel_rfl) (by kernel_rfl)
def aw33:List Known:=ak33::aw32
theorem awh33:∀ k ∈ aw33,∀ lo H,CallOk NC lo k.f k.args H k.v H:=fun k h=>(List.mem_cons.1 h).elim (fun e=>e ▸ ac33) (awh32 k)
def ak34:Known:=⟨65,[.ps .unk [[.int .i64 10,.ps .unk [[.str [117,112],.ps .unk [[.int .i64 100,.int .i64 5000,.bool false],[.int .i64 50,.int .i64 5080,.bool false],[.int .i64 30,.int .i64 5200,.bool true]]],[.str [115,105,100,101],.ps .unk [[.int .i64 40,.int .i64 0,.bool false]]]],.ps .unk [[.str [119],.str [117,112],.int .i64 120,.str [115,105,100,101],.bool false]],.ps .unk [[.str [97,114,99,104],.str [98,114,105,100,103,101],.str [117,112],.int .i64 130,.int .i64 150]],.ps .unk []],[.int .i64 20,.ps .unk [[.str [109,97,105,110],.ps .unk [[.int .i64 300,.int .i64 1000,.bool false]]]],.ps .unk [],.ps .unk [],.ps .unk [[.str [117,112],.int .i64 0,.int .i64 100,.str [109,97,105,110],.int .i64 20,.bool false],[.str [117,112],.int .i64 100,.int .i64 50,.str [109,97,105,110],.int .i64 200,.bool true]]]],.int .i64 15,.agg [.str [117,112],.int .i64 1,.int .i64 5090],.int .i64 25],.tup [.agg [.str [109,97,105,110],.int .i64 0,.int .i64 1239],.int .i64 0]⟩
theorem ac34:∀ lo H,CallOk NC lo ak34.f ak34.args H ak34.v H:=known_ok saneNC awh33 (fuel:=5000) (by kernel_rfl) (by kernel_rfl) (by kernel_rfl)
def aw34:List Known:=ak34::aw33
theorem awh34:∀ k ∈ aw34,∀ lo H,CallOk NC lo k.f k.args H k.v H:=fun k h=>(List.mem_cons.1 h).elim (fun e=>e ▸ ac34) (awh33 k)
def ak35:Known:=⟨65,[.ps .unk [[.int .i64 10,.ps .unk [[.str [117,112],.ps .unk [[.int .i64 100,.int .i64 5000,.bool false],[.int .i64 50,.int .i64 5080,.bool false],[.int .i64 30,.int .i64 5200,.bool true]]],[.str [115,105,100,101],.ps .unk [[.int .i64 40,.int .i64 0,.bool false]]]],.ps .unk [[.str [119],.str [117,112],.int .i64 120,.str [115,105,100,101],.bool false]],.ps .unk [[.str [97,114,99,104],.str [98,114,105,100,103,101],.str [117,112],.int .i64 130,.int .i64 150]],.ps .unk []],[.int .i64 20,.ps .unk [[.str [109,97,105,110],.ps .unk [[.int .i64 300,.int .i64 1000,.bool false]]]],.ps .unk [],.ps .unk [],.ps .unk [[.str [117,112],.int .i64 0,.int .i64 100,.str [109,97,105,110],.int .i64 20,.bool false],[.str [117,112],.int .i64 100,.int .i64 50,.str [109,97,105,110],.int .i64 200,.bool true]]]],.int .i64 25,.agg [.str [109,97,105,110],.int .i64 0,.int .i64 1239],.int .i64 10],.tup [.agg [.str [117,112],.int .i64 1,.int .i64 5090],.int .i64 0]⟩
theorem ac35:∀ lo H,CallOk NC lo ak35.f ak35.args H ak35.v H:=known_ok saneNC awh34 (fuel:=5000) (by kernel_rfl) (by kernel_rfl) (by kernel_rfl)
def aw35:List Known:=ak35::aw34
theorem awh35:∀ k ∈ aw35,∀ lo H,CallOk NC lo k.f k.args H k.v H:=fun k h=>(List.mem_cons.1 h).elim (fun e=>e ▸ ac35) (awh34 k)
def ak36:Known:=⟨102,[.agg [.ps .unk [[.str [117,112],.ps .unk [[.int .i64 100,.int .i64 5000,.bool false],[.int .i64 50,.int .i64 5080,.bool false],[.int .i64 30,.int .i64 5200,.bool true]]],[.str [115,105,100,101],.ps .unk [[.int .i64 40,.int .i64 0,.bool false]]]],.ps .unk [[.str [119],.str [117,112],.int .i64 120,.str [115,105,100,101],.bool false]],.ps .unk [[.str [97,114,99,104],.str [98,114,105,100,103,101],.str [117,112],.int .i64 130,.int .i64 150]]],.agg [.str [117,112],.int .i64 2,.int .i64 5171]],.tup [.agg [.str [117,112],.int .i64 179],.int .i64 0]⟩
theorem ac36:∀ lo H,CallOk NC lo ak36.f ak36.args H ak36.v H:=known_ok saneNC awh35 (fuel:=5000) (by kernel_rfl) (by kernel_rfl) (by kernel_rfl)
def aw36:List Known:=ak36::aw35
theorem awh36:∀ k ∈ aw36,∀ lo H,CallOk NC lo k.f k.args H k.v H:=fun k h=>(List.mem_cons.1 h).elim (fun e=>e ▸ ac36) (awh35 k)
def ak37:Known:=⟨65,[.ps .unk [[.int .i64 10,.ps .unk [[.str [117,112],.ps .unk [[.int .i64 100,.int .i64 5000,.bool false],[.int .i64 50,.int .i64 5080,.bool false],[.int .i64 30,.int .i64 5200,.bool true]]],[.str [115,105,100,101],.ps .unk [[.int .i64 40,.int .i64 0,.bool false]]]],.ps .unk [[.str [119],.str [117,112],.int .i64 120,.str [115,105,100,101],.bool false]],.ps .unk [[.str [97,114,99,104],.str [98,114,105,100,103,101],.str [117,112],.int .i64 130,.int .i64 150]],.ps .unk []],[.int .i64 20,.ps .unk [[.str [109,97,105,110],.ps .unk [[.int .i64 300,.int .i64 1000,.bool false]]]],.ps .unk [],.ps .unk [],.ps .unk [[.str [117,112],.int .i64 0,.int .i64 100,.str [109,97,105,110],.int .i64 20,.bool false],[.str [117,112],.int .i64 100,.int .i64 50,.str [109,97,105,110],.int .i64 200,.bool true]]]],.int .i64 15,.agg [.str [117,112],.int .i64 2,.int .i64 5171],.int .i64 25],.tup [.agg [.str [],.int .i64 0,.int .i64 0],.int .i64 7]⟩
theorem ac37:∀ lo H,CallOk NC lo ak37.f ak37.args H ak37.v H:=known_ok saneNC awh36 (fuel:=5000) (by kernel_rfl) (by kernel_rfl) (by kernel_rfl)
def aw37:List Known:=ak37::aw36
theorem awh37:∀ k ∈ aw37,∀ lo H,CallOk NC lo k.f k.args H k.v H:=fun k h=>(List.mem_cons.1 h).elim (fun e=>e ▸ ac37) (awh36 k)
def ak38:Known:=⟨87,[.agg [.ps .unk [[.str [117,112],.ps .unk [[.int .i64 100,.int .i64 5000,.bool false],[.int .i64 50,.int .i64 5080,.bool false],[.int .i64 30,.int .i64 5200,.bool true]]],[.str [115,105,100,101],.ps .unk [[.int .i64 40,.int .i64 0,.bool false]]]],.ps .unk [[.str [119],.str [117,112],.int .i64 120,.str [115,105,100,101],.bool false]],.ps .unk [[.str [97,114,99,104],.str [98,114,105,100,103,101],.str [117,112],.int .i64 130,.int .i64 150]]]],.tup [.str [108,105,110,101,32,117,112,10,112,105,101,99,101,32,49,48,48,32,53,48,48,48,32,117,112,10,112,105,101,99,101,32,53,48,32,53,48,56,48,32,117,112,10,112,105,101,99,101,32,51,48,32,53,50,48,48,32,100,111,119,110,10,108,105,110,101,32,115,105,100,101,10,112,105,101,99,101,32,52,48,32,48,32,117,112,10,115,119,105,116,99,104,32,119,32,117,112,32,49,50,48,32,115,105,100,101,32,102,105,114,115,116,10,115,116,114,117,99,116,117,114,101,32,97,114,99,104,32,98,114,105,100,103,101,32,117,112,32,49,51,48,32,49,53,48,10],.int .i64 0]⟩
theorem ac38:∀ lo H,CallOk NC lo ak38.f ak38.args H ak38.v H:=known_ok saneNC awh37 (fuel:=5000) (by kernel_rfl) (by kernel_rfl) (by kernel_rfl)
def aw38:List Known:=ak38::aw37
theorem awh38:∀ k ∈ aw38,∀ lo H,CallOk NC lo k.f k.args H k.v H:=fun k h=>(List.mem_cons.1 h).elim (fun e=>e ▸ ac38) (awh37 k)
def ak39:Known:=⟨16,[],.bool true⟩
theorem ac39:∀ lo H,CallOk NC lo ak39.f ak39.args H ak39.v H:=known_ok saneNC awh38 (fuel:=5000) (by kernel_rfl) (by kernel_rfl) (by kernel_rfl)
end Go.Sim

/-
The law: NetworkPlaces returns true.
-/
namespace Go.Sim
open Go Go.Proofs
set_option maxRecDepth 100000
set_option maxHeartbeats 16000000
noncomputable def p16:List AV→Option AV:=fun l=>match l with
 | []=>some (.bool true)
 | _=>none
theorem pok16:∀ args v,p16 args=some v → ∀ lo H,CallOk NC lo 16 args H v H:=by
 intro args v h
 cases args with
 | nil =>
   have:v=.bool true:=by simpa [p16] using h.symm
   subst this
   exact ac39
 | cons a r=>simp [p16] at h
theorem e16:p16 []=some (.bool true):=rfl
noncomputable def p17:List AV→Option AV:=primOf (α:=Net) (fun x=>[.agg x.cells]) (fun _=>True) (fun x=>.bool (shortN x))
theorem pok17:∀ args v,p17 args=some v → ∀ lo H,CallOk NC lo 17 args H v H:=by
 intro args v h
 obtain ⟨x,rfl,hp,rfl⟩:=primOf_inv h
 clear h
 revert x
 intro x;exact c17 x
theorem pe17 (x:Net) (hp:(fun _=>True) x):p17 ((fun x=>[.agg x.cells]) x)=some ((fun x=>.bool (shortN x)) x):=primOf_enc (by intro x y h;exact cells1_inj x y h) x hp
noncomputable def p19:List AV→Option AV:=primOf (α:=Net) (fun x=>[.agg x.cells]) (fun x=>x.fits∧x.sws.length≤maxRows∧x.sts.length≤maxRows) (fun x=>.agg x.cells)
theorem pok19:∀ args v,p19 args=some v → ∀ lo H,CallOk NC lo 19 args H v H:=by
 intro args v h
 obtain ⟨x,rfl,hp,rfl⟩:=primOf_inv h
 clear h
 revert x
 intro x hx;exact c19 x hx.1 hx.2.1 hx.2.2
theorem pe19 (x:Net) (hp:(fun x=>x.fits∧x.sws.length≤maxRows∧x.sts.length≤maxRows) x):p19 ((fun x=>[.agg x.cells]) x)=some ((fun x=>.agg x.cells) x):=primOf_enc (by intro x y h;exact cells1_inj x y h) x hp
noncomputable def p22:List AV→Option AV:=primOf (α:=Net) (fun x=>[.agg x.cells]) (fun x=>x.fits∧x.sws.length≤maxRows∧x.sts.length≤maxRows) (fun x=>i64 (netR x))
theorem pok22:∀ args v,p22 args=some v → ∀ lo H,CallOk NC lo 22 args H v H:=by
 intro args v h
 obtain ⟨x,rfl,hp,rfl⟩:=primOf_inv h
 clear h
 revert x
 intro x hx;exact c22 x hx.1 hx.2.1 hx.2.2
theorem pe22 (x:Net) (hp:(fun x=>x.fits∧x.sws.length≤maxRows∧x.sts.length≤maxRows) x):p22 ((fun x=>[.agg x.cells]) x)=some ((fun x=>i64 (netR x)) x):=primOf_enc (by intro x y h;exact cells1_inj x y h) x hp
theorem beqL_self (a:List Nat):beqL a a=true:=(beqL_iff a a).2 rfl
theorem eqI_self (a:Int):eqI a a=true:=by rw [eqI_iff];simp
theorem short_ok {n:Net} (h:shortN n=true):n.Ok:=by
 unfold shortN at h
 simp only [Bool.and_eq_true,Bool.not_eq_true',Bool.or_eq_false_iff,decide_eq_false_iff_not,List.all_eq_true] at h
 obtain ⟨⟨⟨⟨⟨h1,h2⟩,h3⟩,h4⟩,h5⟩,h6⟩:=h
 have short:∀ s:List Nat,shortB s=true→s.length≤maxRows:=by
  intro s hs
  unfold shortB at hs
  simp only [Bool.not_eq_true',decide_eq_false_iff_not] at hs
  unfold maxRows;omega
 refine ⟨by unfold maxRows;omega,fun l hl => ?_,by unfold maxRows;omega,fun s hs => ?_,by unfold maxRows;omega,fun s hs => ?_⟩
 · have:=h4 l hl
   unfold shortLn at this
   simp only [Bool.and_eq_true,Bool.not_eq_true',decide_eq_false_iff_not] at this
   exact ⟨short _ this.1,by unfold maxRows;omega⟩
 · have:=h5 s hs
   unfold shortSw at this
   simp only [Bool.and_eq_true] at this
   exact short _ this.1.1
 · have:=h6 s hs
   unfold shortSt at this
   simp only [Bool.and_eq_true] at this
   exact ⟨short _ this.1.1,short _ this.1.2⟩
end Go.Sim

/-
Histories: data; the program's CheckHistory, On; moves that carry back.
-/
-- INJ Sv.row_iff svs_iff
namespace Go.Sim
open Go Go.Proofs
set_option maxRecDepth 100000
set_option maxHeartbeats 8000000
structure Sv where
 day:Int
 net:Net
 map:List Mv
def Sv.row (s:Sv):List AV:=i64 s.day::(s.net.cells++[.ps .unk (s.map.map Mv.row)])
end Go.Sim

/-
Histories: the program's Since.
-/
-- INJ Sv.row_iff svs_iff
namespace Go.Sim
open Go Go.Proofs
set_option maxRecDepth 100000
set_option maxHeartbeats 8000000
section
variable {C:Cfg} {lo:Nat} {fid:FuncId} {rnd:Bool} (T:TT AV) (H:Heap) (M:List Nat) (Q:AExit→TT AV→Heap→List Nat→Prop)
def unscope (Q:AExit→TT AV→Heap→List Nat→Prop) (e:AExit) (T:TT AV) (H:Heap) (M:List Nat) (_t:Tag Q:=⟨⟩):Prop:=match e with
 | .gto _=>False
 | e=>Q e T H M
theorem unscope_nrm:unscope Q .nrm T H M=Q .nrm T H M:=rfl
theorem unscope_ret:unscope Q .ret T H M=Q .ret T H M:=rfl
theorem unscope_ext (i:Nat):unscope Q (.ext i) T H M=Q (.ext i) T H M:=rfl
theorem W_scope (b:Code):W C lo fid rnd (.scope b) T H M Q=W C lo fid rnd b T H M (fun e T H M=>unscope Q e T H M):=by
 unfold W
 rw [R_scope]
 cases h:R C (.code lo fid rnd b ⟨T,H,M⟩) with
 | none=>rfl
 | some o=>obtain ⟨e,⟨T',H',M'⟩⟩:=o;cases e<;>rfl
end
attribute [go_sem ↓] W_scope W_label unscope_nrm unscope_ret unscope_ext
end Go.Sim

/-
Posts: the reference, the law's own helpers; ends of switches.
-/
namespace Go.Sim
open Go Go.Proofs
set_option maxRecDepth 100000
set_option maxHeartbeats 8000000
def strRow (s:List Nat):List AV:=[.str s]
theorem strRow_len (s:List Nat):(strRow s).length=1:=rfl
theorem strRow_inj (a b:List Nat) (h:strRow a=strRow b):a=b:=by simpa [strRow] using h
end Go.Sim

/-
Further facts on the types and the regions of this program.
-/
namespace Go.Sim
open Go Go.Proofs
theorem un_376:NC.P.underlying 376=some (.int .u64):=by kernel_rfl
theorem ze_376:zeroOf NC.P 376=some (.int .u64 0):=by kernel_rfl
theorem sz_376:szOf NC.P 376=some 1:=by kernel_rfl
theorem ze_388:zeroOf NC.P 388=some (.agg [.int .u8 0,.int .u8 0,.int .u8 0,.int .u8 0,.int .u8 0,.int .u8 0,.int .u8 0,.int .u8 0,.int .u8 0,.int .u8 0,.int .u8 0,.int .u8 0,.int .u8 0,.int .u8 0,.int .u8 0,.int .u8 0,.int .u8 0,.int .u8 0,.int .u8 0,.int .u8 0,.int .u8 0,.int .u8 0,.int .u8 0,.int .u8 0]):=by kernel_rfl
theorem un_2:NC.P.underlying 2=some (.int .i64):=by kernel_rfl
theorem un_388:NC.P.underlying 388=some (.array 24 5):=by kernel_rfl
theorem ag_376:aggOf NC.P 376=some false:=by kernel_rfl
theorem pl_258_8 (P:FuncId→Option (List AV→Option AV)):(NC.withPrims P).plans 258 8=[⟨.data,0,0,[]⟩,⟨.data,0,0,[]⟩,⟨.data,0,2,[]⟩,⟨.data,0,6,[]⟩,⟨.data,0,14,[]⟩,⟨.read,0,30,[]⟩,⟨.data,0,62,[]⟩,⟨.data,0,126,[]⟩,⟨.data,0,254,[]⟩,⟨.data,0,510,[]⟩,⟨.data,0,1022,[]⟩,⟨.data,0,2046,[]⟩,⟨.data,0,4094,[]⟩,⟨.data,0,255,[]⟩,⟨.data,0,16383,[]⟩]:=by kernel_rfl
attribute [go_sem] un_376 ze_376 sz_376 ze_388 un_2 un_388 ag_376
attribute [go_sem] pl_258_8
end Go.Sim

/-
Rows that lie one behind the other.
-/
namespace Go.Sim
open Go
/-! ### Small numbers -/
theorem wrap_in {n:Int} (h0:0≤n) (h1:n≤9223372036854775807):IntKind.wrap .i64 n=n:=by
 have:=wrapq_i64 (x:=n) (by omega) h1
 unfold IntKind.wrap
 have h64:((2:Int) ^ (IntKind.bits .i64))=18446744073709551616:=by decide
 have h63:((2:Int) ^ (IntKind.bits .i64 - 1))=9223372036854775808:=by decide
 simp only [h64,h63]
 have e:n % 18446744073709551616=n:=by omega
 rw [e]
 have:¬ (n ≥ 9223372036854775808):=by omega
 simp [this]
theorem i23:((2:Int) < 3)=True:=by simp
theorem i22:((2:Int) < 2)=False:=by simp
def Even (sz:Nat) (rows:List (List AV)):Prop:=∀ r ∈ rows,r.length=sz
theorem Even.map {α:Type} {sz:Nat} {f:α→List AV} (hf:∀ x,(f x).length=sz) (l:List α):Even sz (l.map f):=by
 intro r hr
 obtain ⟨x,_,rfl⟩:=List.mem_map.1 hr
 exact hf x
theorem chunks_flat {sz:Nat}:∀ {rows:List (List AV)},Even sz rows→chunks sz rows.length rows.flatten=some rows
 | [],_=>rfl
 | r::rs,h=>by
   have hr:=h r (by simp)
   have hd:(r++rs.flatten).drop sz=rs.flatten:=by rw [← hr,List.drop_left]
   have ht:(r++rs.flatten).take sz=r:=by rw [← hr,List.take_left]
   have hle:sz≤(r++rs.flatten).length:=by simp;omega
   rw [List.length_cons,List.flatten_cons]
   unfold chunks
   rw [if_pos hle,hd,ht,chunks_flat fun x hx=>h x (by simp [hx])]
end Go.Sim

/-
Ends of switches; where a switch lies on a line.
-/
namespace Go.Sim
open Go Go.Proofs
set_option maxRecDepth 100000
set_option maxHeartbeats 8000000
theorem evalO_str0 {C:Cfg} {T:TT AV}:evalO C T (.const (.string { data:=#[] }))=some (.str []):=rfl
attribute [go_sem] evalO_str0
theorem ab259 (a c:List Nat) (b d:Int):abuild NC.P 259 [(0,.agg [.str a,.int .i64 b]),(1,.agg [.str c,.int .i64 d])]=some (.agg [.str a,.int .i64 b,.str c,.int .i64 d]):=by kernel_rfl
theorem ab137 (a c:List Nat) (b d:Int):abuild NC.P 137 [(0,.agg [.str a,.int .i64 b]),(1,.agg [.str c,.int .i64 d])]=some (.agg [.str a,.int .i64 b,.str c,.int .i64 d]):=by kernel_rfl
attribute [go_sem] ab259 ab137
end Go.Sim

/-
Texts: parts of strings, integers: the library's and the program's functions.
-/
namespace Go.Sim
open Go Go.Proofs
set_option maxRecDepth 100000
set_option maxHeartbeats 4000000
/-! ### Slices of strings; constants -/
theorem asl_lo {s:List Nat} {i:Nat} (hi:i≤s.length):aslice NC.P 9 (.str s) (some (.int .i64 (i:Int))) none none=some (.str (s.drop i)):=by
 unfold aslice
 simp only [un_9,boundOf,natOf_cast]
 rw [if_pos (by omega)]
 simp
theorem asl_hi {s:List Nat} {i:Nat} (hi:i≤s.length):aslice NC.P 9 (.str s) none (some (.int .i64 (i:Int))) none=some (.str (s.take i)):=by
 unfold aslice
 simp only [un_9,boundOf,natOf_cast]
 rw [if_pos (by omega)]
 simp
theorem asl_both {s:List Nat} {i j:Nat} (hi:i≤j) (hj:j≤s.length):aslice NC.P 9 (.str s) (some (.int .i64 (i:Int))) (some (.int .i64 (j:Int))) none=some (.str ((s.take j).drop i)):=by
 unfold aslice
 simp only [un_9,boundOf,natOf_cast]
 rw [if_pos (by omega)]
 simp only
 rw [if_pos (by omega)]
theorem kLF {C:Cfg} {T:TT AV}:evalO C T (.const (.string { data:=#[10] }))=some (.str [10]):=rfl
theorem kSP {C:Cfg} {T:TT AV}:evalO C T (.const (.string { data:=#[32] }))=some (.str [32]):=rfl
attribute [go_sem] kLF kSP
theorem op_mkSlice {C:Cfg} {rec:Rec} {fid lo:Nat} {T:TT AV} {H:Heap} {K:AV→Heap→Prop} {d:Option Tmp} {t:TypeId} {p:String} {af:Array Edge} {gd:Option (Nat × Bool)} (t':TypeId) (l c:Operand) :
 VO (aop C rec fid lo ⟨d,.makeSlice t' l c,t,p,af,gd⟩ T H) K=AO (evalO C T l) fun x=>AO (evalO C T c) fun y=>VO (amakeSlice C.P H t' x y) K:=by
 simp only [aop]
 cases evalO C T l with
 | none=>rfl
 | some x=>cases evalO C T c<;>rfl
/-! ### CutSuffix -/
def endsB (s:List Nat):Bool:=!decide (s.length < 1) && beqL (s.drop (s.length - 1)) [10]
noncomputable def PPF254:FuncId→Option (List AV→Option AV):=fun _=>none
theorem primsF254:PrimsOk NC PPF254:=primsOk_none
theorem c254 (s:List Nat) (hp:s.length≤maxRows):∀ lo H,CallOk NC lo 254 [.str s,.str [10]] H (.bool (endsB s)) H:=by
 refine contract saneNC primsF254 (fn:=Tryz.f254) (by kernel_rfl) Tryz.func254 rfl rfl (by rfl) (by first | rfl | (split<;>first | rfl | (split<;>rfl))) ?_
 rcases Classical.propComplete (s.length < 1) with q | q
 · have hE:endsB s=false:=by unfold endsB;simp [q]
   rw [hE]
   simp only [go_sem,reduceIte,reduceEqDiff,reduceAdd,reduceMul,reduceSub,reduceLeDiff,reduceLT,Nat.reduceBEq,reduceCtorEq,q]
 · have hq:¬ (s.length < 1):=by rw [q];exact id
   have hw:wrapq .i64 (Int.sub (s.length:Int) ((1:Nat):Int))=((s.length - 1:Nat):Int):=wrap_pred (k:=s.length) (n:=s.length) (by omega) (Nat.le_refl _) hp
   have sl:=asl_lo (s:=s) (i:=s.length - 1) (by omega)
   have hE:endsB s=beqL (s.drop (s.length - 1)) [10]:=by unfold endsB;simp [hq]
   rw [hE]
   simp only [go_sem,reduceIte,reduceEqDiff,reduceAdd,reduceMul,reduceSub,reduceLeDiff,reduceLT,Nat.reduceBEq,reduceCtorEq,q,hw,sl]
noncomputable def p254:List AV→Option AV:=primOf (α:=(List Nat)) (fun x=>[.str x,.str [10]]) (fun x=>x.length≤maxRows) (fun x=>.bool (endsB x))
theorem pok254:∀ args v,p254 args=some v → ∀ lo H,CallOk NC lo 254 args H v H:=by
 intro args v h
 obtain ⟨x,rfl,hp,rfl⟩:=primOf_inv h
 exact c254 x hp
theorem pe254 (s:List Nat) (hp:s.length≤maxRows):p254 [.str s,.str [10]]=some (.bool (endsB s)):=primOf_enc (α:=(List Nat)) (enc:=fun x=>[.str x,.str [10]]) (pre:=fun x=>x.length≤maxRows) (spec:=fun x=>.bool (endsB x)) (by intro x y h;(simp only [List.cons.injEq,AV.agg.injEq,AV.str.injEq,AV.int.injEq,AV.ps.injEq,AV.bool.injEq,Net.cells_iff,Ln.row_iff,Pc.row_iff,Mv.row_iff,lns_iff,pcs_iff,mvs_iff,true_and,and_true] at h;first | simpa only [Prod.ext_iff] using h | simpa only [Prod.ext_iff,and_assoc] using h)) s hp
noncomputable def PPF214:FuncId→Option (List AV→Option AV):=addPrim 254 p254 (fun _=>none)
theorem primsF214:PrimsOk NC PPF214:=primsOk_add (primsOk_none) (by kernel_rfl) (by kernel_rfl) pok254
theorem enF214_254:En PPF214 254 p254:=enter_prim (by rfl) (by kernel_rfl)
attribute [go_sem ↓] enF214_254
theorem c214 (s:List Nat) (hp:s.length≤maxRows):∀ lo H,CallOk NC lo 214 [.str s,.str [10]] H (.tup [.str (if endsB s then s.take (s.length - 1) else s),.bool (endsB s)]) H:=by
 refine contract saneNC primsF214 (fn:=Tryz.f214) (by kernel_rfl) Tryz.func214 rfl rfl (by rfl) (by first | rfl | (split<;>first | rfl | (split<;>rfl))) ?_
 have e254:=pe254 s hp
 cases hE:endsB s with
 | false =>
   rw [hE] at e254
   simp only [go_sem,reduceIte,reduceEqDiff,reduceAdd,reduceMul,reduceSub,reduceLeDiff,reduceLT,Nat.reduceBEq,reduceCtorEq,e254]
 | true =>
   rw [hE] at e254
   have hq:¬ (s.length < 1):=by
    intro h;unfold endsB at hE;simp [h] at hE
   have hw:wrapq .i64 (Int.sub (s.length:Int) ((1:Nat):Int))=((s.length - 1:Nat):Int):=wrap_pred (k:=s.length) (n:=s.length) (by omega) (Nat.le_refl _) hp
   have sl:=asl_hi (s:=s) (i:=s.length - 1) (by omega)
   simp only [go_sem,reduceIte,reduceEqDiff,reduceAdd,reduceMul,reduceSub,reduceLeDiff,reduceLT,Nat.reduceBEq,reduceCtorEq,e254,hw,sl]
noncomputable def p214:List AV→Option AV:=primOf (α:=(List Nat)) (fun x=>[.str x,.str [10]]) (fun x=>x.length≤maxRows) (fun x=>.tup [.str (if endsB x then x.take (x.length - 1) else x),.bool (endsB x)])
theorem pok214:∀ args v,p214 args=some v → ∀ lo H,CallOk NC lo 214 args H v H:=by
 intro args v h
 obtain ⟨x,rfl,hp,rfl⟩:=primOf_inv h
 exact c214 x hp
theorem pe214 (s:List Nat) (hp:s.length≤maxRows):p214 [.str s,.str [10]]=some (.tup [.str (if endsB s then s.take (s.length - 1) else s),.bool (endsB s)]):=primOf_enc (α:=(List Nat)) (enc:=fun x=>[.str x,.str [10]]) (pre:=fun x=>x.length≤maxRows) (spec:=fun x=>.tup [.str (if endsB x then x.take (x.length - 1) else x),.bool (endsB x)]) (by intro x y h;(simp only [List.cons.injEq,AV.agg.injEq,AV.str.injEq,AV.int.injEq,AV.ps.injEq,AV.bool.injEq,Net.cells_iff,Ln.row_iff,Pc.row_iff,Mv.row_iff,lns_iff,pcs_iff,mvs_iff,true_and,and_true] at h;first | simpa only [Prod.ext_iff] using h | simpa only [Prod.ext_iff,and_assoc] using h)) s hp
noncomputable def PPF165:FuncId→Option (List AV→Option AV):=addPrim 214 p214 (fun _=>none)
theorem primsF165:PrimsOk NC PPF165:=primsOk_add (primsOk_none) (by kernel_rfl) (by kernel_rfl) pok214
theorem enF165_214:En PPF165 214 p214:=enter_prim (by rfl) (by kernel_rfl)
attribute [go_sem ↓] enF165_214
theorem c165 (s:List Nat) (hp:s.length≤maxRows):∀ lo H,CallOk NC lo 165 [.str s,.str [10]] H (.tup [.str (if endsB s then s.take (s.length - 1) else s),.bool (endsB s)]) H:=by
 refine contract saneNC primsF165 (fn:=Tryz.f165) (by kernel_rfl) Tryz.func165 rfl rfl (by rfl) (by first | rfl | (split<;>first | rfl | (split<;>rfl))) ?_
 have e214:=pe214 s hp
 simp only [go_sem,reduceIte,reduceEqDiff,reduceAdd,reduceMul,reduceSub,reduceLeDiff,reduceLT,Nat.reduceBEq,reduceCtorEq,e214]
noncomputable def p165:List AV→Option AV:=primOf (α:=(List Nat)) (fun x=>[.str x,.str [10]]) (fun x=>x.length≤maxRows) (fun x=>.tup [.str (if endsB x then x.take (x.length - 1) else x),.bool (endsB x)])
theorem pok165:∀ args v,p165 args=some v → ∀ lo H,CallOk NC lo 165 args H v H:=by
 intro args v h
 obtain ⟨x,rfl,hp,rfl⟩:=primOf_inv h
 exact c165 x hp
theorem pe165 (s:List Nat) (hp:s.length≤maxRows):p165 [.str s,.str [10]]=some (.tup [.str (if endsB s then s.take (s.length - 1) else s),.bool (endsB s)]):=primOf_enc (α:=(List Nat)) (enc:=fun x=>[.str x,.str [10]]) (pre:=fun x=>x.length≤maxRows) (spec:=fun x=>.tup [.str (if endsB x then x.take (x.length - 1) else x),.bool (endsB x)]) (by intro x y h;(simp only [List.cons.injEq,AV.agg.injEq,AV.str.injEq,AV.int.injEq,AV.ps.injEq,AV.bool.injEq,Net.cells_iff,Ln.row_iff,Pc.row_iff,Mv.row_iff,lns_iff,pcs_iff,mvs_iff,true_and,and_true] at h;first | simpa only [Prod.ext_iff] using h | simpa only [Prod.ext_iff,and_assoc] using h)) s hp
/-! ### Split -/
theorem strRows_iff (a b:List (List Nat)):a.map strRow=b.map strRow ↔ a=b:=⟨fun h=>map_inj strRow_inj h,fun h=>by rw [h]⟩
def strF (l:List (List Nat)):List AV:=l.map AV.str
theorem strF_flat (l:List (List Nat)):(l.map strRow).flatten=strF l:=by
 induction l with
 | nil=>rfl
 | cons a r ih=>simp only [List.map_cons,List.flatten_cons,ih];rfl
theorem mk160 (H:Heap) {N:Nat} (h:N≤maxRows):amakeSlice NC.P H 160 (.int .i64 (N:Nat)) (.int .i64 (N:Nat))=some (.rs H.n 0 N 1 (some N),H.push (.cells (strF (List.replicate N [])) 9)):=by
 have e1:elemOf NC.P 160=some 9:=by kernel_rfl
 have e2:szOf NC.P 9=some 1:=by kernel_rfl
 have e3:bytesOf NC.P 9=some 16:=by kernel_rfl
 have e4:zeroOf NC.P 9=some (.str []):=by kernel_rfl
 have hb:16 * N≤140737488355328:=by unfold maxRows at h;omega
 have hf:(List.replicate N (AV.str []).cells).flatten=strF (List.replicate N []):=by
  unfold strF
  rw [List.map_replicate]
  induction N with
  | zero=>rfl
  | succ n ih=>simp only [List.replicate_succ,List.flatten_cons,AV.cells];rw [← ih (by omega) (by omega)];rfl
 unfold amakeSlice
 rw [e1]
 simp only [e2,e3,e4]
 rw [hf,if_pos (by simp [hb,h,AV.cells])]
theorem strF_over {l:List (List Nat)} {k:Nat} (w:List Nat) (hk:k < l.length):over (strF l) k [.str w]=strF (l.set k w):=by
 unfold over strF
 rw [List.map_set]
 have:k < (l.map AV.str).length:=by simpa using hk
 rw [List.set_eq_take_append_cons_drop,if_pos this]
 simp
theorem deepC_str (d:Nat) (H:Heap):∀ l:List (List Nat),deepC (deep (d+1) H) (strF l)=some (strF l)
 | []=>rfl
 | w::r=>by
   have ih:=deepC_str d H r
   show (match deep (d+1) H (.str w) with
   | some x=>match deepC (deep (d+1) H) (strF r) with
     | some l=>some (x::l)
     | none=>none
   | none=>none)=_
   rw [ih];rfl
theorem deep_strs {H:Heap} {id:Nat} {l:List (List Nat)} {e:TypeId} {cap:Option Nat} (h:H.get id=.cells (strF l) e) (d:Nat):deep (d+2) H (.rs id 0 l.length 1 cap)=some (.ps .unk (l.map strRow)):=by
 have h1:readCells H (.ptr id 0) (l.length * 1)=some (strF l):=by
  unfold readCells
  simp only [h,blkCells]
  unfold sub?
  have hl:(strF l).length=l.length:=by unfold strF;simp
  rw [if_pos (by omega),List.drop_zero,List.take_of_length_le (by omega)]
 have h2:chunks 1 l.length (strF l)=some (l.map strRow):=by
  have:=chunks_flat (sz:=1) (rows:=l.map strRow) (Even.map strRow_len l)
  rw [List.length_map,strF_flat] at this
  exact this
 unfold deep
 simp only [h1,deepC_str,h2]
noncomputable def PPF215:FuncId→Option (List AV→Option AV):=addPrim 257 p257 (addPrim 256 p256 (fun _=>none))
theorem primsF215:PrimsOk NC PPF215:=primsOk_add (primsOk_add (primsOk_none) (by kernel_rfl) (by kernel_rfl) pok256) (by kernel_rfl) (by kernel_rfl) pok257
theorem enF215_256:En PPF215 256 p256:=enter_prim (by rfl) (by kernel_rfl)
theorem enF215_257:En PPF215 257 p257:=enter_prim (by rfl) (by kernel_rfl)
attribute [go_sem ↓] enF215_256 enF215_257
theorem c215 (s:List Nat) (c:Nat) (hl:s.length+1≤maxRows):∀ lo H,CallOk NC lo 215 [.str s,.str [c],.int .i64 0,.int .i64 (-1)] H (.ps .unk ((splitL c s).map strRow)) H:=by
 refine contractV saneNC primsF215 (fn:=Tryz.f215) 3 (by kernel_rfl) Tryz.func215 rfl rfl (by rfl) ?_
 have hcl:=cntC_le c s
 have z1:((-1:Int)=0)=False:=by simp
 have z2:((-1:Int) < 0)=True:=by simp
 have hne:beqL [c] []=false:=rfl
 have hN:wrapq .i64 (Int.add ((cntC c s:Nat):Int) 1)=((cntC c s+1:Nat):Int):=wrap_nat (n:=cntC c s+1) (by unfold maxRows at hl;omega)
 have hL:wrapq .i64 (Int.add ((s.length:Nat):Int) 1)=((s.length+1:Nat):Int):=wrap_nat (n:=s.length+1) (by unfold maxRows at hl;omega)
 have hmin:minI ((cntC c s+1:Nat):Int) ((s.length+1:Nat):Int)=((cntC c s+1:Nat):Int):=by unfold minI;rw [if_neg (by omega)]
 have hmk:=mk160 (N:=cntC c s+1)
 have hmk:=fun H=>hmk H (by omega)
 have hP:wrapq .i64 (Int.sub ((cntC c s+1:Nat):Int) 1)=((cntC c s:Nat):Int):=by
  have:=wrap_pred (k:=cntC c s+1) (n:=maxRows) (by omega) (by omega) (Nat.le_refl _)
  simpa using this
 simp only [go_sem,reduceIte,reduceEqDiff,reduceAdd,reduceMul,reduceSub,reduceLeDiff,reduceLT,Nat.reduceBEq,reduceCtorEq,z1,z2,hne,e256,hN,hL,hmin,op_mkSlice,hmk,hP]
 refine W_for (fun k T H M=>M=[]∧getT T 1=.str [c]∧getT T 2=.int .i64 0∧getT T 3=i64 (cntC c s:Nat)∧getT T 9=.rs 0 0 (cntC c s+1) 1 (some (cntC c s+1))∧getT T 10=i64 k∧0 < H.n ∧
  ∃ (done:List (List Nat)) (rest:List Nat),getT T 0=.str rest∧done.length=k∧splitL c s=done++splitL c rest∧rest.length≤s.length∧H.get 0=.cells (strF (done++List.replicate (cntC c s+1 - k) [])) 9) (cntC c s) ?_ ?_ ?_
 · simp only [go_sem,reduceIte,reduceEqDiff,reduceAdd,reduceMul,reduceSub,reduceLeDiff,reduceLT,Nat.reduceBEq,reduceCtorEq]
   exact ⟨[],s,rfl,rfl,rfl,Nat.le_refl _,rfl⟩
 · rintro k T H M hk ⟨rfl,g1,g2,g3,g9,g10,hn,done,rest,g0,hd,hs,hr,h0⟩
   have hcr:cntC c rest=cntC c s - k:=by
    have h1:=splitL_len c s
    rw [hs,List.length_append,hd,splitL_len] at h1
    omega
   rcases idxL_cases c rest with ⟨h1,h2⟩ | ⟨m,h1,h2,h3,h4⟩
   · rw [cntC_none h2] at hcr;omega
   have hmn:((m:Int) < 0)=False:=by simp
   have hw:=wrap_succ (k:=k) (n:=cntC c s) hk (by omega)
   have w0:wrapq .i64 (Int.add (m:Int) 0)=(m:Int):=by
    have:Int.add (m:Int) 0=((m:Nat):Int):=Int.add_zero _
    rw [this];exact wrap_nat (by unfold maxRows at hl;omega)
   have w1:wrapq .i64 (Int.add (m:Int) ((1:Nat):Int))=((m+1:Nat):Int):=wrap_nat (n:=m+1) (by unfold maxRows at hl;omega)
   have sl1:=asl_hi (s:=rest) (i:=m) (by omega)
   have sl2:=asl_lo (s:=rest) (i:=m+1) (by omega)
   have c1:(k < cntC c s+1)=True:=by simp only [eq_iff_iff,iff_true];omega
   have hlen:(strF (done++List.replicate (cntC c s+1 - k) [])).length=cntC c s+1:=by unfold strF;simp;omega
   have c2:(k+1≤(strF (done++List.replicate (cntC c s+1 - k) [])).length)=True:=by rw [hlen];simp only [eq_iff_iff,iff_true];omega
   have hov:over (strF (done++List.replicate (cntC c s+1 - k) [])) k [.str (rest.take m)]=strF ((done++[rest.take m])++List.replicate (cntC c s+1 - (k+1)) []):=by
    rw [strF_over _ (by simp;omega)]
    have e:cntC c s+1 - k=cntC c s+1 - (k+1)+1:=by omega
    rw [e,List.replicate_succ,← hd]
    simp
   generalize hCE:strF (done++List.replicate (cntC c s+1 - k) [])=CE at h0 c2 hov
   unfold over at hov
   simp only [List.length_cons,List.length_nil] at hov
   simp only [go_sem,reduceIte,reduceEqDiff,reduceAdd,reduceMul,reduceSub,reduceLeDiff,reduceLT,Nat.reduceBEq,reduceCtorEq,g0,g1,g2,g3,g9,g10,hk,e257,h1,hmn,hw,w0,w1,sl1,sl2,c1,h0,c2,hov,Nat.mul_one]
   refine ⟨hn,done++[rest.take m],rest.drop (m+1),rfl,by simp [hd], ?_,by simp;omega,rfl⟩
   rw [hs,splitL_at h3 h4];simp
 · rintro T H M ⟨rfl,g1,g2,g3,g9,g10,hn,done,rest,g0,hd,hs,hr,h0⟩
   have hcr:cntC c rest=0:=by
    have h1:=splitL_len c s
    rw [hs,List.length_append,hd,splitL_len] at h1
    omega
   have hrest:splitL c rest=[rest]:=by
    rcases idxL_cases c rest with ⟨h1,h2⟩ | ⟨m,h1,h2,h3,h4⟩
    · exact splitL_none h2
    · rw [cntC_at h3 h4] at hcr;omega
   have hlen:(strF (done++List.replicate (cntC c s+1 - cntC c s) [])).length=cntC c s+1:=by unfold strF;simp;omega
   have c1:(cntC c s < cntC c s+1)=True:=by simp
   have c2:(cntC c s+1≤(strF (done++List.replicate (cntC c s+1 - cntC c s) [])).length)=True:=by rw [hlen];simp
   have hov:over (strF (done++List.replicate (cntC c s+1 - cntC c s) [])) (cntC c s) [.str rest]=strF (splitL c s):=by
    rw [strF_over _ (by simp;omega),hs,hrest]
    have e:cntC c s+1 - cntC c s=0+1:=by omega
    rw [e,List.replicate_succ,← hd]
    simp
   have hw:wrapq .i64 (Int.add ((cntC c s:Nat):Int) 1)=((cntC c s+1:Nat):Int):=hN
   have hsl:aslice NC.P 160 (.rs 0 0 (cntC c s+1) 1 (some (cntC c s+1))) none (some (.int .i64 ((cntC c s+1:Nat):Int))) none=some (.rs 0 0 (cntC c s+1) 1 (some (cntC c s+1))):=by
    have u1:NC.P.underlying 160=some (.slice 9):=by kernel_rfl
    have u2:szOf NC.P 9=some 1:=by kernel_rfl
    unfold aslice
    simp only [u1,u2,boundOf,natOf_cast]
    simp
   generalize hCE:strF (done++List.replicate (cntC c s+1 - cntC c s) [])=CE at h0 c2 hov
   unfold over at hov
   simp only [List.length_cons,List.length_nil] at hov
   simp only [go_sem,reduceIte,reduceEqDiff,reduceAdd,reduceMul,reduceSub,reduceLeDiff,reduceLT,Nat.reduceBEq,reduceCtorEq,g0,g1,g2,g3,g9,g10,Nat.lt_irrefl,c1,h0,c2,hov,hw,hsl,Nat.mul_one]
   have:=deep_strs (H:=H.set 0 (.cells (strF (splitL c s)) 9)) (id:=0) (l:=splitL c s) (e:=9) (cap:=some (cntC c s+1)) (by rw [Heap.get_set,if_pos rfl]) 1
   rw [splitL_len] at this
   exact this
end Go.Sim

/-
Texts: the plain law: a line of a text, by the words that are taken one after the other.
-/
namespace Go.Sim
open Go Go.Proofs
abbrev Wd:Type:=List Nat
def sLine:Wd:=[108,105,110,101]
def sPiece:Wd:=[112,105,101,99,101]
def sSwitch:Wd:=[115,119,105,116,99,104]
def sStructure:Wd:=[115,116,114,117,99,116,117,114,101]
def sUp:Wd:=[117,112]
def sDown:Wd:=[100,111,119,110]
def sFirst:Wd:=[102,105,114,115,116]
def sLast:Wd:=[108,97,115,116]
/-! ### What a line adds -/
def Net.addLine (n:Net) (s:Wd):Net:={ n with lines:=n.lines++[⟨s,[]⟩] }
def addPc (p:Pc):List Ln→List Ln
 | []=>[]
 | [l]=>[⟨l.name,l.ps++[p]⟩]
 | l::r=>l::addPc p r
def Net.addPiece (n:Net) (p:Pc):Net:={ n with lines:=addPc p n.lines }
def Net.addSwitch (n:Net) (s:Sw):Net:={ n with sws:=n.sws++[s] }
def Net.addStruct (n:Net) (s:Stc):Net:={ n with sts:=n.sts++[s] }
theorem addPc_snoc (p:Pc) (l:Ln):∀ ls:List Ln,addPc p (ls++[l])=ls++[⟨l.name,l.ps++[p]⟩]
 | []=>rfl
 | a::r=>by
   have ih:=addPc_snoc p l r
   cases hr:r++[l] with
   | nil=>simp at hr
   | cons b s =>
     show addPc p (a::(r++[l]))=_
     rw [hr]
     show a::addPc p (b::s)=_
     rw [← hr,ih];rfl
theorem addPc_length (p:Pc):∀ ls:List Ln,(addPc p ls).length=ls.length
 | []=>rfl
 | [_]=>rfl
 | a::b::r=>by
   show (a::addPc p (b::r)).length=_
   rw [List.length_cons,addPc_length p (b::r)];rfl
def lineF (n:Net) (w:List Wd):Option (Net × Int):=match w with
 | [h,a]=>if h=sLine∧a ≠ [] then some (n.addLine a,0) else none
 | [h,a,b,c]=>if h=sPiece∧(intF a).2=true∧(intF b).2=true∧(c=sUp∨c=sDown)∧n.lines ≠ [] then some (n.addPiece ⟨(intF a).1,(intF b).1,decide (c=sDown)⟩,0) else none
 | [h,a,b,c,d,e] =>
   if h=sSwitch∧a ≠ []∧b ≠ []∧(intF c).2=true∧d ≠ []∧(e=sFirst∨e=sLast) then some (n.addSwitch ⟨a,b,(intF c).1,d,decide (e=sLast)⟩,1)
   else if h=sStructure∧a ≠ []∧b ≠ []∧c ≠ []∧(intF d).2=true∧(intF e).2=true then some (n.addStruct ⟨a,b,c,(intF d).1,(intF e).1⟩,2)
   else none
 | _=>none
/-! ### Words that are taken -/
structure Tk where
 ws:List Wd
 wrong:Bool
def Tk.word (t:Tk):Wd × Tk:=match t.ws with
 | []=>([],⟨[],true⟩)
 | w::r=>if w=[] then ([],⟨[],true⟩) else (w,⟨r,t.wrong⟩)
def Tk.num (t:Tk):Int × Tk:=((intP t.word.1).1,⟨t.word.2.ws,t.word.2.wrong || !(intP t.word.1).2⟩)
def Tk.one (a b:Wd) (t:Tk):Bool × Tk:=(beqL t.word.1 b,⟨t.word.2.ws,t.word.2.wrong || (!beqL t.word.1 a && !beqL t.word.1 b)⟩)
def kindW (h:Wd):Option Nat:=if h=sLine then some 0 else if h=sPiece then some 1 else if h=sSwitch then some 2 else if h=sStructure then some 3 else none
def readT (n:Net) (t:Tk):Nat→Net × Tk
 | 0=>(n.addLine t.word.1,t.word.2)
 | 1 =>
   let a:=t.num
   let b:=a.2.num
   let c:=b.2.one sUp sDown
   if n.lines=[] then (n,⟨c.2.ws,true⟩) else (n.addPiece ⟨a.1,b.1,c.1⟩,c.2)
 | 2 =>
   let a:=t.word
   let b:=a.2.word
   let c:=b.2.num
   let d:=c.2.word
   let e:=d.2.one sFirst sLast
   (n.addSwitch ⟨a.1,b.1,c.1,d.1,e.1⟩,e.2)
 | _ =>
   let a:=t.word
   let b:=a.2.word
   let c:=b.2.word
   let d:=c.2.num
   let e:=d.2.num
   (n.addStruct ⟨a.1,b.1,c.1,d.1,e.1⟩,e.2)
def kindOf (k:Nat):Int:=if k=2 then 1 else if k=3 then 2 else 0
def finT (x:Net × Tk) (k:Int):Option (Net × Int):=if x.2.wrong=true∨x.2.ws ≠ [] then none else some (x.1,k)
def lineT (n:Net) (w:List Wd):Option (Net × Int):=match kindW (Tk.word ⟨w,false⟩).1 with
 | none=>none
 | some k=>finT (readT n (Tk.word ⟨w,false⟩).2 k) (kindOf k)
theorem beqL_dec (a b:Wd):beqL a b=decide (a=b):=by
 rw [beqL_eq,Bool.eq_iff_iff]
 simp
theorem Tk.word_ok {w:Wd} (h:w ≠ []) (r:List Wd) (b:Bool):Tk.word ⟨w::r,b⟩=(w,⟨r,b⟩):=by
 unfold Tk.word;simp [h]
theorem intF_ne {s:Wd} (h:(intF s).2=true):s ≠ []:=fun e=>by rw [e] at h;cases h
theorem Tk.word_wrong {t:Tk} (h:t.wrong=true):t.word.2.wrong=true:=by
 obtain ⟨ws,b⟩:=t
 simp only at h;subst h
 unfold Tk.word
 cases ws with
 | nil=>rfl
 | cons w r =>
   simp only
   split<;>rfl
theorem Tk.num_wrong {t:Tk} (h:t.wrong=true):t.num.2.wrong=true:=by
 show (t.word.2.wrong || _)=true
 rw [Tk.word_wrong h];rfl
theorem Tk.one_wrong {t:Tk} {a b:Wd} (h:t.wrong=true):(t.one a b).2.wrong=true:=by
 show (t.word.2.wrong || _)=true
 rw [Tk.word_wrong h];rfl
theorem Tk.word_right {t:Tk} (h:t.word.2.wrong=false):∃ w r,t.ws=w::r∧w ≠ []∧t.wrong=false∧t.word=(w,⟨r,false⟩):=by
 obtain ⟨ws,b⟩:=t
 unfold Tk.word at h ⊢
 cases ws with
 | nil=>cases h
 | cons w r =>
   by_cases hw:w=[]
   · simp only [hw,if_true] at h;cases h
   · simp only [hw,if_false] at h ⊢
     subst h
     exact ⟨w,r,rfl,hw,rfl,rfl⟩
theorem Tk.num_right {t:Tk} (h:t.num.2.wrong=false):∃ w r,t.ws=w::r∧(intF w).2=true∧t.wrong=false∧t.num=((intF w).1,⟨r,false⟩):=by
 have h':(t.word.2.wrong || !(intP t.word.1).2)=false:=h
 rw [Bool.or_eq_false_iff,intP_snd] at h'
 obtain ⟨w,r,h1,h2,h3,h4⟩:=Tk.word_right h'.1
 have h5:(intF w).2=true:=by
  have:=h'.2
  rw [h4] at this
  simpa using this
 refine ⟨w,r,h1,h5,h3, ?_⟩
 unfold Tk.num
 rw [h4]
 simp [intP_ok h5,h5]
theorem Tk.one_right {t:Tk} {a b:Wd} (h:(t.one a b).2.wrong=false):∃ w r,t.ws=w::r∧w ≠ []∧(w=a∨w=b)∧t.wrong=false∧t.one a b=(decide (w=b),⟨r,false⟩):=by
 have h':(t.word.2.wrong || (!beqL t.word.1 a && !beqL t.word.1 b))=false:=h
 rw [Bool.or_eq_false_iff] at h'
 obtain ⟨w,r,h1,h2,h3,h4⟩:=Tk.word_right h'.1
 have h5:=h'.2
 rw [h4] at h5
 simp only [beqL_dec] at h5
 have h6:w=a∨w=b:=by
  by_cases h1:w=a
  · exact .inl h1
  · by_cases h2:w=b
    · exact .inr h2
    · simp [h1,h2] at h5
 refine ⟨w,r,h1,h2,h6,h3, ?_⟩
 unfold Tk.one
 rw [h4]
 simp only [beqL_dec]
 rcases h6 with h6 | h6<;>simp [h6]
theorem finT_iff {x:Net × Tk} {k:Int} {y:Net × Int}:finT x k=some y ↔ x.2.wrong=false∧x.2.ws=[]∧(x.1,k)=y:=by
 unfold finT
 cases h:x.2.wrong with
 | true=>simp
 | false =>
   cases hw:x.2.ws with
   | nil=>simp
   | cons a b=>simp
theorem lineT_iff (n:Net) (w:List Wd) (y:Net × Int):lineT n w=some y ↔ lineF n w=some y:=by
 constructor
 · intro h
   unfold lineT at h
   split at h
   · cases h
   rename_i k hk
   obtain ⟨h1,h2,rfl⟩:=finT_iff.1 h
   clear h
   -- the head
   have hh:(Tk.word ⟨w,false⟩).2.wrong=false:=by
    cases hq:(Tk.word ⟨w,false⟩).2.wrong with
    | false=>rfl
    | true =>
      exfalso
      have:(readT n (Tk.word ⟨w,false⟩).2 k).2.wrong=true:=by
       unfold readT
       split
       · exact Tk.word_wrong hq
       · simp only
         split
         · rfl
         · exact Tk.one_wrong (Tk.num_wrong (Tk.num_wrong hq))
       · exact Tk.one_wrong (Tk.word_wrong (Tk.num_wrong (Tk.word_wrong (Tk.word_wrong hq))))
       · exact Tk.num_wrong (Tk.num_wrong (Tk.word_wrong (Tk.word_wrong (Tk.word_wrong hq))))
      rw [this] at h1;cases h1
   obtain ⟨hd,r,e1,e2,_,e3⟩:=Tk.word_right hh
   simp only at e1
   rw [e3] at hk h1 h2
   rw [e3]
   simp only at hk h1 h2 ⊢
   subst e1
   unfold kindW at hk
   split at hk
   · rename_i hl
     cases hk
     have h1:(Tk.word ⟨r,false⟩).2.wrong=false:=h1
     obtain ⟨a,r2,f1,f2,_,f3⟩:=Tk.word_right h1
     simp only at f1
     subst f1
     have h2:(Tk.word ⟨a::r2,false⟩).2.ws=[]:=h2
     rw [f3] at h2
     simp only at h2
     subst h2
     show lineF n [hd,a]=some (n.addLine (Tk.word ⟨[a],false⟩).1,0)
     rw [f3]
     unfold lineF
     simp [hl,f2]
   · split at hk
     · rename_i hl
       cases hk
       have hz:n.lines ≠ []:=fun e=>by
        have:(readT n ⟨r,false⟩ 1).2.wrong=true:=by unfold readT;simp [e]
        rw [this] at h1;cases h1
       have er:readT n ⟨r,false⟩ 1=(n.addPiece ⟨(Tk.num ⟨r,false⟩).1,(Tk.num ⟨r,false⟩).2.num.1,((Tk.num ⟨r,false⟩).2.num.2.one sUp sDown).1⟩,((Tk.num ⟨r,false⟩).2.num.2.one sUp sDown).2):=by unfold readT;simp [hz]
       rw [er] at h1 h2 ⊢
       simp only at h1 h2 ⊢
       obtain ⟨c,r3,g1,g2,g3,g4,g5⟩:=Tk.one_right h1
       obtain ⟨b,r2,k1,k2,k3,k4⟩:=Tk.num_right g4
       obtain ⟨a,r1,m1,m2,_,m4⟩:=Tk.num_right k3
       simp only at m1
       subst m1
       rw [m4] at k1 k4
       simp only at k1
       subst k1
       rw [m4] at g1 g5 h2 ⊢
       rw [k4] at g1 g5 h2 ⊢
       simp only at g1
       subst g1
       rw [g5] at h2 ⊢
       simp only at h2
       subst h2
       unfold lineF
       simp [hl,m2,k2,g3,hz,kindOf]
     · split at hk
       · rename_i _ _ hl
         cases hk
         have er:readT n ⟨r,false⟩ 2=(n.addSwitch ⟨(Tk.word ⟨r,false⟩).1,(Tk.word ⟨r,false⟩).2.word.1,(Tk.word ⟨r,false⟩).2.word.2.num.1,(Tk.word ⟨r,false⟩).2.word.2.num.2.word.1,((Tk.word ⟨r,false⟩).2.word.2.num.2.word.2.one sFirst sLast).1⟩,((Tk.word ⟨r,false⟩).2.word.2.num.2.word.2.one sFirst sLast).2):=rfl
         rw [er] at h1 h2 ⊢
         simp only at h1 h2 ⊢
         obtain ⟨e,r5,a1,a2,a3,a4,a5⟩:=Tk.one_right h1
         obtain ⟨d,r4,b1,b2,b4,b5⟩:=Tk.word_right a4
         obtain ⟨c,r3,c1,c2,c4,c5⟩:=Tk.num_right b4
         obtain ⟨b,r2,d1,d2,d4,d5⟩:=Tk.word_right c4
         obtain ⟨a,r1,f1,f2,_,f5⟩:=Tk.word_right d4
         simp only at f1
         subst f1
         rw [f5] at d1 d5
         simp only at d1;subst d1
         rw [f5,d5] at c1 c5
         simp only at c1;subst c1
         rw [f5,d5,c5] at b1 b5
         simp only at b1;subst b1
         rw [f5,d5,c5,b5] at a1 a5
         simp only at a1;subst a1
         rw [f5,d5,c5,b5,a5] at h2
         simp only at h2;subst h2
         rw [f5,d5,c5,b5,a5]
         unfold lineF
         have n1:hd ≠ sStructure:=by rw [hl];decide
         simp [hl,f2,d2,c2,b2,a3,kindOf]
       · split at hk
         · rename_i n1 n2 n3 hl
           cases hk
           have er:readT n ⟨r,false⟩ 3=(n.addStruct ⟨(Tk.word ⟨r,false⟩).1,(Tk.word ⟨r,false⟩).2.word.1,(Tk.word ⟨r,false⟩).2.word.2.word.1,(Tk.word ⟨r,false⟩).2.word.2.word.2.num.1,(Tk.word ⟨r,false⟩).2.word.2.word.2.num.2.num.1⟩,(Tk.word ⟨r,false⟩).2.word.2.word.2.num.2.num.2):=rfl
           rw [er] at h1 h2 ⊢
           simp only at h1 h2 ⊢
           obtain ⟨e,r5,a1,a2,a4,a5⟩:=Tk.num_right h1
           obtain ⟨d,r4,b1,b2,b4,b5⟩:=Tk.num_right a4
           obtain ⟨c,r3,c1,c2,c4,c5⟩:=Tk.word_right b4
           obtain ⟨b,r2,d1,d2,d4,d5⟩:=Tk.word_right c4
           obtain ⟨a,r1,f1,f2,_,f5⟩:=Tk.word_right d4
           simp only at f1
           subst f1
           rw [f5] at d1 d5
           simp only at d1;subst d1
           rw [f5,d5] at c1 c5
           simp only at c1;subst c1
           rw [f5,d5,c5] at b1 b5
           simp only at b1;subst b1
           rw [f5,d5,c5,b5] at a1 a5
           simp only at a1;subst a1
           rw [f5,d5,c5,b5,a5] at h2
           simp only at h2;subst h2
           rw [f5,d5,c5,b5,a5]
           unfold lineF
           have hd':¬ (sStructure=sSwitch):=by decide
           simp [hd',hl,f2,d2,c2,b2,a2,kindOf]
         · cases hk
 · intro h
   unfold lineF at h
   split at h
   · rename_i hd a
     split at h
     · rename_i hc
       cases h
       obtain ⟨rfl,h2⟩:=hc
       unfold lineT
       rw [Tk.word_ok (by decide)]
       simp only [show kindW sLine=some 0 from rfl]
       refine finT_iff.2 ?_
       unfold readT
       rw [Tk.word_ok h2]
       exact ⟨rfl,rfl,rfl⟩
     · cases h
   · rename_i hd a b c
     split at h
     · rename_i hc
       cases h
       obtain ⟨rfl,h2,h3,h4,h5⟩:=hc
       unfold lineT
       rw [Tk.word_ok (by decide)]
       simp only [show kindW sPiece=some 1 from rfl]
       refine finT_iff.2 ?_
       have hc0:c ≠ []:=by rcases h4 with rfl | rfl<;>decide
       unfold readT Tk.num Tk.one
       simp only [Tk.word_ok (intF_ne h2),Tk.word_ok (intF_ne h3),Tk.word_ok hc0,intP_ok h2,intP_ok h3,h2,h3,h5,if_false,beqL_dec]
       rcases h4 with rfl | rfl<;>simp [kindOf]
     · cases h
   · rename_i hd a b c d e
     split at h
     · rename_i hc
       cases h
       obtain ⟨rfl,h2,h3,h4,h5,h6⟩:=hc
       unfold lineT
       rw [Tk.word_ok (by decide)]
       simp only [show kindW sSwitch=some 2 from rfl]
       refine finT_iff.2 ?_
       have he0:e ≠ []:=by rcases h6 with rfl | rfl<;>decide
       unfold readT Tk.num Tk.one
       simp only [Tk.word_ok h2,Tk.word_ok h3,Tk.word_ok (intF_ne h4),Tk.word_ok h5,Tk.word_ok he0,intP_ok h4,h4,beqL_dec]
       rcases h6 with rfl | rfl<;>simp [kindOf]
     · split at h
       · rename_i _ hc
         cases h
         obtain ⟨rfl,h2,h3,h4,h5,h6⟩:=hc
         unfold lineT
         rw [Tk.word_ok (by decide)]
         simp only [show kindW sStructure=some 3 from rfl]
         refine finT_iff.2 ?_
         unfold readT Tk.num
         simp only [Tk.word_ok h2,Tk.word_ok h3,Tk.word_ok h4,Tk.word_ok (intF_ne h5),Tk.word_ok (intF_ne h6),intP_ok h5,intP_ok h6,h5,h6]
         simp [kindOf]
       · cases h
   · cases h
theorem lineT_eq (n:Net) (w:List Wd):lineT n w=lineF n w:=by
 cases h:lineF n w with
 | some y=>exact (lineT_iff n w y).2 h
 | none =>
   cases h':lineT n w with
   | none=>rfl
   | some y=>rw [(lineT_iff n w y).1 h'] at h;cases h
/-! ### The reference's way of reading a line -/
def wAt (w:List Wd) (i:Nat):Wd:=w.getD i []
def filledB (w:List Wd):Bool:=w.all fun x=>!beqL x []
def parsedF (n:Net) (w:List Wd):Net × Int × Bool :=
 if filledB w=false then (n,0,false)
 else if wAt w 0=sLine∧w.length=2 then (n.addLine (wAt w 1),0,true)
 else if (wAt w 0=sPiece∧w.length=4)∧n.lines ≠ [] then (n.addPiece ⟨(intF (wAt w 1)).1,(intF (wAt w 2)).1,decide (wAt w 3=sDown)⟩,0,((intF (wAt w 1)).2 && (intF (wAt w 2)).2) && (decide (wAt w 3=sUp) || decide (wAt w 3=sDown)))
 else if wAt w 0=sSwitch∧w.length=6 then (n.addSwitch ⟨wAt w 1,wAt w 2,(intF (wAt w 3)).1,wAt w 4,decide (wAt w 5=sLast)⟩,1,(intF (wAt w 3)).2 && (decide (wAt w 5=sFirst) || decide (wAt w 5=sLast)))
 else if wAt w 0=sStructure∧w.length=6 then (n.addStruct ⟨wAt w 1,wAt w 2,wAt w 3,(intF (wAt w 4)).1,(intF (wAt w 5)).1⟩,2,(intF (wAt w 4)).2 && (intF (wAt w 5)).2)
 else (n,0,false)
theorem filledB_iff {w:List Wd}:filledB w=true ↔ ∀ x ∈ w,x ≠ []:=by
 unfold filledB
 simp only [List.all_eq_true,beqL_dec,Bool.not_eq_true',decide_eq_false_iff_not,ne_eq]
theorem parsedF_line (n:Net) (w:List Wd):lineF n w=if (parsedF n w).2.2=true then some ((parsedF n w).1,(parsedF n w).2.1) else none:=by
 cases hf:filledB w with
 | false =>
   have e:parsedF n w=(n,0,false):=by unfold parsedF;rw [if_pos hf]
   rw [e]
   simp only [Bool.false_eq_true,if_false]
   cases h:lineF n w with
   | none=>rfl
   | some y =>
     exfalso
     have:filledB w=true:=by
      rw [filledB_iff]
      unfold lineF at h
      split at h
      · split at h
        · rename_i hc;obtain ⟨rfl,h2⟩:=hc
          intro x hx
          simp only [List.mem_cons,List.not_mem_nil,or_false] at hx
          rcases hx with rfl | rfl
          · decide
          · exact h2
        · cases h
      · split at h
        · rename_i hc;obtain ⟨rfl,h2,h3,h4,_⟩:=hc
          intro x hx
          simp only [List.mem_cons,List.not_mem_nil,or_false] at hx
          rcases hx with rfl | rfl | rfl | rfl
          · decide
          · exact intF_ne h2
          · exact intF_ne h3
          · rcases h4 with rfl | rfl<;>decide
        · cases h
      · split at h
        · rename_i hc;obtain ⟨rfl,h2,h3,h4,h5,h6⟩:=hc
          intro x hx
          simp only [List.mem_cons,List.not_mem_nil,or_false] at hx
          rcases hx with rfl | rfl | rfl | rfl | rfl | rfl
          · decide
          · exact h2
          · exact h3
          · exact intF_ne h4
          · exact h5
          · rcases h6 with rfl | rfl<;>decide
        · split at h
          · rename_i hc;obtain ⟨rfl,h2,h3,h4,h5,h6⟩:=hc
            intro x hx
            simp only [List.mem_cons,List.not_mem_nil,or_false] at hx
            rcases hx with rfl | rfl | rfl | rfl | rfl | rfl
            · decide
            · exact h2
            · exact h3
            · exact h4
            · exact intF_ne h5
            · exact intF_ne h6
          · cases h
      · cases h
     rw [hf] at this;cases this
 | true =>
   have hne:=filledB_iff.1 hf
   have e0:¬ (filledB w=false):=by rw [hf];decide
   unfold parsedF
   rw [if_neg e0]
   clear e0
   match w,hne with
   | [],_=>simp [lineF,wAt,sLine,sPiece,sSwitch,sStructure]
   | [a],_=>simp [lineF,wAt]
   | [a,b],hne =>
     have h2:b ≠ []:=hne b (by simp)
     by_cases h:a=sLine<;>simp [lineF,wAt,h,h2]
   | [a,b,c],_=>simp [lineF,wAt]
   | [a,b,c,d],_ =>
     by_cases h:a=sPiece
     · have h':a ≠ sLine:=by rw [h];decide
       by_cases hl:n.lines=[]
       · simp [lineF,wAt,h,hl]
       · by_cases i1:(intF b).2=true<;>by_cases i2:(intF c).2=true<;>by_cases i3:d=sUp<;>by_cases i4:d=sDown<;>simp [lineF,wAt,h,hl,i1,i2,i3,i4]
     · simp [lineF,wAt,h]
   | [a,b,c,d,e],_=>simp [lineF,wAt]
   | [a,b,c,d,e,f],hne =>
     have h2:b ≠ []:=hne b (by simp)
     have h3:c ≠ []:=hne c (by simp)
     have h4:d ≠ []:=hne d (by simp)
     have h5:e ≠ []:=hne e (by simp)
     by_cases h:a=sSwitch
     · have h':¬ (sSwitch=sStructure):=by decide
       by_cases i1:(intF d).2=true<;>by_cases i3:f=sFirst<;>by_cases i4:f=sLast<;>simp [lineF,wAt,h,h',h2,h3,h4,h5,i1,i3,i4]
     · by_cases h6:a=sStructure
       · have h':¬ (sStructure=sSwitch):=by decide
         by_cases i1:(intF e).2=true<;>by_cases i3:(intF f).2=true<;>simp [lineF,wAt,h6,h',h2,h3,h4,h5,i1,i3]
       · simp [lineF,wAt,h,h6]
   | a::b::c::d::e::f::g::r,_=>simp [lineF,wAt]
/-! ### A text -/
def zNet:Net:=⟨[],[],[]⟩
end Go.Sim

/-
Texts: the plain law: integers are read as they were written, and written as they were read.
-/
namespace Go.Sim
open Go Go.Proofs
theorem numF_snoc:∀ (a:Wd) (c:Nat) (n:Int),numF (a++[c]) n=10 * numF a n+((c:Int) - 48)
 | [],_,_=>rfl
 | _::r,c,n=>numF_snoc r c _
theorem numF_ge:∀ {a:Wd} {n:Int},digsB a=true→1≤n→1≤numF a n
 | [],_,_,h=>h
 | c::r,n,hd,h=>by
   unfold digsB at hd
   rw [List.all_cons,Bool.and_eq_true] at hd
   have hc:=(digB_iff _).1 hd.1
   exact numF_ge (a:=r) hd.2 (by omega)
def itoaN (f n:Nat):Wd:=(digs f n).reverse
theorem itoaN_succ (f n:Nat):itoaN (f+1) n=if n < 10 then [48+n] else itoaN f (n / 10)++[48+n % 10]:=by
 unfold itoaN
 show (cond (Nat.blt n 10) [48+n] ((48+n % 10)::digs f (n / 10))).reverse=_
 by_cases h:n < 10
 · have:Nat.blt n 10=true:=by rw [Nat.blt_eq];exact h
   rw [this,if_pos h];rfl
 · have:Nat.blt n 10=false:=by
    rw [Bool.eq_false_iff];intro h';rw [Nat.blt_eq] at h';exact h h'
   rw [this,if_neg h]
   simp
theorem itoaL_nat (n:Nat):itoaL (n:Int)=itoaN 20 n:=rfl
theorem digB_nat {d:Nat} (h:d < 10):digB ((48+d:Nat):Int)=true:=by
 rw [digB_iff];omega
theorem digsB_snoc (a:Wd) (c:Nat):digsB (a++[c])=(digsB a && digB (c:Int)):=by
 unfold digsB;simp
structure IsNum (w:Wd) (n:Nat):Prop where
 num:numF w 0=(n:Int)
 dig:digsB w=true
 ne:w ≠ []
 lead:n ≠ 0→w[0]? ≠ some 48
 one:n < 10→w.length=1
 len:∀ k,1≤k→n < 10 ^ k→w.length≤k
theorem itoaN_ok:∀ (f n:Nat),n < 10 ^ (f+1)→IsNum (itoaN (f+1) n) n
 | f,n,h=>by
   rw [itoaN_succ]
   by_cases h1:n < 10
   · rw [if_pos h1]
     refine ⟨?_, ?_,by simp,fun h0 => ?_,fun _=>rfl,fun k hk _=>by simpa using hk⟩
     · show 10 * 0+(((48+n:Nat):Int) - 48)=n
       omega
     · have:=digB_nat h1
       unfold digsB
       simp only [List.all_cons,List.all_nil,Bool.and_true]
       exact this
     · simp only [List.getElem?_cons_zero,ne_eq,Option.some.injEq]
       omega
   · rw [if_neg h1]
     obtain ⟨f,rfl⟩:∃ f',f=f'+1:=⟨f - 1,by
      cases f with
      | zero=>simp at h;omega
      | succ f=>simp⟩
     have ih:=itoaN_ok f (n / 10) (by rw [Nat.pow_succ] at h;omega)
     have hd:n % 10 < 10:=Nat.mod_lt _ (by decide)
     refine ⟨?_, ?_,by simp,fun _ => ?_,fun h=>absurd h h1,fun k hk hlt => ?_⟩
     · rw [numF_snoc,ih.num];omega
     · rw [digsB_snoc,ih.dig,digB_nat hd];rfl
     · have:=ih.lead (by omega)
       cases hi:itoaN (f+1) (n / 10) with
       | nil=>exact absurd hi ih.ne
       | cons a r=>rw [hi] at this;simpa using this
     · rw [List.length_append,List.length_singleton]
       obtain ⟨k,rfl⟩:∃ k',k=k'+1:=⟨k - 1,by omega⟩
       rcases Nat.eq_zero_or_pos k with rfl | hk0
       · simp at hlt;omega
       · have:=ih.len k hk0 (by rw [Nat.pow_succ] at hlt;omega)
         omega
theorem intF_itoa {n:Int} (h0:0≤n) (h1:n < 1000000000):intF (itoaL n)=(n,true):=by
 obtain ⟨m,rfl⟩:∃ m:Nat,n=(m:Int):=⟨n.toNat,by omega⟩
 rw [itoaL_nat]
 have h:=itoaN_ok 19 m (by have:(1000000000:Nat)≤10 ^ (19+1):=by decide
                           omega)
 have hz:(itoaN 20 m).length=1∨(itoaN 20 m)[0]? ≠ some 48:=by
  by_cases hm:m=0
  · exact .inl (h.one (by omega))
  · exact .inr (h.lead hm)
 unfold intF
 rw [if_pos ⟨h.ne,h.len 9 (by decide) (by simp;omega),h.dig,hz⟩,h.num]
theorem itoaN_num:∀ (k:Nat) (w:Wd),w.length=k+1→digsB w=true→(w.length=1∨w[0]? ≠ some 48) → ∀ f,k < f→itoaN f (numF w 0).toNat=w
 | 0,w,hl,hd,_,f,hf=>by
   obtain ⟨f,rfl⟩:∃ f',f=f'+1:=⟨f - 1,by omega⟩
   match w,hl with
   | [c],_ =>
     unfold digsB at hd
     simp only [List.all_cons,List.all_nil,Bool.and_true] at hd
     have hc:=(digB_iff _).1 hd
     have e:numF [c] 0=(c:Int) - 48:=by show 10 * 0+((c:Int) - 48)=_;omega
     rw [itoaN_succ,e,if_pos (by omega)]
     congr 1;omega
 | k+1,w,hl,hd,hz,f,hf=>by
   obtain ⟨f,rfl⟩:∃ f',f=f'+1:=⟨f - 1,by omega⟩
   rcases List.eq_nil_or_concat w with rfl | ⟨a,c,rfl⟩
   · simp at hl
   rw [List.concat_eq_append] at hl hd hz ⊢
   rw [digsB_snoc,Bool.and_eq_true] at hd
   have hc:=(digB_iff _).1 hd.2
   have hal:a.length=k+1:=by simpa using hl
   have hz':a[0]? ≠ some 48:=by
    rcases hz with h | h
    · rw [List.length_append,List.length_singleton] at h;omega
    · intro e
      apply h
      rw [List.getElem?_append_left (by omega)];exact e
   have ha1:1≤numF a 0:=by
    match a,hal with
    | x::r,_ =>
      have hd1:=hd.1
      unfold digsB at hd1
      rw [List.all_cons,Bool.and_eq_true] at hd1
      have hx:=(digB_iff _).1 hd1.1
      refine numF_ge (a:=r) hd1.2 ?_
      have:x ≠ 48:=fun e=>hz' (by simp [e])
      omega
   have ih:=itoaN_num k a hal hd.1 (.inr hz') f (by omega)
   rw [numF_snoc,itoaN_succ,if_neg (by omega)]
   have e1:(10 * numF a 0+((c:Int) - 48)).toNat / 10=(numF a 0).toNat:=by omega
   have e2:48+(10 * numF a 0+((c:Int) - 48)).toNat % 10=c:=by omega
   rw [e1,e2,ih]
theorem itoa_intF {w:Wd} (h:(intF w).2=true):itoaL (intF w).1=w∧0≤(intF w).1:=by
 unfold intF at h ⊢
 split at h
 · rename_i hc
   rw [if_pos hc]
   obtain ⟨h1,h2,h3,h4⟩:=hc
   have hb:=numF_bound w 0 0 h3 (Int.le_refl _) (by simp)
   obtain ⟨k,hk⟩:∃ k,w.length=k+1:=⟨w.length - 1,by
    have:w.length ≠ 0:=fun e=>h1 (List.length_eq_zero_iff.1 e)
    omega⟩
   have:=itoaN_num k w hk h3 h4 20 (by omega)
   refine ⟨?_,hb.1⟩
   show itoaL (numF w 0)=w
   obtain ⟨m,hm⟩:∃ m:Nat,numF w 0=(m:Int):=⟨(numF w 0).toNat,by omega⟩
   rw [hm,itoaL_nat]
   rw [hm] at this
   simpa using this
 · cases h
def cleanW (w:Wd):Prop:=32 ∉ w∧10 ∉ w
theorem clean_digs {w:Wd} (h:digsB w=true):cleanW w:=by
 unfold digsB at h
 rw [List.all_eq_true] at h
 constructor<;>intro hm<;>have:=(digB_iff _).1 (h _ hm)<;>omega
theorem clean_itoa {n:Int} (h0:0≤n) (h1:n < 1000000000):cleanW (itoaL n)∧itoaL n ≠ []:=by
 obtain ⟨m,rfl⟩:∃ m:Nat,n=(m:Int):=⟨n.toNat,by omega⟩
 rw [itoaL_nat]
 have h:=itoaN_ok 19 m (by have:(1000000000:Nat)≤10 ^ (19+1):=by decide
                           omega)
 exact ⟨clean_digs h.dig,h.ne⟩
theorem clean_name {w:Wd} (h:nameB w=true):cleanW w∧w ≠ []:=by
 cases w with
 | nil=>cases h
 | cons c r =>
   unfold nameB at h
   simp only [Bool.and_eq_true,decide_eq_true_eq,List.all_eq_true] at h
   obtain ⟨⟨_,h2⟩,h3⟩:=h
   have hc:∀ x ∈ c::r,restB (x:Int)=true:=by
    intro x hx
    rcases List.mem_cons.1 hx with rfl | hx
    · unfold restB;rw [h2];rfl
    · exact h3 x hx
   have no:∀ x:Nat,(x=32∨x=10)→restB (x:Int)=true→False:=by
    rintro x (rfl | rfl) h<;>revert h<;>decide
   refine ⟨⟨fun hm=>no 32 (.inl rfl) (hc _ hm),fun hm=>no 10 (.inr rfl) (hc _ hm)⟩,by simp⟩
end Go.Sim

/-
Texts: integers, by the program and by the reference; parts of strings, by the reference.
-/
-- INJ strRows_iff Int.ofNat_inj
namespace Go.Sim
open Go Go.Proofs
set_option maxRecDepth 100000
set_option maxHeartbeats 8000000
/-! ### Integers -/
theorem wrap_i32 {x:Int} (h1:0≤x) (h2:x≤2147483647):wrapq .i32 x=x:=by
 have:inK .i32 x=true:=by
  cases x with
  | ofNat n=>simp only [inK,kmax,Nat.ble_eq];simp at h2;omega
  | negSucc n=>omega
 unfold wrapq
 rw [this];rfl
theorem conv_i32 {n:Int} (h0:0≤n) (h1:n≤2147483647):aconv NC.P 21 3 (.int .i32 n)=some (.int .i64 n):=by
 have e:aconv NC.P 21 3 (.int .i32 n)=some (.int .i64 (IntKind.wrap .i64 n)):=by kernel_rfl
 rw [e,wrap_in h0 (by omega)]
theorem digsB_take {s:List Nat} {k c:Nat} (h:s[k]? = some c):digsB (s.take (k+1))=(digsB (s.take k) && digB (c:Int)):=by
 rw [List.take_add_one,h]
 exact digsB_snoc _ _
theorem numF_take {s:List Nat} {k c:Nat} (h:s[k]? = some c):numF (s.take (k+1)) 0=10 * numF (s.take k) 0+((c:Int) - 48):=by
 rw [List.take_add_one,h]
 exact numF_snoc _ _ _
theorem digsB_not {s:List Nat} {k c:Nat} (h:s[k]? = some c) (hd:digB (c:Int)=false):digsB s=false:=by
 unfold digsB
 rw [List.all_eq_false]
 exact ⟨c,List.mem_of_getElem? h,by simp [hd]⟩
theorem num_small {s:List Nat} {k:Nat} (hd:digsB (s.take k)=true) (hk:k≤9):0≤numF (s.take k) 0∧numF (s.take k) 0 < 1000000000:=by
 have:=numF_bound (s.take k) 0 0 hd (Int.le_refl _) (by simp)
 refine ⟨this.1,Int.lt_of_lt_of_le this.2 ?_⟩
 have hl:(s.take k).length≤9:=by rw [List.length_take];omega
 have:(10:Int) ^ (0+(s.take k).length)≤10 ^ 9:=by
  have h1:(10:Nat) ^ (0+(s.take k).length)≤10 ^ 9:=Nat.pow_le_pow_right (by decide) (by omega)
  exact_mod_cast h1
 omega
noncomputable def PPF258:FuncId→Option (List AV→Option AV):=fun _=>none
theorem primsF258:PrimsOk NC PPF258:=primsOk_none
theorem c258 (s:List Nat) (hp:s.length≤maxRows):∀ lo H,CallOk NC lo 258 [.str s] H (.tup [i64 (intP s).1,.bool (intP s).2]) H:=by
 refine contract saneNC primsF258 (fn:=Tryz.f258) (by kernel_rfl) Tryz.func258 rfl rfl (by rfl) (by first | rfl | (split<;>first | rfl | (split<;>rfl))) ?_
 rcases Classical.propComplete ((9:Int) < s.length) with q9 | q9
 · have hq:=of_eq_true q9
   have hI:intP s=(0,false):=by
    unfold intP
    rw [if_neg]
    intro h;omega
   rw [hI]
   simp only [go_sem,reduceIte,reduceEqDiff,reduceAdd,reduceMul,reduceSub,reduceLeDiff,reduceLT,Nat.reduceBEq,reduceCtorEq]
   refine W_for (fun k T H M=>k=0∧M=[]∧getT T 0=.str s∧getT T 8=.ptr 0 0∧H.get 0=.sit s k) s.length ?_ ?_ ?_
   · simp only [go_sem,reduceIte,reduceEqDiff,reduceAdd,reduceMul,reduceSub,reduceLeDiff,reduceLT,Nat.reduceBEq,reduceCtorEq]
   · rintro k T H M hk ⟨rfl,rfl,g0,g8,gH⟩
     rcases Classical.propComplete (((adecode s 0).1:Int) < 48) with r1 | r1<;>rcases Classical.propComplete ((57:Int) < (adecode s 0).1) with r2 | r2<;>simp only [go_sem,reduceIte,reduceEqDiff,reduceAdd,reduceMul,reduceSub,reduceLeDiff,reduceLT,Nat.reduceBEq,reduceCtorEq,g0,g8,gH,hk,r1,r2,q9]
   · rintro T H M ⟨h,_⟩;omega
 have hq:s.length≤9:=by
  have:¬ ((9:Int) < s.length):=by rw [q9];exact id
  omega
 simp only [go_sem,reduceIte,reduceEqDiff,reduceAdd,reduceMul,reduceSub,reduceLeDiff,reduceLT,Nat.reduceBEq,reduceCtorEq]
 refine W_for (fun k T H M=>M=[]∧getT T 0=.str s∧getT T 8=.ptr 0 0∧H.get 0=.sit s k∧getT T 4=.int .i64 (numF (s.take k) 0)∧digsB (s.take k)=true) s.length ?_ ?_ ?_
 · simp only [go_sem,reduceIte,reduceEqDiff,reduceAdd,reduceMul,reduceSub,reduceLeDiff,reduceLT,Nat.reduceBEq,reduceCtorEq];exact ⟨rfl,rfl⟩
 · rintro k T H M hk ⟨rfl,g0,g8,gH,g4,hd⟩
   obtain ⟨c,hc⟩:∃ c,s[k]? = some c:=⟨s[k],by simp⟩
   have hdt:=digsB_take hc
   have hnt:=numF_take hc
   have hns:=num_small hd (by omega)
   rw [hd] at hdt
   rw [hnt,hdt]
   generalize numF (s.take k) 0=N at g4 hns ⊢
   have no:digB (c:Int)=false→intP s=(0,false):=fun h=>by
    unfold intP
    rw [if_neg]
    intro h';rw [digsB_not hc h] at h';cases h'.1
   by_cases hasc:c < 128
   · have hde:=dec_ascii hc hasc
     rcases Classical.propComplete ((c:Int) < 48) with r1 | r1
     · rw [no (by unfold digB;simp [r1])]
       simp only [go_sem,reduceIte,reduceEqDiff,reduceAdd,reduceMul,reduceSub,reduceLeDiff,reduceLT,Nat.reduceBEq,reduceCtorEq,g0,g8,gH,hk,hde,r1]
     rcases Classical.propComplete ((57:Int) < (c:Int)) with r2 | r2
     · rw [no (by unfold digB;simp [r2])]
       simp only [go_sem,reduceIte,reduceEqDiff,reduceAdd,reduceMul,reduceSub,reduceLeDiff,reduceLT,Nat.reduceBEq,reduceCtorEq,g0,g8,gH,hk,hde,r1,r2]
     have hdg:digB (c:Int)=true:=by unfold digB;simp [r1,r2]
     have hb:=(digB_iff _).1 hdg
     have w1:wrapq .i64 (Int.mul 10 N)=10 * N:=wrapq_i64 (by show _≤10 * N;omega) (by show 10 * N≤_;omega)
     have w2:wrapq .i32 (Int.sub (c:Int) 48)=(c:Int) - 48:=wrap_i32 (by show _≤(c:Int) - 48;omega) (by show (c:Int) - 48≤_;omega)
     have w3:=conv_i32 (n:=(c:Int) - 48) (by omega) (by omega)
     have w4:wrapq .i64 (Int.add (10 * N) ((c:Int) - 48))=10 * N+((c:Int) - 48):=wrapq_i64 (by show _≤10 * N+((c:Int) - 48);omega) (by show 10 * N+((c:Int) - 48)≤_;omega)
     simp only [go_sem,reduceIte,reduceEqDiff,reduceAdd,reduceMul,reduceSub,reduceLeDiff,reduceLT,Nat.reduceBEq,reduceCtorEq,g0,g4,g8,gH,hk,hde,r1,r2,q9,w1,w2,w3,w4,hdg]
   · have hde:=dec_high hc hasc
     have r1:(((adecode s k).1:Int) < 48)=False:=by simp only [eq_iff_iff,iff_false];omega
     have r2:((57:Int) < ((adecode s k).1:Int))=True:=by simp only [eq_iff_iff,iff_true];omega
     rw [no (digB_high (by omega))]
     simp only [go_sem,reduceIte,reduceEqDiff,reduceAdd,reduceMul,reduceSub,reduceLeDiff,reduceLT,Nat.reduceBEq,reduceCtorEq,g0,g8,gH,hk,r1,r2]
 · rintro T H M ⟨rfl,g0,g8,gH,g4,hd⟩
   rw [List.take_length] at g4 hd
   have hI:intP s=(numF s 0,decide (s ≠ []) && (decide (s.length=1) || decide (s[0]? ≠ some 48))):=by unfold intP;rw [if_pos ⟨hd,hq⟩]
   rw [hI]
   clear hI hd q9
   generalize numF s 0=N at g4 ⊢
   by_cases hs0:s=[]
   · subst hs0
     have h1:beqL ([]:List Nat) []=true:=rfl
     simp only [go_sem,reduceIte,reduceEqDiff,reduceAdd,reduceMul,reduceSub,reduceLeDiff,reduceLT,Nat.reduceBEq,reduceCtorEq,g0,g8,gH,g4,Nat.lt_irrefl,h1]
     simp
   · have h1:beqL s []=false:=by rw [beqL_eq];simpa using hs0
     have hp':0 < s.length:=List.length_pos_iff.2 hs0
     obtain ⟨c,hc⟩:∃ c,s[0]? = some c:=⟨s[0],by simp⟩
     rcases Classical.propComplete ((s.length:Int)=1) with q1 | q1
     · have e1:s.length=1:=by have:=of_eq_true q1;omega
       simp only [go_sem,reduceIte,reduceEqDiff,reduceAdd,reduceMul,reduceSub,reduceLeDiff,reduceLT,Nat.reduceBEq,reduceCtorEq,g0,g8,gH,g4,Nat.lt_irrefl,h1,q1]
       simp [hs0,e1]
     · have e1:¬ (s.length=1):=by intro h;rw [h] at q1;simp at q1
       rcases Classical.propComplete ((c:Int)=48) with q2 | q2
       · have hc48:c=48:=by have:=of_eq_true q2;omega
         simp only [go_sem,reduceIte,reduceEqDiff,reduceAdd,reduceMul,reduceSub,reduceLeDiff,reduceLT,Nat.reduceBEq,reduceCtorEq,g0,g8,gH,g4,Nat.lt_irrefl,h1,q1,hp',hc,q2]
         simp [hs0,e1,hc48]
       · have hc48:c ≠ 48:=by intro h;rw [h] at q2;simp at q2
         simp only [go_sem,reduceIte,reduceEqDiff,reduceAdd,reduceMul,reduceSub,reduceLeDiff,reduceLT,Nat.reduceBEq,reduceCtorEq,g0,g8,gH,g4,Nat.lt_irrefl,h1,q1,hp',hc,q2]
         simp [hs0,e1,hc48]
noncomputable def p258:List AV→Option AV:=primOf (α:=(List Nat)) (fun x=>[.str x]) (fun x=>x.length≤maxRows) (fun x=>.tup [i64 (intP x).1,.bool (intP x).2])
theorem pok258:∀ args v,p258 args=some v → ∀ lo H,CallOk NC lo 258 args H v H:=by
 intro args v h
 obtain ⟨x,rfl,hp,rfl⟩:=primOf_inv h
 exact c258 x hp
theorem pe258 (s:List Nat) (hp:s.length≤maxRows):p258 [.str s]=some (.tup [.int .i64 (intP s).1,.bool (intP s).2]):=primOf_enc (α:=(List Nat)) (enc:=fun x=>[.str x]) (pre:=fun x=>x.length≤maxRows) (spec:=fun x=>.tup [i64 (intP x).1,.bool (intP x).2]) (by intro x y h;(simp only [List.cons.injEq,AV.agg.injEq,AV.str.injEq,AV.int.injEq,AV.ps.injEq,AV.bool.injEq,Net.cells_iff,Ln.row_iff,Pc.row_iff,Mv.row_iff,lns_iff,pcs_iff,mvs_iff,strRows_iff,Int.ofNat_inj,true_and,and_true] at h;first | simpa only [Prod.ext_iff] using h | simpa only [Prod.ext_iff,and_assoc] using h)) s hp
noncomputable def p224:List AV→Option AV:=primOf (α:=(List Nat)) (fun x=>[.str x]) (fun x=>x.length≤maxRows) (fun x=>.tup [i64 (intF x).1,.bool (intF x).2])
noncomputable def p215:List AV→Option AV:=primOf (α:=List Nat × Nat) (fun x=>[.str x.1,.str [x.2],.int .i64 0,.int .i64 (-1)]) (fun x=>x.1.length+1≤maxRows) (fun x=>.ps .unk ((splitL x.2 x.1).map strRow))
theorem pok215:∀ args v,p215 args=some v → ∀ lo H,CallOk NC lo 215 args H v H:=by
 intro args v h
 obtain ⟨x,rfl,hp,rfl⟩:=primOf_inv h
 clear h
 revert x
 intro x hp;exact c215 x.1 x.2 hp
theorem pe215 (x:List Nat × Nat) (hp:(fun x=>x.1.length+1≤maxRows) x):p215 ((fun x=>[.str x.1,.str [x.2],.int .i64 0,.int .i64 (-1)]) x)=some ((fun x=>.ps .unk ((splitL x.2 x.1).map strRow)) x):=primOf_enc (by intro x y h;simpa [Prod.ext_iff] using h) x hp
noncomputable def PPF166:FuncId→Option (List AV→Option AV):=addPrim 215 p215 (fun _=>none)
theorem primsF166:PrimsOk NC PPF166:=primsOk_add (primsOk_none) (by kernel_rfl) (by kernel_rfl) pok215
theorem enF166_215:En PPF166 215 p215:=enter_prim (by rfl) (by kernel_rfl)
attribute [go_sem ↓] enF166_215
theorem c166 (s:List Nat) (c:Nat) (hp:s.length+1≤maxRows):∀ lo H,CallOk NC lo 166 [.str s,.str [c]] H (.ps .unk ((splitL c s).map strRow)) H:=by
 refine contract saneNC primsF166 (fn:=Tryz.f166) (by kernel_rfl) Tryz.func166 rfl rfl (by rfl) (by first | rfl | (split<;>first | rfl | (split<;>rfl))) ?_
 have e215:p215 [.str s,.str [c],.int .i64 0,.int .i64 (-1)]=_:=pe215 (s,c) hp
 simp only [go_sem,reduceIte,reduceEqDiff,reduceAdd,reduceMul,reduceSub,reduceLeDiff,reduceLT,Nat.reduceBEq,reduceCtorEq,e215]
noncomputable def p166:List AV→Option AV:=primOf (α:=(List Nat) × (Nat)) (fun x=>[.str x.1,.str [x.2]]) (fun x=>x.1.length+1≤maxRows) (fun x=>.ps .unk ((splitL x.2 x.1).map strRow))
theorem pok166:∀ args v,p166 args=some v → ∀ lo H,CallOk NC lo 166 args H v H:=by
 intro args v h
 obtain ⟨x,rfl,hp,rfl⟩:=primOf_inv h
 exact c166 x.1 x.2 hp
theorem pe166 (s:List Nat) (c:Nat) (hp:s.length+1≤maxRows):p166 [.str s,.str [c]]=some (.ps .unk ((splitL c s).map strRow)):=primOf_enc (α:=(List Nat) × (Nat)) (enc:=fun x=>[.str x.1,.str [x.2]]) (pre:=fun x=>x.1.length+1≤maxRows) (spec:=fun x=>.ps .unk ((splitL x.2 x.1).map strRow)) (by intro x y h;(simp only [List.cons.injEq,AV.agg.injEq,AV.str.injEq,AV.int.injEq,AV.ps.injEq,AV.bool.injEq,Net.cells_iff,Ln.row_iff,Pc.row_iff,Mv.row_iff,lns_iff,pcs_iff,mvs_iff,strRows_iff,Int.ofNat_inj,true_and,and_true] at h;first | simpa only [Prod.ext_iff] using h | simpa only [Prod.ext_iff,and_assoc] using h)) (s,c) hp
noncomputable def PPF93:FuncId→Option (List AV→Option AV):=fun _=>none
theorem primsF93:PrimsOk NC PPF93:=primsOk_none
theorem c93 (s:List Nat) (c:Nat) (hp:s.length+1≤maxRows):∀ lo H,CallOk NC lo 93 [.str s,.int .u8 c] H (.ps .unk ((splitL c s).map strRow)) H:=by
 refine contract saneNC primsF93 (fn:=Tryz.f93) (by kernel_rfl) Tryz.func93 rfl rfl (by rfl) (by first | rfl | (split<;>first | rfl | (split<;>rfl))) ?_
 simp only [go_sem,reduceIte,reduceEqDiff,reduceAdd,reduceMul,reduceSub,reduceLeDiff,reduceLT,Nat.reduceBEq,reduceCtorEq]
 refine W_for (fun k T H M=>M=[]∧getT T 0=.str s∧getT T 1=.int .u8 c∧getT T 7=i64 k ∧ ∃ (fr:Nat) (done:List (List Nat)) (t:Tok),getT T 6=i64 fr∧fr≤k∧done.length≤k∧getT T 5=.ps t (done.map strRow)∧App H t (done.map strRow) 1 9∧splitL c s=done++splitA c ((s.take k).drop fr) (s.drop k)) s.length ?_ ?_ ?_
 · simp only [go_sem,reduceIte,reduceEqDiff,reduceAdd,reduceMul,reduceSub,reduceLeDiff,reduceLT,Nat.reduceBEq,reduceCtorEq]
   exact ⟨0,[],.nil,rfl,Nat.le_refl _,Nat.le_refl _,rfl,.inl ⟨rfl,rfl⟩,rfl⟩
 · rintro k T H M hk ⟨rfl,g0,g1,g7,fr,done,t,g6,hfk,hdl,g5,hA,hs⟩
   obtain ⟨x,hx⟩:∃ c,s[k]? = some c:=⟨s[k],by simp⟩
   have hw:=wrap_succ (k:=k) (n:=maxRows) (by omega) (Nat.le_refl _)
   have sl:=asl_both (s:=s) (i:=fr) (j:=k) hfk (by omega)
   rw [drop_at hx,splitA_cons] at hs
   rcases Classical.propComplete ((x:Int)=(c:Int)) with q | q
   · have hxc:x=c:=by have:=of_eq_true q;omega
     rw [if_pos hxc] at hs
     obtain ⟨t',H1,ha,hB,hn1,hc1,_⟩:=app_any (H:=H) hA (r:=strRow ((s.take k).drop fr)) (by simp;omega) rfl (by decide) (rows_all strRow_len _)
     have hmap:done.map strRow++[(strRow ((s.take k).drop fr)).map AV.strip0]=(done++[(s.take k).drop fr]).map strRow:=by simp [strRow,AV.strip0]
     rw [hmap] at ha hB
     generalize (s.take k).drop fr=cur at sl ha hB hs
     simp only [strRow] at ha
     simp only [go_sem,reduceIte,reduceEqDiff,reduceAdd,reduceMul,reduceSub,reduceLeDiff,reduceLT,Nat.reduceBEq,reduceCtorEq,g0,g1,g5,g6,g7,hk,hx,q,sl,hw,appO,ha]
     refine ⟨k+1,done++[cur],t',rfl,Nat.le_refl _,by simp;omega,rfl,hB, ?_⟩
     rw [hs]
     have:(s.take (k+1)).drop (k+1)=[]:=List.drop_eq_nil_of_le (by rw [List.length_take];omega)
     rw [this];simp
   · have hxc:¬ (x=c):=by intro h;rw [h] at q;simp at q
     rw [if_neg hxc] at hs
     simp only [go_sem,reduceIte,reduceEqDiff,reduceAdd,reduceMul,reduceSub,reduceLeDiff,reduceLT,Nat.reduceBEq,reduceCtorEq,g0,g1,g5,g6,g7,hk,hx,q,hw]
     refine ⟨fr,done,t,rfl,by omega,by omega,rfl,hA, ?_⟩
     rw [hs,List.take_add_one,hx]
     congr 2
     rw [List.drop_append_of_le_length (by rw [List.length_take];omega)];rfl
 · rintro T H M ⟨rfl,g0,g1,g7,fr,done,t,g6,hfk,hdl,g5,hA,hs⟩
   have sl:=asl_lo (s:=s) (i:=fr) hfk
   rw [List.take_length,List.drop_length] at hs
   have hs:splitL c s=done++[s.drop fr]:=hs
   obtain ⟨t',H1,ha,hB,hn1,hc1,_⟩:=app_any (H:=H) hA (r:=strRow (s.drop fr)) (by simp;omega) rfl (by decide) (rows_all strRow_len _)
   have hmap:done.map strRow++[(strRow (s.drop fr)).map AV.strip0]=(splitL c s).map strRow:=by rw [hs];simp [strRow,AV.strip0]
   rw [hmap] at ha
   simp only [strRow] at ha
   simp only [go_sem,reduceIte,reduceEqDiff,reduceAdd,reduceMul,reduceSub,reduceLeDiff,reduceLT,Nat.reduceBEq,reduceCtorEq,g0,g1,g5,g6,g7,Nat.lt_irrefl,sl,appO,ha]
noncomputable def p93:List AV→Option AV:=primOf (α:=(List Nat) × (Nat)) (fun x=>[.str x.1,.int .u8 x.2]) (fun x=>x.1.length+1≤maxRows) (fun x=>.ps .unk ((splitL x.2 x.1).map strRow))
theorem pok93:∀ args v,p93 args=some v → ∀ lo H,CallOk NC lo 93 args H v H:=by
 intro args v h
 obtain ⟨x,rfl,hp,rfl⟩:=primOf_inv h
 exact c93 x.1 x.2 hp
theorem pe93 (s:List Nat) (c:Nat) (hp:s.length+1≤maxRows):p93 [.str s,.int .u8 c]=some (.ps .unk ((splitL c s).map strRow)):=primOf_enc (α:=(List Nat) × (Nat)) (enc:=fun x=>[.str x.1,.int .u8 x.2]) (pre:=fun x=>x.1.length+1≤maxRows) (spec:=fun x=>.ps .unk ((splitL x.2 x.1).map strRow)) (by intro x y h;(simp only [List.cons.injEq,AV.agg.injEq,AV.str.injEq,AV.int.injEq,AV.ps.injEq,AV.bool.injEq,Net.cells_iff,Ln.row_iff,Pc.row_iff,Mv.row_iff,lns_iff,pcs_iff,mvs_iff,strRows_iff,Int.ofNat_inj,true_and,and_true] at h;first | simpa only [Prod.ext_iff] using h | simpa only [Prod.ext_iff,and_assoc] using h)) (s,c) hp
theorem e93_10 (s:List Nat) (h:s.length+1≤maxRows):p93 [.str s,.int .u8 10]=some (.ps .unk ((splitL 10 s).map strRow)):=pe93 s 10 h
noncomputable def p223:List AV→Option AV:=primOf (α:=(List (List Nat))) (fun x=>[.ps .unk (x.map strRow)]) (fun x=>x.length≤maxRows) (fun x=>.bool (filledB x))
end Go.Sim

/-
Texts: the network told to the reference; networks compared.
-/
-- INJ and_self
namespace Go.Sim
open Go Go.Proofs
set_option maxRecDepth 100000
set_option maxHeartbeats 8000000
/-! ### The network told to the reference -/
noncomputable def PPF92:FuncId→Option (List AV→Option AV):=fun _=>none
theorem primsF92:PrimsOk NC PPF92:=primsOk_none
theorem c92 (n:Net) (hp:n.fits∧n.sws.length≤maxRows∧n.sts.length≤maxRows):∀ lo H,CallOk NC lo 92 [.agg n.cells] H (.agg n.cells) H:=by
 refine contract saneNC primsF92 (fn:=Tryz.f92) (by kernel_rfl) Tryz.func92 rfl rfl (by rfl) (by first | rfl | (split<;>first | rfl | (split<;>rfl))) ?_
 obtain ⟨hn,hs,ht⟩:=hp
 simp only [go_sem,reduceIte,reduceEqDiff,reduceAdd,reduceMul,reduceSub,reduceLeDiff,reduceLT,Nat.reduceBEq,reduceCtorEq,Net.cells]
 refine W_for (fun k T H M=>M=[]∧getT T 1=.ptr 0 0∧getT T 2=.ptr 1 0∧getT T 3=.ptr 2 0∧getT T 14=.ps .unk (n.lines.map Ln.row)∧getT T 15=i64 (n.lines.length:Nat)∧getT T 16=i64 k∧H.get 0=.cells n.cells 40∧H.get 1=.cells [.ps .nil [],.ps .nil [],.ps .nil []] 26∧2 < H.n ∧ ∃ t,H.get 2=.cells [.ps t ((n.lines.take k).map Ln.row),.ps .nil [],.ps .nil []] 26∧App H t ((n.lines.take k).map Ln.row) 2 56) n.lines.length ?_ ?_ ?_
 · simp only [go_sem,reduceIte,reduceEqDiff,reduceAdd,reduceMul,reduceSub,reduceLeDiff,reduceLT,Nat.reduceBEq,reduceCtorEq,Net.cells,List.length_map];exact ⟨.nil,by simp,.inl ⟨rfl,rfl⟩⟩
 · rintro k T H M hk ⟨rfl,g1,g2,g3,g14,g15,g16,h0,h1,hh,t,h2,hA⟩
   obtain ⟨l,hp⟩:∃ p,n.lines[k]? = some p:=⟨n.lines[k],by simp⟩
   have hfit:=hn.2 l (List.mem_of_getElem? hp)
   have hr:=map_at (f:=Ln.row) hp
   have hw:=wrap_succ hk hn.1
   have htk:=take_map (f:=Ln.row) hp
   simp only [Ln.row] at hr
   have b0:(0=H.n)=False:=by simp;omega
   have b1:(1=H.n)=False:=by simp;omega
   have b2:(2=H.n)=False:=by simp;omega
   have b3:(H.n=H.n+1)=False:=by simp
   have b4:(0=H.n+1)=False:=by simp
   have b5:(1=H.n+1)=False:=by simp;omega
   have b6:(2=H.n+1)=False:=by simp;omega
   simp only [go_sem,reduceIte,reduceEqDiff,reduceAdd,reduceMul,reduceSub,reduceLeDiff,reduceLT,Nat.reduceBEq,reduceCtorEq,g1,g2,g3,g14,g15,g16,h0,h1,h2,b0,b1,b2,b3,b4,b5,b6,List.length_map,hk,hr]
   refine W_for (fun k2 T' H' M=>M=[]∧getT T' 1=.ptr 0 0∧getT T' 2=.ptr 1 0∧getT T' 3=.ptr 2 0∧getT T' 14=.ps .unk (n.lines.map Ln.row)∧getT T' 15=i64 (n.lines.length:Nat)∧getT T' 16=i64 k∧getT T' 6=.ptr (H.n+1) 0∧getT T' 24=.ps .unk (l.ps.map Pc.row)∧getT T' 25=i64 (l.ps.length:Nat)∧getT T' 26=i64 k2∧H'.get 0=.cells n.cells 40∧H'.get 1=.cells [.ps .nil [],.ps .nil [],.ps .nil []] 26∧H.n+1 < H'.n∧(∃ t,H'.get 2=.cells [.ps t ((n.lines.take k).map Ln.row),.ps .nil [],.ps .nil []] 26∧App H' t ((n.lines.take k).map Ln.row) 2 56) ∧
    ∃ u,H'.get (H.n+1)=.cells [.str l.name,.ps u ((l.ps.take k2).map Pc.row)] 56∧App H' u ((l.ps.take k2).map Pc.row) 3 97) l.ps.length ?_ ?_ ?_
   · simp only [go_sem,reduceIte,reduceEqDiff,reduceAdd,reduceMul,reduceSub,reduceLeDiff,reduceLT,Nat.reduceBEq,reduceCtorEq,g1,g2,g3,g14,g15,g16,h0,h1,h2,b0,b1,b2,b3,b4,b5,b6,Net.cells,List.length_map]
     refine ⟨⟨t,rfl, ?_⟩,.nil,by simp,.inl ⟨rfl,rfl⟩⟩
     exact (hA.fresh _ _ rfl).fresh _ _ rfl
   · rintro k2 T' H' M hk2 ⟨rfl,i1,i2,i3,i14,i15,i16,i6,i24,i25,i26,j0,j1,jh,⟨t',j2,jA⟩,u,ju,jB⟩
     obtain ⟨p,hpp⟩:∃ p,l.ps[k2]? = some p:=⟨l.ps[k2],by simp⟩
     have hpr:=map_at (f:=Pc.row) hpp
     have hw2:=wrap_succ hk2 hfit
     have htk2:=take_map (f:=Pc.row) hpp
     obtain ⟨pl,pq,pb⟩:=p
     simp only [Pc.row] at hpr
     have d0:(0=H'.n)=False:=by simp;omega
     have d1:(1=H'.n)=False:=by simp;omega
     have d2:(2=H'.n)=False:=by simp;omega
     have d3:(H.n+1=H'.n)=False:=by simp;omega
     obtain ⟨u',H1,ha,hB',hn1,hc1,ho1⟩:=app_any (H:=(H'.push (.cells [.int .i64 0,.int .i64 0,.bool false] 200)).set H'.n (.cells [.int .i64 pl,.int .i64 pq,.bool pb] 200)) (jB.fresh _ _ rfl) (r:=[.int .i64 pl,.int .i64 pq,.bool pb]) (by simp;omega) rfl (by decide) (rows_all Pc.row_len _)
     have x1:=hc1 (H.n+1) [.str l.name,.ps u ((l.ps.take k2).map Pc.row)] 56 (by simp;omega) (by rw [Heap.get_set,if_neg (by omega),Heap.get_push,if_neg (by omega)];exact ju)
     have x0:=hc1 0 _ _ (by simp) (by rw [Heap.get_set,if_neg (by omega),Heap.get_push,if_neg (by omega)];exact j0)
     have x01:=hc1 1 _ _ (by simp;omega) (by rw [Heap.get_set,if_neg (by omega),Heap.get_push,if_neg (by omega)];exact j1)
     have x2:=hc1 2 _ _ (by simp;omega) (by rw [Heap.get_set,if_neg (by omega),Heap.get_push,if_neg (by omega)];exact j2)
     have xA:=ho1 _ _ 2 56 (by decide) (jA.fresh (.cells [.int .i64 0,.int .i64 0,.bool false] 200) (.cells [.int .i64 pl,.int .i64 pq,.bool pb] 200) rfl)
     simp only [Heap.n_set,Heap.n_push] at hn1
     simp only [go_sem,reduceIte,reduceEqDiff,reduceAdd,reduceMul,reduceSub,reduceLeDiff,reduceLT,Nat.reduceBEq,reduceCtorEq,i1,i2,i3,i14,i15,i16,i6,i24,i25,i26,d0,d1,d2,d3,b4,b5,b6,ju,List.length_map,hk2,hpr,hw2,appO,isIntT_slice,rowsIn,ha,x1,x0,x01,x2,strip_ps]
     rw [htk2]
     exact ⟨by omega,⟨t',rfl,xA.set _ (by rw [x1];simp)⟩,u',rfl,hB'.set _ (by rw [x1];simp)⟩
   · rintro T' H' M ⟨rfl,i1,i2,i3,i14,i15,i16,i6,i24,i25,i26,j0,j1,jh,⟨t',j2,jA⟩,u,ju,jB⟩
     rw [List.take_length] at ju jB
     obtain ⟨t2,H1,ha,hB',hn1,hc1,ho1⟩:=app_any jA (r:=[.str l.name,.ps .unk (l.ps.map Pc.row)]) (by simp;have:=hn.1;omega) rfl (by decide) (rows_all Ln.row_len _)
     have x0:=hc1 0 _ _ (by omega) j0
     have x01:=hc1 1 _ _ (by omega) j1
     have x2:=hc1 2 _ _ (by omega) j2
     simp only [go_sem,reduceIte,reduceEqDiff,reduceAdd,reduceMul,reduceSub,reduceLeDiff,reduceLT,Nat.reduceBEq,reduceCtorEq,i1,i2,i3,i14,i15,i16,i6,i24,i25,i26,ju,j2,List.length_map,Nat.lt_irrefl,appO,isIntT_slice,rowsIn,ha,x0,x01,x2,strip_ps,hw]
     rw [htk]
     exact ⟨by omega,t2,rfl,hB'.set _ (by rw [x2];simp)⟩
 rintro T H M ⟨rfl,g1,g2,g3,g14,g15,g16,h0,h1,hh,t,h2,hA⟩
 rw [List.take_length] at h2 hA
 simp only [go_sem,reduceIte,reduceEqDiff,reduceAdd,reduceMul,reduceSub,reduceLeDiff,reduceLT,Nat.reduceBEq,reduceCtorEq,g1,g2,g3,g14,g15,g16,h0,h1,h2,Net.cells,List.length_map,Nat.lt_irrefl]
 refine W_for (fun k T H M=>M=[]∧getT T 1=.ptr 0 0∧getT T 2=.ptr 1 0∧getT T 3=.ptr 2 0∧getT T 45=.ps .unk (n.sws.map Sw.row)∧getT T 46=i64 (n.sws.length:Nat)∧getT T 47=i64 k∧H.get 0=.cells n.cells 40∧H.get 1=.cells [.ps .nil [],.ps .nil [],.ps .nil []] 26∧2 < H.n ∧ ∃ u,H.get 2=.cells [.ps t (n.lines.map Ln.row),.ps u ((n.sws.take k).map Sw.row),.ps .nil []] 26∧App H u ((n.sws.take k).map Sw.row) 5 191) n.sws.length ?_ ?_ ?_
 · simp only [go_sem,reduceIte,reduceEqDiff,reduceAdd,reduceMul,reduceSub,reduceLeDiff,reduceLT,Nat.reduceBEq,reduceCtorEq,g1,g2,g3,h0,h1,h2,Net.cells,List.length_map];exact ⟨hh,.nil,by simp,.inl ⟨rfl,rfl⟩⟩
 · rintro k T H M hk ⟨rfl,g1,g2,g3,g14,g15,g16,h0,h1,hh,u,h2,hA⟩
   obtain ⟨l,hp⟩:∃ p,n.sws[k]? = some p:=⟨n.sws[k],by simp⟩
   have hr:=map_at (f:=Sw.row) hp
   have hw:=wrap_succ hk hs
   have htk:=take_map (f:=Sw.row) hp
   simp only [Sw.row] at hr
   have b0:(0=H.n)=False:=by simp;omega
   have b1:(1=H.n)=False:=by simp;omega
   have b2:(2=H.n)=False:=by simp;omega
   obtain ⟨u',H1,ha,hB',hn1,hc1,ho1⟩:=app_any (H:=(H.push (.cells [.str [],.str [],.int .i64 0,.str [],.bool false] 201)).set H.n (.cells [.str l.name,.str l.line,.int .i64 l.metre,.str l.other,.bool l.last] 201)) (hA.fresh _ _ rfl) (r:=[.str l.name,.str l.line,.int .i64 l.metre,.str l.other,.bool l.last]) (by simp;omega) rfl (by decide) (rows_all Sw.row_len _)
   have x0:=hc1 0 _ _ (by simp) (by rw [Heap.get_set,if_neg (by omega),Heap.get_push,if_neg (by omega)];exact h0)
   have x01:=hc1 1 _ _ (by simp;omega) (by rw [Heap.get_set,if_neg (by omega),Heap.get_push,if_neg (by omega)];exact h1)
   have x2:=hc1 2 _ _ (by simp;omega) (by rw [Heap.get_set,if_neg (by omega),Heap.get_push,if_neg (by omega)];exact h2)
   simp only [Heap.n_set,Heap.n_push] at hn1
   simp only [go_sem,reduceIte,reduceEqDiff,reduceAdd,reduceMul,reduceSub,reduceLeDiff,reduceLT,Nat.reduceBEq,reduceCtorEq,g1,g2,g3,g14,g15,g16,h0,h1,h2,b0,b1,b2,List.length_map,hk,hr,hw,appO,isIntT_slice,rowsIn,ha,x0,x01,x2]
   rw [htk]
   exact ⟨by omega,u',rfl,hB'.set _ (by rw [x2];simp)⟩
 rintro T H M ⟨rfl,g1,g2,g3,g14,g15,g16,h0,h1,hh,u,h2,hA⟩
 rw [List.take_length] at h2 hA
 simp only [go_sem,reduceIte,reduceEqDiff,reduceAdd,reduceMul,reduceSub,reduceLeDiff,reduceLT,Nat.reduceBEq,reduceCtorEq,g1,g2,g3,g14,g15,g16,h0,h1,h2,Net.cells,List.length_map,Nat.lt_irrefl]
 refine W_for (fun k T H M=>M=[]∧getT T 1=.ptr 0 0∧getT T 2=.ptr 1 0∧getT T 3=.ptr 2 0∧getT T 59=.ps .unk (n.sts.map Stc.row)∧getT T 60=i64 (n.sts.length:Nat)∧getT T 61=i64 k∧H.get 0=.cells n.cells 40∧H.get 1=.cells [.ps .nil [],.ps .nil [],.ps .nil []] 26∧2 < H.n ∧ ∃ v,H.get 2=.cells [.ps t (n.lines.map Ln.row),.ps u (n.sws.map Sw.row),.ps v ((n.sts.take k).map Stc.row)] 26∧App H v ((n.sts.take k).map Stc.row) 5 193) n.sts.length ?_ ?_ ?_
 · simp only [go_sem,reduceIte,reduceEqDiff,reduceAdd,reduceMul,reduceSub,reduceLeDiff,reduceLT,Nat.reduceBEq,reduceCtorEq,g1,g2,g3,h0,h1,h2,Net.cells,List.length_map];exact ⟨hh,.nil,by simp,.inl ⟨rfl,rfl⟩⟩
 · rintro k T H M hk ⟨rfl,g1,g2,g3,g14,g15,g16,h0,h1,hh,v,h2,hA⟩
   obtain ⟨l,hp⟩:∃ p,n.sts[k]? = some p:=⟨n.sts[k],by simp⟩
   have hr:=map_at (f:=Stc.row) hp
   have hw:=wrap_succ hk ht
   have htk:=take_map (f:=Stc.row) hp
   simp only [Stc.row] at hr
   have b0:(0=H.n)=False:=by simp;omega
   have b1:(1=H.n)=False:=by simp;omega
   have b2:(2=H.n)=False:=by simp;omega
   obtain ⟨u',H1,ha,hB',hn1,hc1,ho1⟩:=app_any (H:=(H.push (.cells [.str [],.str [],.str [],.int .i64 0,.int .i64 0] 202)).set H.n (.cells [.str l.name,.str l.kind,.str l.line,.int .i64 l.fr,.int .i64 l.till] 202)) (hA.fresh _ _ rfl) (r:=[.str l.name,.str l.kind,.str l.line,.int .i64 l.fr,.int .i64 l.till]) (by simp;omega) rfl (by decide) (rows_all Stc.row_len _)
   have x0:=hc1 0 _ _ (by simp) (by rw [Heap.get_set,if_neg (by omega),Heap.get_push,if_neg (by omega)];exact h0)
   have x01:=hc1 1 _ _ (by simp;omega) (by rw [Heap.get_set,if_neg (by omega),Heap.get_push,if_neg (by omega)];exact h1)
   have x2:=hc1 2 _ _ (by simp;omega) (by rw [Heap.get_set,if_neg (by omega),Heap.get_push,if_neg (by omega)];exact h2)
   simp only [Heap.n_set,Heap.n_push] at hn1
   simp only [go_sem,reduceIte,reduceEqDiff,reduceAdd,reduceMul,reduceSub,reduceLeDiff,reduceLT,Nat.reduceBEq,reduceCtorEq,g1,g2,g3,g14,g15,g16,h0,h1,h2,b0,b1,b2,List.length_map,hk,hr,hw,appO,isIntT_slice,rowsIn,ha,x0,x01,x2]
   rw [htk]
   exact ⟨by omega,u',rfl,hB'.set _ (by rw [x2];simp)⟩
 rintro T H M ⟨rfl,g1,g2,g3,g14,g15,g16,h0,h1,hh,v,h2,hA⟩
 rw [List.take_length] at h2 hA
 simp only [go_sem,reduceIte,reduceEqDiff,reduceAdd,reduceMul,reduceSub,reduceLeDiff,reduceLT,Nat.reduceBEq,reduceCtorEq,g1,g2,g3,g14,g15,g16,h0,h1,h2,Net.cells,List.length_map,Nat.lt_irrefl]
noncomputable def p92:List AV→Option AV:=primOf (α:=(Net)) (fun x=>[.agg x.cells]) (fun x=>x.fits∧x.sws.length≤maxRows∧x.sts.length≤maxRows) (fun x=>.agg x.cells)
theorem pok92:∀ args v,p92 args=some v → ∀ lo H,CallOk NC lo 92 args H v H:=by
 intro args v h
 obtain ⟨x,rfl,hp,rfl⟩:=primOf_inv h
 exact c92 x hp
theorem pe92 (n:Net) (hp:n.fits∧n.sws.length≤maxRows∧n.sts.length≤maxRows):p92 [.agg n.cells]=some (.agg n.cells):=primOf_enc (α:=(Net)) (enc:=fun x=>[.agg x.cells]) (pre:=fun x=>x.fits∧x.sws.length≤maxRows∧x.sts.length≤maxRows) (spec:=fun x=>.agg x.cells) (by intro x y h;(simp only [List.cons.injEq,AV.agg.injEq,AV.str.injEq,AV.int.injEq,AV.ps.injEq,AV.bool.injEq,Net.cells_iff,Ln.row_iff,Pc.row_iff,Mv.row_iff,lns_iff,pcs_iff,mvs_iff,and_self,true_and,and_true] at h;first | simpa only [Prod.ext_iff] using h | simpa only [Prod.ext_iff,and_assoc] using h)) n hp
/-! ### Networks compared -/
def andO (x y:Option Bool):Option Bool:=match x with
 | some true=>y
 | some false=>some false
 | none=>none
theorem aeq97_self (a b:Int) (c:Bool):aeqT NC.P 100 97 (.agg [.int .i64 a,.int .i64 b,.bool c]) (.agg [.int .i64 a,.int .i64 b,.bool c])=some true:=by
 have h:aeqT NC.P 100 97 (.agg [.int .i64 a,.int .i64 b,.bool c]) (.agg [.int .i64 a,.int .i64 b,.bool c])=andO (some (eqI a a)) (andO (some (eqI b b)) (andO (some (c == c)) (some true))):=by kernel_rfl
 rw [h,eqI_self,eqI_self,beq_self_eq_true];rfl
theorem aeq191_self (a b d:List Nat) (c:Int) (e:Bool):aeqT NC.P 100 191 (.agg [.str a,.str b,.int .i64 c,.str d,.bool e]) (.agg [.str a,.str b,.int .i64 c,.str d,.bool e])=some true:=by
 have h:aeqT NC.P 100 191 (.agg [.str a,.str b,.int .i64 c,.str d,.bool e]) (.agg [.str a,.str b,.int .i64 c,.str d,.bool e])=andO (some (beqL a a)) (andO (some (beqL b b)) (andO (some (eqI c c)) (andO (some (beqL d d)) (andO (some (e == e)) (some true))))):=by kernel_rfl
 rw [h,beqL_self,beqL_self,eqI_self,beqL_self,beq_self_eq_true];rfl
theorem aeq193_self (a b d:List Nat) (c e:Int):aeqT NC.P 100 193 (.agg [.str a,.str b,.str d,.int .i64 c,.int .i64 e]) (.agg [.str a,.str b,.str d,.int .i64 c,.int .i64 e])=some true:=by
 have h:aeqT NC.P 100 193 (.agg [.str a,.str b,.str d,.int .i64 c,.int .i64 e]) (.agg [.str a,.str b,.str d,.int .i64 c,.int .i64 e])=andO (some (beqL a a)) (andO (some (beqL b b)) (andO (some (beqL d d)) (andO (andO (some (eqI c c)) (andO (some (eqI e e)) (some true))) (some true)))):=by kernel_rfl
 rw [h,beqL_self,beqL_self,beqL_self,eqI_self,eqI_self];rfl
theorem ety97:eqType NC.P 100 97=true:=by kernel_rfl
theorem ety191:eqType NC.P 100 191=true:=by kernel_rfl
theorem ety193:eqType NC.P 100 193=true:=by kernel_rfl
noncomputable def PPF91:FuncId→Option (List AV→Option AV):=fun _=>none
theorem primsF91:PrimsOk NC PPF91:=primsOk_none
theorem c91 (n:Net) (hp:n.fits∧n.sws.length≤maxRows∧n.sts.length≤maxRows):∀ lo H,CallOk NC lo 91 [.agg n.cells,.agg n.cells] H (.bool true) H:=by
 refine contract saneNC primsF91 (fn:=Tryz.f91) (by kernel_rfl) Tryz.func91 rfl rfl (by rfl) (by first | rfl | (split<;>first | rfl | (split<;>rfl))) ?_
 obtain ⟨hn,hs,ht⟩:=hp
 simp only [go_sem,reduceIte,reduceEqDiff,reduceAdd,reduceMul,reduceSub,reduceLeDiff,reduceLT,Nat.reduceBEq,reduceCtorEq,Net.cells,List.length_map]
 refine W_for (fun k T H M=>M=[]∧getT T 2=.ptr 0 0∧getT T 3=.ptr 1 0∧getT T 5=i64 k∧H.get 0=.cells n.cells 26∧H.get 1=.cells n.cells 26) n.lines.length ?_ ?_ ?_
 · simp only [go_sem,reduceIte,reduceEqDiff,reduceAdd,reduceMul,reduceSub,reduceLeDiff,reduceLT,Nat.reduceBEq,reduceCtorEq,Net.cells]
 · rintro k T H M hk ⟨rfl,g2,g3,g5,h0,h1⟩
   obtain ⟨l,hp⟩:∃ p,n.lines[k]? = some p:=⟨n.lines[k],by simp⟩
   have hfit:=hn.2 l (List.mem_of_getElem? hp)
   have hr:=map_at (f:=Ln.row) hp
   have hw:=wrap_succ hk hn.1
   simp only [Ln.row] at hr
   simp only [Net.cells] at h0 h1
   simp only [go_sem,reduceIte,reduceEqDiff,reduceAdd,reduceMul,reduceSub,reduceLeDiff,reduceLT,Nat.reduceBEq,reduceCtorEq,g2,g3,g5,h0,h1,List.length_map,hk,hr,beqL_self]
   refine W_for (fun k2 T' H' M=>M=[]∧H'=H∧getT T' 2=.ptr 0 0∧getT T' 3=.ptr 1 0∧getT T' 5=i64 k∧getT T' 6=i64 k2) l.ps.length ?_ ?_ ?_
   · simp only [go_sem,reduceIte,reduceEqDiff,reduceAdd,reduceMul,reduceSub,reduceLeDiff,reduceLT,Nat.reduceBEq,reduceCtorEq,g2,g3,g5]
   · rintro k2 T' H' M hk2 ⟨rfl,rfl,i2,i3,i5,i6⟩
     obtain ⟨p,hpp⟩:∃ p,l.ps[k2]? = some p:=⟨l.ps[k2],by simp⟩
     have hpr:=map_at (f:=Pc.row) hpp
     have hw2:=wrap_succ hk2 hfit
     obtain ⟨pl,pq,pb⟩:=p
     simp only [Pc.row,i64] at hpr
     simp only [go_sem,reduceIte,reduceEqDiff,reduceAdd,reduceMul,reduceSub,reduceLeDiff,reduceLT,Nat.reduceBEq,reduceCtorEq,i2,i3,i5,i6,h0,h1,List.length_map,hk,hr,hk2,hpr,hw2,ety97,aeq97_self]
   · rintro T' H' M ⟨rfl,rfl,i2,i3,i5,i6⟩
     simp only [go_sem,reduceIte,reduceEqDiff,reduceAdd,reduceMul,reduceSub,reduceLeDiff,reduceLT,Nat.reduceBEq,reduceCtorEq,i2,i3,i5,i6,h0,h1,List.length_map,hk,hr,Nat.lt_irrefl,hw,Net.cells]
 rintro T H M ⟨rfl,g2,g3,g5,h0,h1⟩
 simp only [Net.cells] at h0 h1
 simp only [go_sem,reduceIte,reduceEqDiff,reduceAdd,reduceMul,reduceSub,reduceLeDiff,reduceLT,Nat.reduceBEq,reduceCtorEq,g2,g3,g5,h0,h1,List.length_map,Nat.lt_irrefl]
 refine W_for (fun k T' H' M=>M=[]∧H'=H∧getT T' 2=.ptr 0 0∧getT T' 3=.ptr 1 0∧getT T' 7=i64 k) n.sws.length ?_ ?_ ?_
 · simp only [go_sem,reduceIte,reduceEqDiff,reduceAdd,reduceMul,reduceSub,reduceLeDiff,reduceLT,Nat.reduceBEq,reduceCtorEq,g2,g3]
 · rintro k T' H' M hk ⟨rfl,rfl,i2,i3,i7⟩
   obtain ⟨l,hp⟩:∃ p,n.sws[k]? = some p:=⟨n.sws[k],by simp⟩
   have hr:=map_at (f:=Sw.row) hp
   have hw:=wrap_succ hk hs
   obtain ⟨l1,l2,l3,l4,l5⟩:=l
   simp only [Sw.row,i64] at hr
   simp only [go_sem,reduceIte,reduceEqDiff,reduceAdd,reduceMul,reduceSub,reduceLeDiff,reduceLT,Nat.reduceBEq,reduceCtorEq,i2,i3,i7,h0,h1,List.length_map,hk,hr,hw,ety191,aeq191_self]
 rintro T' H' M ⟨rfl,rfl,i2,i3,i7⟩
 simp only [go_sem,reduceIte,reduceEqDiff,reduceAdd,reduceMul,reduceSub,reduceLeDiff,reduceLT,Nat.reduceBEq,reduceCtorEq,i2,i3,i7,h0,h1,List.length_map,Nat.lt_irrefl]
 refine W_for (fun k T2 H2 M=>M=[]∧H2=H'∧getT T2 2=.ptr 0 0∧getT T2 3=.ptr 1 0∧getT T2 8=i64 k) n.sts.length ?_ ?_ ?_
 · simp only [go_sem,reduceIte,reduceEqDiff,reduceAdd,reduceMul,reduceSub,reduceLeDiff,reduceLT,Nat.reduceBEq,reduceCtorEq,i2,i3]
 · rintro k T2 H2 M hk ⟨rfl,rfl,j2,j3,j8⟩
   obtain ⟨l,hp⟩:∃ p,n.sts[k]? = some p:=⟨n.sts[k],by simp⟩
   have hr:=map_at (f:=Stc.row) hp
   have hw:=wrap_succ hk ht
   obtain ⟨l1,l2,l3,l4,l5⟩:=l
   simp only [Stc.row,i64] at hr
   simp only [go_sem,reduceIte,reduceEqDiff,reduceAdd,reduceMul,reduceSub,reduceLeDiff,reduceLT,Nat.reduceBEq,reduceCtorEq,j2,j3,j8,h0,h1,List.length_map,hk,hr,hw,ety193,aeq193_self]
 rintro T2 H2 M ⟨rfl,rfl,j2,j3,j8⟩
 simp only [go_sem,reduceIte,reduceEqDiff,reduceAdd,reduceMul,reduceSub,reduceLeDiff,reduceLT,Nat.reduceBEq,reduceCtorEq,j2,j3,j8,h0,h1,List.length_map,Nat.lt_irrefl]
noncomputable def p91:List AV→Option AV:=primOf (α:=(Net)) (fun x=>[.agg x.cells,.agg x.cells]) (fun x=>x.fits∧x.sws.length≤maxRows∧x.sts.length≤maxRows) (fun x=>.bool true)
theorem pok91:∀ args v,p91 args=some v → ∀ lo H,CallOk NC lo 91 args H v H:=by
 intro args v h
 obtain ⟨x,rfl,hp,rfl⟩:=primOf_inv h
 exact c91 x hp
theorem pe91 (n:Net) (hp:n.fits∧n.sws.length≤maxRows∧n.sts.length≤maxRows):p91 [.agg n.cells,.agg n.cells]=some (.bool true):=primOf_enc (α:=(Net)) (enc:=fun x=>[.agg x.cells,.agg x.cells]) (pre:=fun x=>x.fits∧x.sws.length≤maxRows∧x.sts.length≤maxRows) (spec:=fun x=>.bool true) (by intro x y h;(simp only [List.cons.injEq,AV.agg.injEq,AV.str.injEq,AV.int.injEq,AV.ps.injEq,AV.bool.injEq,Net.cells_iff,Ln.row_iff,Pc.row_iff,Mv.row_iff,lns_iff,pcs_iff,mvs_iff,and_self,true_and,and_true] at h;first | simpa only [Prod.ext_iff] using h | simpa only [Prod.ext_iff,and_assoc] using h)) n hp
end Go.Sim

/-
Pointers that are not nil.
-/
namespace Go.Sim
open Go Go.Proofs
/-! ### Pointers that are not nil -/
def nilO (v:AV) (K:AV→Prop) (_t:Tag K:=⟨⟩):Prop:=match v with
 | .ptr id off=>K (.ptr id off)
 | .pptr cs=>K (.pptr cs)
 | .fn f a b=>K (.fn f a b)
 | .yld l=>K (.yld l)
 | _=>False
theorem nilO_ptr (id off:Nat) (K:AV→Prop):nilO (.ptr id off) K=K (.ptr id off):=rfl
theorem op_nil {C:Cfg} {rec:Rec} {fid lo:Nat} {T:TT AV} {H:Heap} {K:AV→Heap→Prop} {d:Option Tmp} {t:TypeId} {p:String} {af:Array Edge} {gd:Option (Nat × Bool)} (x:Operand):VO (aop C rec fid lo ⟨d,.nilCheck x,t,p,af,gd⟩ T H) K=AO (evalO C T x) fun v=>nilO v fun v=>K v H:=by
 simp only [aop]
 cases evalO C T x with
 | none=>rfl
 | some v=>cases v<;>rfl
theorem evalO_nili {C:Cfg} {T:TT AV}:evalO C T (.const .nilIface)=some .nili:=rfl
attribute [go_sem ↓] op_nil nilO_ptr
attribute [go_sem] evalO_nili
end Go.Sim

/-
Texts: the plain law: what is printed is parsed, what is parsed is printed.
-/
namespace Go.Sim
open Go Go.Proofs
/-! ### Lines of a text -/
def goG (n:Net) (k:Int) (i:Nat):List Wd→Net × Int × Option Nat
 | []=>(n,k,none)
 | l::r=>match lineF n (splitL 32 l) with
   | none=>(n,k,some i)
   | some (n',k')=>if k' < k then (n,k,some i) else goG n' k' (i+1) r
theorem goG_cons (n:Net) (k:Int) (i:Nat) (l:Wd) (r:List Wd):goG n k i (l::r)=match lineF n (splitL 32 l) with
 | none=>(n,k,some i)
 | some (n',k')=>if k' < k then (n,k,some i) else goG n' k' (i+1) r:=rfl
theorem goG_app:∀ (a b:List Wd) (n:Net) (k:Int) (i:Nat),(goG n k i a).2.2=none→goG n k i (a++b)=goG (goG n k i a).1 (goG n k i a).2.1 (i+a.length) b
 | [],b,n,k,i,_=>rfl
 | l::a,b,n,k,i,h=>by
   rw [List.cons_append,goG_cons,goG_cons n k i l a]
   rw [goG_cons] at h
   cases hl:lineF n (splitL 32 l) with
   | none=>rw [hl] at h;cases h
   | some y =>
     obtain ⟨n',k'⟩:=y
     rw [hl] at h
     simp only at h ⊢
     by_cases hk:k' < k
     · rw [if_pos hk] at h;cases h
     · rw [if_neg hk] at h ⊢
       rw [if_neg hk]
       have e:i+1+a.length=i+(l::a).length:=by rw [List.length_cons];omega
       rw [goG_app a b n' k' (i+1) h,e]
theorem goG_stop:∀ (a b:List Wd) (n:Net) (k:Int) (i j:Nat),(goG n k i a).2.2=some j→(goG n k i (a++b)).2.2=some j
 | [],b,n,k,i,j,h=>by cases h
 | l::a,b,n,k,i,j,h=>by
   rw [List.cons_append,goG_cons]
   rw [goG_cons] at h
   cases hl:lineF n (splitL 32 l) with
   | none=>rw [hl] at h;exact h
   | some y =>
     obtain ⟨n',k'⟩:=y
     rw [hl] at h
     simp only at h ⊢
     by_cases hk:k' < k
     · rw [if_pos hk] at h ⊢;exact h
     · rw [if_neg hk] at h ⊢
       exact goG_stop a b n' k' (i+1) j h
theorem goG_pre {a b:List Wd} {n:Net} {k:Int} {i:Nat} (h:(goG n k i (a++b)).2.2=none):(goG n k i a).2.2=none:=by
 cases hj:(goG n k i a).2.2 with
 | none=>rfl
 | some j=>rw [goG_stop a b n k i j hj] at h;cases h
theorem split_lines:∀ (L:List Wd) (e:Wd),(∀ l ∈ L,10 ∉ l)→10 ∉ e→splitL 10 (L.flatMap (fun l=>l++[10])++e)=L++[e]
 | [],e,_,h=>by
   show splitL 10 ([]++e)=_
   rw [List.nil_append];exact splitL_none h
 | l::L,e,hL,he=>by
   have ih:=split_lines L e (fun x hx=>hL x (by simp [hx])) he
   show splitA 10 [] ((l++[10])++L.flatMap (fun l=>l++[10])++e)=_
   have e1:(l++[10])++L.flatMap (fun l=>l++[10])++e=l++10::(L.flatMap (fun l=>l++[10])++e):=by simp
   rw [e1,splitA_app l [] _ (hL l (by simp))]
   unfold splitL at ih
   rw [ih];simp
/-! ### What is printed -/
def pcTx (p:Pc):Wd:=joinC 32 [sPiece,itoaL p.len,itoaL p.post,if p.back then sDown else sUp]
def lnTx (l:Ln):List Wd:=joinC 32 [sLine,l.name]::l.ps.map pcTx
def swTx (s:Sw):Wd:=joinC 32 [sSwitch,s.name,s.line,itoaL s.metre,s.other,if s.last then sLast else sFirst]
def stTx (s:Stc):Wd:=joinC 32 [sStructure,s.name,s.kind,s.line,itoaL s.fr,itoaL s.till]
def txLines (n:Net):List Wd:=n.lines.flatMap lnTx++n.sws.map swTx++n.sts.map stTx
def printF (n:Net):Wd:=(txLines n).flatMap fun l=>l++[10]
def numOk (x:Int):Prop:=0≤x∧x < 1000000000
structure PrOk (n:Net):Prop where
 line:∀ l ∈ n.lines,nameB l.name=true ∧ ∀ p ∈ l.ps,numOk p.len∧numOk p.post
 sw:∀ s ∈ n.sws,nameB s.name=true∧nameB s.line=true∧numOk s.metre∧nameB s.other=true
 st:∀ s ∈ n.sts,nameB s.name=true∧nameB s.kind=true∧nameB s.line=true∧numOk s.fr∧numOk s.till
theorem no10_join:∀ {ws:List Wd},(∀ w ∈ ws,cleanW w)→10 ∉ joinC 32 ws
 | [],_=>by simp [joinC]
 | [w],h=>(h w (by simp)).2
 | w::v::r,h=>by
   show 10 ∉ w++32::joinC 32 (v::r)
   have:=no10_join (ws:=v::r) (fun u hu=>h u (by simp [hu]))
   simp only [List.mem_append,List.mem_cons,not_or]
   exact ⟨(h w (by simp)).2,by decide,this⟩
theorem words_of {ws:List Wd} (h0:ws ≠ []) (h:∀ w ∈ ws,cleanW w):splitL 32 (joinC 32 ws)=ws:=split_join h0 fun w hw=>(h w hw).1
theorem pc_words {p:Pc} (h:numOk p.len∧numOk p.post):∀ w ∈ [sPiece,itoaL p.len,itoaL p.post,if p.back then sDown else sUp],cleanW w:=by
 intro w hw
 simp only [List.mem_cons,List.not_mem_nil,or_false] at hw
 rcases hw with rfl | rfl | rfl | rfl
 · exact ⟨by decide,by decide⟩
 · exact (clean_itoa h.1.1 h.1.2).1
 · exact (clean_itoa h.2.1 h.2.2).1
 · split<;>exact ⟨by decide,by decide⟩
theorem ln_words {s:Wd} (h:nameB s=true):∀ w ∈ [sLine,s],cleanW w:=by
 intro w hw
 simp only [List.mem_cons,List.not_mem_nil,or_false] at hw
 rcases hw with rfl | rfl
 · exact ⟨by decide,by decide⟩
 · exact (clean_name h).1
theorem sw_words {s:Sw} (h:nameB s.name=true∧nameB s.line=true∧numOk s.metre∧nameB s.other=true):∀ w ∈ [sSwitch,s.name,s.line,itoaL s.metre,s.other,if s.last then sLast else sFirst],cleanW w:=by
 intro w hw
 simp only [List.mem_cons,List.not_mem_nil,or_false] at hw
 rcases hw with rfl | rfl | rfl | rfl | rfl | rfl
 · exact ⟨by decide,by decide⟩
 · exact (clean_name h.1).1
 · exact (clean_name h.2.1).1
 · exact (clean_itoa h.2.2.1.1 h.2.2.1.2).1
 · exact (clean_name h.2.2.2).1
 · split<;>exact ⟨by decide,by decide⟩
theorem st_words {s:Stc} (h:nameB s.name=true∧nameB s.kind=true∧nameB s.line=true∧numOk s.fr∧numOk s.till):∀ w ∈ [sStructure,s.name,s.kind,s.line,itoaL s.fr,itoaL s.till],cleanW w:=by
 intro w hw
 simp only [List.mem_cons,List.not_mem_nil,or_false] at hw
 rcases hw with rfl | rfl | rfl | rfl | rfl | rfl
 · exact ⟨by decide,by decide⟩
 · exact (clean_name h.1).1
 · exact (clean_name h.2.1).1
 · exact (clean_name h.2.2.1).1
 · exact (clean_itoa h.2.2.2.1.1 h.2.2.2.1.2).1
 · exact (clean_itoa h.2.2.2.2.1 h.2.2.2.2.2).1
theorem tx_clean {n:Net} (h:PrOk n):∀ l ∈ txLines n,10 ∉ l∧l ≠ []:=by
 have ne:∀ (a:Wd) (r:List Wd),a ≠ []→r ≠ []→joinC 32 (a::r) ≠ []:=by
  intro a r ha hr
  match r,hr with
  | b::r,_=>simp [joinC]
 intro l hl
 unfold txLines at hl
 rw [List.mem_append,List.mem_append] at hl
 rcases hl with (hl | hl) | hl
 · obtain ⟨x,hx,hl⟩:=List.mem_flatMap.1 hl
   rcases List.mem_cons.1 hl with rfl | hl
   · exact ⟨no10_join (ln_words (h.line x hx).1),ne _ _ (by decide) (by simp)⟩
   · obtain ⟨p,hp,rfl⟩:=List.mem_map.1 hl
     exact ⟨no10_join (pc_words ((h.line x hx).2 p hp)),ne _ _ (by decide) (by simp)⟩
 · obtain ⟨x,hx,rfl⟩:=List.mem_map.1 hl
   exact ⟨no10_join (sw_words (h.sw x hx)),ne _ _ (by decide) (by simp)⟩
 · obtain ⟨x,hx,rfl⟩:=List.mem_map.1 hl
   exact ⟨no10_join (st_words (h.st x hx)),ne _ _ (by decide) (by simp)⟩
/-! ### What is printed is parsed -/
theorem lineF_line (n:Net) {a:Wd} (h:a ≠ []):lineF n [sLine,a]=some (n.addLine a,0):=if_pos ⟨rfl,h⟩
theorem lineF_piece (n:Net) {a b c:Wd} (h1:(intF a).2=true) (h2:(intF b).2=true) (h3:c=sUp∨c=sDown) (h4:n.lines ≠ []):lineF n [sPiece,a,b,c]=some (n.addPiece ⟨(intF a).1,(intF b).1,decide (c=sDown)⟩,0):=if_pos ⟨rfl,h1,h2,h3,h4⟩
theorem lineF_switch (n:Net) {a b c d e:Wd} (h1:a ≠ []) (h2:b ≠ []) (h3:(intF c).2=true) (h4:d ≠ []) (h5:e=sFirst∨e=sLast):lineF n [sSwitch,a,b,c,d,e]=some (n.addSwitch ⟨a,b,(intF c).1,d,decide (e=sLast)⟩,1):=if_pos ⟨rfl,h1,h2,h3,h4,h5⟩
theorem lineF_struct (n:Net) {a b c d e:Wd} (h1:a ≠ []) (h2:b ≠ []) (h3:c ≠ []) (h4:(intF d).2=true) (h5:(intF e).2=true):lineF n [sStructure,a,b,c,d,e]=some (n.addStruct ⟨a,b,c,(intF d).1,(intF e).1⟩,2):=by
 have hd:¬ (sStructure=sSwitch∧a ≠ []∧b ≠ []∧(intF c).2=true∧d ≠ []∧(e=sFirst∨e=sLast)):=fun h=>absurd h.1 (by decide)
 have e:lineF n [sStructure,a,b,c,d,e]=ite (sStructure=sSwitch∧a ≠ []∧b ≠ []∧(intF c).2=true∧d ≠ []∧(e=sFirst∨e=sLast)) (some (n.addSwitch ⟨a,b,(intF c).1,d,decide (e=sLast)⟩,1))
  (ite (sStructure=sStructure∧a ≠ []∧b ≠ []∧c ≠ []∧(intF d).2=true∧(intF e).2=true) (some (n.addStruct ⟨a,b,c,(intF d).1,(intF e).1⟩,2)) none):=rfl
 rw [e,if_neg hd]
 exact if_pos ⟨rfl,h1,h2,h3,h4,h5⟩
theorem go_pieces:∀ (ps:List Pc) (L:List Ln) (s:Wd) (q:List Pc) (a:List Sw) (b:List Stc) (i:Nat),(∀ p ∈ ps,numOk p.len∧numOk p.post) →
 goG ⟨L++[⟨s,q⟩],a,b⟩ 0 i (ps.map pcTx)=(⟨L++[⟨s,q++ps⟩],a,b⟩,0,none)
 | [],L,s,q,a,b,i,_=>by simp [goG]
 | p::ps,L,s,q,a,b,i,h=>by
   have hp:=h p (by simp)
   have ih:=go_pieces ps L s (q++[p]) a b (i+1) fun x hx=>h x (by simp [hx])
   rw [List.map_cons]
   unfold goG
   have e1:splitL 32 (pcTx p)=[sPiece,itoaL p.len,itoaL p.post,if p.back then sDown else sUp]:=words_of (by simp) (pc_words hp)
   have e2:lineF ⟨L++[⟨s,q⟩],a,b⟩ [sPiece,itoaL p.len,itoaL p.post,if p.back then sDown else sUp]=some (⟨L++[⟨s,q++[p]⟩],a,b⟩,0):=by
    have hd:¬ (sUp=sDown):=by decide
    rw [lineF_piece _ (by rw [intF_itoa hp.1.1 hp.1.2]) (by rw [intF_itoa hp.2.1 hp.2.2]) (by cases p.back<;>simp) (by simp),intF_itoa hp.1.1 hp.1.2,intF_itoa hp.2.1 hp.2.2]
    unfold Net.addPiece
    rw [addPc_snoc]
    obtain ⟨p1,p2,p3⟩:=p
    cases p3<;>simp [hd]
   rw [e1,e2]
   simp only
   rw [if_neg (by decide),ih]
   simp
theorem go_lines:∀ (ls L:List Ln) (a:List Sw) (b:List Stc) (i:Nat),(∀ l ∈ ls,nameB l.name=true ∧ ∀ p ∈ l.ps,numOk p.len∧numOk p.post) →
 goG ⟨L,a,b⟩ 0 i (ls.flatMap lnTx)=(⟨L++ls,a,b⟩,0,none)
 | [],L,a,b,i,_=>by simp [goG]
 | l::ls,L,a,b,i,h=>by
   obtain ⟨h1,h2⟩:=h l (by simp)
   rw [List.flatMap_cons]
   have e1:splitL 32 (joinC 32 [sLine,l.name])=[sLine,l.name]:=words_of (by simp) (ln_words h1)
   have e2:lineF ⟨L,a,b⟩ [sLine,l.name]=some (⟨L++[⟨l.name,[]⟩],a,b⟩,0):=by
    rw [lineF_line _ (clean_name h1).2];rfl
   have e3:goG ⟨L,a,b⟩ 0 i (lnTx l)=(⟨L++[l],a,b⟩,0,none):=by
    unfold lnTx goG
    rw [e1,e2]
    simp only
    rw [if_neg (by decide),go_pieces l.ps L l.name [] a b (i+1) h2]
    simp
   rw [goG_app _ _ _ _ _ (by rw [e3]),e3]
   simp only
   rw [go_lines ls (L++[l]) a b _ fun x hx=>h x (by simp [hx])]
   simp
theorem go_sws:∀ (ss:List Sw) (L:List Ln) (a:List Sw) (b:List Stc) (k:Int) (i:Nat),k≤1→(∀ s ∈ ss,nameB s.name=true∧nameB s.line=true∧numOk s.metre∧nameB s.other=true) →
 (goG ⟨L,a,b⟩ k i (ss.map swTx)).1=⟨L,a++ss,b⟩∧(goG ⟨L,a,b⟩ k i (ss.map swTx)).2.1≤1∧(goG ⟨L,a,b⟩ k i (ss.map swTx)).2.2=none
 | [],L,a,b,k,i,hk,_=>by simp [goG,hk]
 | s::ss,L,a,b,k,i,hk,h=>by
   have hs:=h s (by simp)
   have ih:=go_sws ss L (a++[s]) b 1 (i+1) (Int.le_refl _) fun x hx=>h x (by simp [hx])
   have e1:splitL 32 (swTx s)=[sSwitch,s.name,s.line,itoaL s.metre,s.other,if s.last then sLast else sFirst]:=words_of (by simp) (sw_words hs)
   have e2:lineF ⟨L,a,b⟩ [sSwitch,s.name,s.line,itoaL s.metre,s.other,if s.last then sLast else sFirst]=some (⟨L,a++[s],b⟩,1):=by
    have hd:¬ (sFirst=sLast):=by decide
    rw [lineF_switch _ (clean_name hs.1).2 (clean_name hs.2.1).2 (by rw [intF_itoa hs.2.2.1.1 hs.2.2.1.2]) (clean_name hs.2.2.2).2 (by cases s.last<;>simp),intF_itoa hs.2.2.1.1 hs.2.2.1.2]
    obtain ⟨s1,s2,s3,s4,s5⟩:=s
    cases s5<;>simp [Net.addSwitch,hd]
   have e3:goG ⟨L,a,b⟩ k i ((s::ss).map swTx)=goG ⟨L,a++[s],b⟩ 1 (i+1) (ss.map swTx):=by
    rw [List.map_cons]
    unfold goG
    rw [e1,e2]
    simp only
    rw [if_neg (by omega)]
    cases ss<;>rfl
   rw [e3]
   simpa using ih
theorem go_sts:∀ (ss:List Stc) (L:List Ln) (a:List Sw) (b:List Stc) (k:Int) (i:Nat),k≤2→(∀ s ∈ ss,nameB s.name=true∧nameB s.kind=true∧nameB s.line=true∧numOk s.fr∧numOk s.till) →
 (goG ⟨L,a,b⟩ k i (ss.map stTx)).1=⟨L,a,b++ss⟩∧(goG ⟨L,a,b⟩ k i (ss.map stTx)).2.2=none
 | [],L,a,b,k,i,hk,_=>by simp [goG]
 | s::ss,L,a,b,k,i,hk,h=>by
   have hs:=h s (by simp)
   have ih:=go_sts ss L a (b++[s]) 2 (i+1) (Int.le_refl _) fun x hx=>h x (by simp [hx])
   have e1:splitL 32 (stTx s)=[sStructure,s.name,s.kind,s.line,itoaL s.fr,itoaL s.till]:=words_of (by simp) (st_words hs)
   have e2:lineF ⟨L,a,b⟩ [sStructure,s.name,s.kind,s.line,itoaL s.fr,itoaL s.till]=some (⟨L,a,b++[s]⟩,2):=by
    rw [lineF_struct _ (clean_name hs.1).2 (clean_name hs.2.1).2 (clean_name hs.2.2.1).2 (by rw [intF_itoa hs.2.2.2.1.1 hs.2.2.2.1.2]) (by rw [intF_itoa hs.2.2.2.2.1 hs.2.2.2.2.2]),intF_itoa hs.2.2.2.1.1 hs.2.2.2.1.2,intF_itoa hs.2.2.2.2.1 hs.2.2.2.2.2]
    rfl
   have e3:goG ⟨L,a,b⟩ k i ((s::ss).map stTx)=goG ⟨L,a,b++[s]⟩ 2 (i+1) (ss.map stTx):=by
    rw [List.map_cons]
    unfold goG
    rw [e1,e2]
    simp only
    rw [if_neg (by omega)]
    cases ss<;>rfl
   rw [e3]
   simpa using ih
theorem go_print {n:Net} (h:PrOk n):(goG zNet 0 0 (txLines n)).1=n∧(goG zNet 0 0 (txLines n)).2.2=none:=by
 obtain ⟨L,a,b⟩:=n
 unfold txLines
 have e1:=go_lines L [] [] [] 0 h.line
 have e1':goG zNet 0 0 (L.flatMap lnTx)=(⟨L,[],[]⟩,0,none):=by unfold zNet;simpa using e1
 obtain ⟨f1,f2,f3⟩:=go_sws a L [] [] 0 (0+(L.flatMap lnTx).length) (by decide) h.sw
 rw [List.append_assoc,goG_app _ _ _ _ _ (by rw [e1']),e1']
 simp only
 rw [goG_app _ _ _ _ _ f3,f1]
 simp only [List.nil_append]
 obtain ⟨g1,g2⟩:=go_sts b L a [] (goG ⟨L,[],[]⟩ 0 (0+(L.flatMap lnTx).length) (a.map swTx)).2.1 (0+(L.flatMap lnTx).length+(a.map swTx).length) (by omega) h.st
 rw [g1,g2]
 simp
/-! ### What is parsed is printed -/
structure KInv (n:Net) (k:Int):Prop where
 kv:k=0∨k=1∨k=2
 z:k=0→n.sws=[]∧n.sts=[]
 o:k=1→n.sts=[]
theorem line_print {n m:Net} {k k':Int} {l:Wd} (hI:KInv n k) (h:lineF n (splitL 32 l)=some (m,k')) (hk:¬ k' < k):txLines m=txLines n++[l]∧KInv m k':=by
 have hj:=join_splitL 32 l
 have hk3:=hI.kv
 generalize splitL 32 l=w at h hj
 obtain ⟨L,a,b⟩:=n
 unfold lineF at h
 split at h
 · rename_i hd x
   split at h
   · rename_i hc
     cases h
     obtain ⟨rfl,hx⟩:=hc
     have hk0:k=0:=by omega
     obtain ⟨rfl,rfl⟩:=hI.z hk0
     refine ⟨?_,.inl rfl,fun _=>⟨rfl,rfl⟩,fun h=>absurd h (by decide)⟩
     unfold Net.addLine txLines
     simp [List.flatMap_append,lnTx,hj]
   · cases h
 · rename_i hd x y z
   split at h
   · rename_i hc
     cases h
     obtain ⟨rfl,h1,h2,h3,h4⟩:=hc
     have hk0:k=0:=by omega
     obtain ⟨rfl,rfl⟩:=hI.z hk0
     refine ⟨?_,.inl rfl,fun _=>⟨rfl,rfl⟩,fun h=>absurd h (by decide)⟩
     rcases List.eq_nil_or_concat L with rfl | ⟨L',e,rfl⟩
     · exact absurd rfl h4
     rw [List.concat_eq_append]
     unfold Net.addPiece txLines
     simp only
     rw [addPc_snoc]
     have e1:pcTx ⟨(intF x).1,(intF y).1,decide (z=sDown)⟩=l:=by
      unfold pcTx
      simp only [(itoa_intF h1).1,(itoa_intF h2).1]
      rw [← hj]
      have hd:¬ (sUp=sDown):=by decide
      rcases h3 with rfl | rfl<;>simp [hd]
     simp [List.flatMap_append,lnTx,e1]
   · cases h
 · rename_i hd x y z u v
   split at h
   · rename_i hc
     cases h
     obtain ⟨rfl,h1,h2,h3,h4,h5⟩:=hc
     have hb:b=[]:=by
      rcases hk3 with h | h | h
      · exact (hI.z h).2
      · exact hI.o h
      · omega
     subst hb
     refine ⟨?_,.inr (.inl rfl),fun h=>absurd h (by decide),fun _=>rfl⟩
     have e1:swTx ⟨x,y,(intF z).1,u,decide (v=sLast)⟩=l:=by
      unfold swTx
      simp only [(itoa_intF h3).1]
      rw [← hj]
      have hd:¬ (sFirst=sLast):=by decide
      rcases h5 with rfl | rfl<;>simp [hd]
     unfold Net.addSwitch txLines
     simp [e1]
   · split at h
     · rename_i _ hc
       cases h
       obtain ⟨rfl,h1,h2,h3,h4,h5⟩:=hc
       refine ⟨?_,.inr (.inr rfl),fun h=>absurd h (by decide),fun h=>absurd h (by decide)⟩
       have e1:stTx ⟨x,y,z,(intF u).1,(intF v).1⟩=l:=by
        unfold stTx
        simp only [(itoa_intF h4).1,(itoa_intF h5).1]
        rw [← hj]
       unfold Net.addStruct txLines
       simp [e1]
     · cases h
 · cases h
theorem go_reprint:∀ (ls:List Wd) (n:Net) (k:Int) (i:Nat),KInv n k→(goG n k i ls).2.2=none→txLines (goG n k i ls).1=txLines n++ls
 | [],n,k,i,_,_=>by simp [goG]
 | l::ls,n,k,i,hI,h=>by
   unfold goG at h ⊢
   split
   · rename_i hl;rw [hl] at h;cases h
   · rename_i n' k' hl
     rw [hl] at h
     simp only at h ⊢
     split
     · rename_i hk;rw [if_pos hk] at h;cases h
     · rename_i hk
       rw [if_neg hk] at h
       obtain ⟨h1,h2⟩:=line_print hI hl hk
       rw [go_reprint ls n' k' (i+1) h2 h,h1]
       simp
theorem join_lines:∀ (L:List Wd) (e:Wd),joinC 10 (L++[e])=L.flatMap (fun l=>l++[10])++e
 | [],e=>rfl
 | l::L,e=>by
   have ih:=join_lines L e
   cases hL:L++[e] with
   | nil=>simp at hL
   | cons b r =>
     rw [List.cons_append,hL]
     show l++10::joinC 10 (b::r)=_
     rw [← hL,ih];simp
def lastW (l:List Wd):Wd:=l.getLast?.getD []
theorem split_snoc (c:Nat) (s:Wd):splitL c s=(splitL c s).dropLast++[lastW (splitL c s)]:=by
 have h:splitL c s ≠ []:=fun e=>by have:=splitL_len c s;rw [e] at this;simp at this
 unfold lastW
 rw [List.getLast?_eq_some_getLast h]
 exact (List.dropLast_concat_getLast h).symm
theorem text_lines (s:Wd):s=(splitL 10 s).dropLast.flatMap (fun l=>l++[10])++lastW (splitL 10 s):=by
 have h:=join_splitL 10 s
 rw [split_snoc,join_lines] at h
 exact h.symm
end Go.Sim

/-
Short forms: parts of moves, their order, composed moves.
-/
namespace Go.Sim
open Go Go.Proofs
set_option maxRecDepth 100000
set_option maxHeartbeats 8000000
theorem ety4:eqType NC.P 100 4=true:=by kernel_rfl
theorem aeq4 (a b:Bool):aeqT NC.P 100 4 (.bool a) (.bool b)=some (a == b):=by cases a<;>cases b<;>kernel_rfl
theorem beq_tt:(true == true)=true:=rfl
theorem beq_tf:(true == false)=false:=rfl
theorem beq_ft:(false == true)=false:=rfl
theorem beq_ff:(false == false)=true:=rfl
attribute [go_sem] ety4 aeq4 beq_tt beq_tf beq_ft beq_ff
end Go.Sim

/-
The plain law of ways: walks over switches, what is cut out of them, and their order.
-/
namespace Go.Sim
structure Leg where
 line:List Nat
 fr:Int
 to:Int
abbrev Pt:Type:=List Nat × Int
section
variable (E:Nat→Bool→Pt) (N:Nat)
end
section
variable (ix:List Nat→Int)
variable {S:List Nat→Prop} (inj:∀ s t,S s→S t→ix s=ix t→s=t)
include inj
end
section
variable (ix:List Nat→Int)
variable {S:List Nat→Prop} (inj:∀ s t,S s→S t→ix s=ix t→s=t)
include inj
end
end Go.Sim

/-
Further facts on the types and the regions of this program (2).
-/
namespace Go.Sim
open Go Go.Proofs
theorem bs_26 (parts:List (Nat × AV)):abuild NC.P 26 parts=match afill (fun i=>fplace 26 i) [.ps .nil [],.ps .nil [],.ps .nil []] parts with
 | some cs=>some (.agg cs)
 | none=>none:=by kernel_rfl
theorem fp_26_0:fplace 26 0=some (0,1):=by kernel_rfl
theorem fp_26_1:fplace 26 1=some (1,1):=by kernel_rfl
theorem fp_26_2:fplace 26 2=some (2,1):=by kernel_rfl
theorem un_399:NC.P.underlying 399=some (.array 20 361):=by kernel_rfl
theorem sz_361:szOf NC.P 361=some 1:=by kernel_rfl
theorem ag_361:aggOf NC.P 361=some false:=by kernel_rfl
theorem ze_400:zeroOf NC.P 400=some (.agg [.int .u8 0,.int .u8 0,.int .u8 0,.int .u8 0,.int .u8 0,.int .u8 0,.int .u8 0,.int .u8 0,.int .u8 0,.int .u8 0,.int .u8 0,.int .u8 0,.int .u8 0,.int .u8 0,.int .u8 0,.int .u8 0,.int .u8 0,.int .u8 0,.int .u8 0,.int .u8 0,.int .u8 0,.int .u8 0,.int .u8 0,.int .u8 0,.int .u8 0,.int .u8 0,.int .u8 0,.int .u8 0,.int .u8 0,.int .u8 0,.int .u8 0,.int .u8 0,.int .u8 0,.int .u8 0,.int .u8 0,.int .u8 0,.int .u8 0,.int .u8 0,.int .u8 0,.int .u8 0,.int .u8 0,.int .u8 0,.int .u8 0,.int .u8 0,.int .u8 0,.int .u8 0,.int .u8 0,.int .u8 0,.int .u8 0,.int .u8 0,.int .u8 0,.int .u8 0,.int .u8 0,.int .u8 0,.int .u8 0,.int .u8 0,.int .u8 0,.int .u8 0,.int .u8 0,.int .u8 0,.int .u8 0,.int .u8 0,.int .u8 0,.int .u8 0,.int .u8 0]):=by kernel_rfl
theorem un_400:NC.P.underlying 400=some (.array 65 5):=by kernel_rfl
theorem un_402:NC.P.underlying 402=some (.array 256 5):=by kernel_rfl
theorem un_405:NC.P.underlying 405=some (.array 16 404):=by kernel_rfl
theorem sz_404:szOf NC.P 404=some 2:=by kernel_rfl
theorem ag_404:aggOf NC.P 404=some true:=by kernel_rfl
theorem ze_404:zeroOf NC.P 404=some (.agg [.int .u8 0,.int .u8 0]):=by kernel_rfl
theorem fa_404_0 (id off:Nat):afieldAddr NC.P 404 (.ptr id off) 0=some (.ptr id (off+0)):=by kernel_rfl
theorem fb_404_0 (cs:List AV):afieldAddr NC.P 404 (.pptr cs) 0=some (.pptr (cs.drop 0)):=by kernel_rfl
theorem fa_404_1 (id off:Nat):afieldAddr NC.P 404 (.ptr id off) 1=some (.ptr id (off+1)):=by kernel_rfl
theorem fb_404_1 (cs:List AV):afieldAddr NC.P 404 (.pptr cs) 1=some (.pptr (cs.drop 1)):=by kernel_rfl
attribute [go_sem] bs_26 fp_26_0 fp_26_1 fp_26_2 un_399 sz_361 ag_361 ze_400 un_400 un_402 un_405 sz_404
attribute [go_sem] ag_404 ze_404 fa_404_0 fb_404_0 fa_404_1 fb_404_1
end Go.Sim

/-
Ways: data; lengths of legs; how routes compare, by the program.
-/
-- INJ Leg.row_iff lgs_iff
namespace Go.Sim
open Go Go.Proofs
set_option maxRecDepth 100000
set_option maxHeartbeats 16000000
def Leg.row (l:Leg):List AV:=[.str l.line,i64 l.fr,i64 l.to]
variable {P:FuncId→Option (List AV→Option AV)}
end Go.Sim

/-
Ways: the best routes to all ends, by the program.
-/
-- INJ Leg.row_iff lgs_iff
namespace Go.Sim
open Go Go.Proofs
set_option maxRecDepth 100000
set_option maxHeartbeats 64000000
variable {P:FuncId→Option (List AV→Option AV)}
/-! ### Sums are small -/
def inR (x:Int):Prop:=0≤x∧x≤800000
end Go.Sim

/-
Ways: what a valid network holds to.
-/
namespace Go.Sim
open Go Go.Proofs
set_option maxRecDepth 100000
set_option maxHeartbeats 4000000
theorem firstI_mem0:∀ {es:List Int},firstI es=0 → ∀ e ∈ es,e=0
 | [],_,e,he=>by cases he
 | x::r,h,e,he=>by
   have h':(if x=0 then firstI r else x)=0:=h
   by_cases hx:x=0
   · rw [if_pos hx] at h'
     rcases List.mem_cons.1 he with rfl | he
     · exact hx
     · exact firstI_mem0 h' e he
   · rw [if_neg hx] at h';exact absurd h' hx
theorem allR_mem0 {f:Nat→Int} {n:Nat} (h:allR f n=0):∀ i,i < n→f i=0:=fun i hi=>firstI_mem0 h _ (List.mem_map.2 ⟨i,List.mem_range.2 hi,rfl⟩)
theorem when_zero {b:Bool} {e:Int} (he:e ≠ 0) (h:whenI b e=0):b=false:=by
 cases b with
 | false=>rfl
 | true=>exact absurd h he
theorem netP_parts {n:Net} (h:netP n=0):linesP n.lines=0∧switchesP n=0:=by
 unfold netP at h
 by_cases hl:linesP n.lines=0
 · rw [if_pos hl] at h
   exact ⟨hl,firstI_mem0 h _ (by simp)⟩
 · rw [if_neg hl] at h;exact absurd h hl
theorem line_zero {ls:List Ln} (h:linesP ls=0):∀ i l,ls[i]? = some l→dupP ((ls.take i).map Ln.name) l.name=false∧0 < l.ps.length∧l.ps.length≤8 ∧ ∀ p ∈ l.ps,1≤p.len∧p.len≤100000:=by
 intro i l hl
 unfold linesP at h
 split at h
 · cases h
 have hi:=(List.getElem?_eq_some_iff.1 hl).1
 have h1:=allR_mem0 h i hi
 unfold lineP at h1
 rw [hl] at h1
 simp only [] at h1
 split at h1
 · rename_i h2
   have z:=firstI_mem0 h2
   have z1:=when_zero (by decide) (z _ (List.mem_cons_of_mem _ (List.mem_cons_self ..)))
   have z2:=when_zero (by decide) (z _ (List.mem_cons_of_mem _ (List.mem_cons_of_mem _ (List.mem_cons_self ..))))
   have z3:=when_zero (by decide) (z _ (List.mem_cons_of_mem _ (List.mem_cons_of_mem _ (List.mem_cons_of_mem _ (List.mem_cons_self ..)))))
   simp only [decide_eq_false_iff_not] at z2 z3
   refine ⟨z1,by omega,by omega,fun p hp => ?_⟩
   have z4:=firstI_mem0 (firstI_mem0 h1 _ (List.mem_map.2 ⟨p,hp,rfl⟩)) (rangeI p.len 1 100000) (by simp)
   have z5:=when_zero (by decide) z4
   simp only [Bool.or_eq_false_iff,decide_eq_false_iff_not] at z5
   omega
 · rename_i h2;exact absurd h1 h2
theorem sumW_le:∀ {ps:List Pc} {s:Int},(∀ p ∈ ps,1≤p.len∧p.len≤100000)→0≤s→s+100000 * ps.length≤800000→s+ps.length≤sumW ps s∧sumW ps s≤800000
 | [],s,_,_,_=>by simp [sumW];omega
 | p::r,s,h,h0,h8=>by
   have hp:=h p (by simp)
   have hc:((p::r).length:Int)=(r.length:Int)+1:=by simp
   rw [hc] at h8 ⊢
   have e:wrapq .i64 (Int.add s p.len)=s+p.len:=wrapq_i64 (by show _≤s+p.len;omega) (by show s+p.len≤_;omega)
   show _≤sumW r (wrapq .i64 (Int.add s p.len))∧sumW r (wrapq .i64 (Int.add s p.len))≤_
   rw [e]
   have:=sumW_le (ps:=r) (s:=s+p.len) (fun q hq=>h q (by simp [hq])) (by omega) (by omega)
   omega
theorem lnB_some {ls:List Ln} {s:List Nat} (h:lnB ls s=true):∃ i l,findL ls s=some i∧ls[i]? = some l∧l ∈ ls∧lnOf ls s=l:=by
 unfold lnB at h
 cases hf:findL ls s with
 | none=>rw [hf] at h;cases h
 | some i =>
   obtain ⟨l,h1,h2,h3⟩:=findL_at hf
   refine ⟨i,l,rfl,h1,h3, ?_⟩
   unfold lnOf
   rw [hf]
   simp [h1]
theorem len_in {n:Net} (h:netP n=0) {s:List Nat} (hb:lnB n.lines s=true):1≤sumW (lnOf n.lines s).ps 0∧sumW (lnOf n.lines s).ps 0≤800000:=by
 obtain ⟨i,l,h1,h2,h3,h4⟩:=lnB_some hb
 rw [h4]
 obtain ⟨_,z2,z3,z4⟩:=line_zero (netP_parts h).1 i l h2
 have:=sumW_le (ps:=l.ps) (s:=0) z4 (by omega) (by omega)
 omega
theorem has_in {n:Net} (h:netP n=0) {s:List Nat} {m:Int} (hb:lnB n.lines s=true) (hm:hasB (lnOf n.lines s) m=true):inR m:=by
 have:=len_in h hb
 unfold hasB at hm
 simp only [Bool.and_eq_true,Bool.not_eq_true',decide_eq_false_iff_not,decide_eq_true_eq] at hm
 exact ⟨by omega,by omega⟩
theorem sw_zero {n:Net} (h:netP n=0):∀ s ∈ n.sws,lnB n.lines s.line=true∧hasB (lnOf n.lines s.line) s.metre=true∧lnB n.lines s.other=true∧beqL s.line s.other=false:=by
 intro s hs
 obtain ⟨i,hi⟩:=List.getElem?_of_mem hs
 have h2:=(netP_parts h).2
 unfold switchesP at h2
 split at h2
 · cases h2
 have h1:=allR_mem0 h2 i (List.getElem?_eq_some_iff.1 hi).1
 unfold switchP at h1
 rw [hi] at h1
 simp only [] at h1
 have z:=firstI_mem0 h1
 have z1:=when_zero (by decide) (z (whenI (!lnB n.lines s.line) 10) (by simp))
 have z2:=when_zero (by decide) (z (whenI (!hasB (lnOf n.lines s.line) s.metre) 14) (by simp))
 have z3:=when_zero (by decide) (z (whenI (!lnB n.lines s.other) 10) (by simp))
 have z4:=when_zero (by decide) (z (whenI (beqL s.line s.other) 24) (by simp))
 simp only [Bool.not_eq_false'] at z1 z2 z3
 exact ⟨z1,z2,z3,z4⟩
end Go.Sim

/-
Texts: the plain law: a text as a whole.
-/
namespace Go.Sim
open Go Go.Proofs
theorem line_name {ls:List Ln} (h:linesP ls=0):∀ l ∈ ls,nameB l.name=true ∧ ∀ p ∈ l.ps,numOk p.len∧numOk p.post:=by
 intro l hmem
 obtain ⟨i,hl⟩:=List.getElem?_of_mem hmem
 unfold linesP at h
 split at h
 · cases h
 have hi:=(List.getElem?_eq_some_iff.1 hl).1
 have h1:=allR_mem0 h i hi
 unfold lineP at h1
 rw [hl] at h1
 simp only [] at h1
 split at h1
 · rename_i h2
   have z:=firstI_mem0 h2
   have z0:=when_zero (by decide) (z _ (List.mem_cons_self ..))
   simp only [Bool.not_eq_false'] at z0
   refine ⟨z0,fun p hp => ?_⟩
   have zz:=firstI_mem0 (firstI_mem0 h1 _ (List.mem_map.2 ⟨p,hp,rfl⟩))
   have z4:=when_zero (by decide) (zz (rangeI p.len 1 100000) (by simp))
   have z5:=when_zero (by decide) (zz (rangeI p.post 0 9999999) (by simp))
   simp only [Bool.or_eq_false_iff,decide_eq_false_iff_not] at z4 z5
   unfold numOk
   omega
 · rename_i h2;exact absurd h1 h2
theorem lnB_name {n:Net} (h:netP n=0) {s:Wd} (hb:lnB n.lines s=true):nameB s=true:=by
 unfold lnB at hb
 cases hf:findL n.lines s with
 | none=>rw [hf] at hb;cases hb
 | some i =>
   unfold findL at hf
   rw [List.findIdx?_eq_some_iff_getElem] at hf
   obtain ⟨hlt,h6,_⟩:=hf
   have e:=(beqL_iff _ _).1 h6
   rw [← e]
   exact (line_name (netP_parts h).1 _ (List.getElem_mem hlt)).1
theorem sw_name {n:Net} (h:netP n=0):∀ s ∈ n.sws,nameB s.name=true:=by
 intro s hs
 obtain ⟨i,hi⟩:=List.getElem?_of_mem hs
 have h2:=(netP_parts h).2
 unfold switchesP at h2
 split at h2
 · cases h2
 have h1:=allR_mem0 h2 i (List.getElem?_eq_some_iff.1 hi).1
 unfold switchP at h1
 rw [hi] at h1
 simp only [] at h1
 have z1:=when_zero (by decide) (firstI_mem0 h1 _ (List.mem_cons_self ..))
 simpa using z1
theorem st_part {n:Net} (h:netP n=0):∀ s ∈ n.sts,nameB s.name=true∧nameB s.kind=true∧lnB n.lines s.line=true∧spanB (lnOf n.lines s.line) s.fr s.till=false:=by
 intro s hs
 obtain ⟨i,hi⟩:=List.getElem?_of_mem hs
 have h2:structsP n=0:=by
  unfold netP at h
  by_cases hl:linesP n.lines=0
  · rw [if_pos hl] at h
    exact firstI_mem0 h _ (by simp)
  · rw [if_neg hl] at h;exact absurd h hl
 unfold structsP at h2
 split at h2
 · cases h2
 have h1:=allR_mem0 h2 i (List.getElem?_eq_some_iff.1 hi).1
 unfold structP at h1
 rw [hi] at h1
 simp only [] at h1
 have z:=firstI_mem0 h1
 have z1:=when_zero (by decide) (z _ (List.mem_cons_self ..))
 have z2:=when_zero (by decide) (z (whenI (!nameB s.kind) 13) (by simp))
 have z3:=when_zero (by decide) (z (whenI (!lnB n.lines s.line) 10) (by simp))
 have z4:=when_zero (by decide) (z (whenI (spanB (lnOf n.lines s.line) s.fr s.till) 14) (by simp))
 simp only [Bool.not_eq_false'] at z1 z2 z3
 exact ⟨z1,z2,z3,z4⟩
theorem prOk {n:Net} (h:netP n=0):PrOk n where
 line:=line_name (netP_parts h).1
 sw:=fun s hs=>by
  obtain ⟨z1,z2,z3,_⟩:=sw_zero h s hs
  have hr:=has_in h z1 z2
  unfold inR at hr
  exact ⟨sw_name h s hs,lnB_name h z1,⟨by omega,by omega⟩,lnB_name h z3⟩
 st:=fun s hs=>by
  obtain ⟨z1,z2,z3,z4⟩:=st_part h s hs
  have hl:=len_in h z3
  unfold spanB hasB at z4
  simp only [Bool.or_eq_false_iff,Bool.not_eq_false',Bool.and_eq_true,Bool.not_eq_true',decide_eq_false_iff_not,decide_eq_true_eq] at z4
  exact ⟨z1,z2,lnB_name h z3,⟨by omega,by omega⟩,⟨by omega,by omega⟩⟩
/-! ### Bytes -/
def byteW (w:Wd):Prop:=∀ c ∈ w,c < 256
theorem byte_join:∀ {ws:List Wd},(∀ w ∈ ws,byteW w)→byteW (joinC 32 ws)
 | [],_=>fun c hc=>by cases hc
 | [w],h=>h w (by simp)
 | w::v::r,h=>by
   have ih:=byte_join (ws:=v::r) (fun u hu=>h u (by simp [hu]))
   intro c hc
   have hc:c ∈ w++32::joinC 32 (v::r):=hc
   rcases List.mem_append.1 hc with hc | hc
   · exact h w (by simp) c hc
   · rcases List.mem_cons.1 hc with rfl | hc
     · decide
     · exact ih c hc
theorem byte_name {w:Wd} (h:nameB w=true):byteW w:=by
 cases w with
 | nil=>cases h
 | cons c r =>
   unfold nameB at h
   simp only [Bool.and_eq_true,decide_eq_true_eq,List.all_eq_true] at h
   obtain ⟨⟨_,h2⟩,h3⟩:=h
   have hi:∀ x:Nat,restB (x:Int)=true→x < 256:=by
    intro x hx
    unfold restB letB digB at hx
    simp only [Bool.or_eq_true,Bool.and_eq_true,Bool.not_eq_true',decide_eq_false_iff_not,decide_eq_true_eq] at hx
    omega
   intro x hx
   rcases List.mem_cons.1 hx with rfl | hx
   · exact hi _ (by unfold restB;rw [h2];rfl)
   · exact hi _ (h3 x hx)
theorem byte_itoa {n:Int} (h:numOk n):byteW (itoaL n):=by
 obtain ⟨m,rfl⟩:∃ m:Nat,n=(m:Int):=⟨n.toNat,by have:=h.1;omega⟩
 rw [itoaL_nat]
 have hn:=h.2
 have h:=itoaN_ok 19 m (by have:(1000000000:Nat)≤10 ^ (19+1):=by decide
                           omega)
 have hd:=h.dig
 unfold digsB at hd
 rw [List.all_eq_true] at hd
 intro c hc
 have:=(digB_iff _).1 (hd c hc)
 omega
theorem tx_byte {n:Net} (h:PrOk n):∀ l ∈ txLines n,byteW l:=by
 have lit:∀ w ∈ [sLine,sPiece,sSwitch,sStructure,sUp,sDown,sFirst,sLast],byteW w:=by
  intro w hw c hc
  simp only [List.mem_cons,List.not_mem_nil,or_false] at hw
  rcases hw with rfl | rfl | rfl | rfl | rfl | rfl | rfl | rfl<;>revert c hc<;>decide
 intro l hl
 unfold txLines at hl
 rw [List.mem_append,List.mem_append] at hl
 rcases hl with (hl | hl) | hl
 · obtain ⟨x,hx,hl⟩:=List.mem_flatMap.1 hl
   rcases List.mem_cons.1 hl with rfl | hl
   · refine byte_join fun w hw => ?_
     simp only [List.mem_cons,List.not_mem_nil,or_false] at hw
     rcases hw with rfl | rfl
     · exact lit _ (by simp)
     · exact byte_name (h.line x hx).1
   · obtain ⟨p,hp,rfl⟩:=List.mem_map.1 hl
     have hn:=(h.line x hx).2 p hp
     refine byte_join fun w hw => ?_
     simp only [List.mem_cons,List.not_mem_nil,or_false] at hw
     rcases hw with rfl | rfl | rfl | rfl
     · exact lit _ (by simp)
     · exact byte_itoa hn.1
     · exact byte_itoa hn.2
     · split<;>exact lit _ (by simp)
 · obtain ⟨x,hx,rfl⟩:=List.mem_map.1 hl
   have hs:=h.sw x hx
   refine byte_join fun w hw => ?_
   simp only [List.mem_cons,List.not_mem_nil,or_false] at hw
   rcases hw with rfl | rfl | rfl | rfl | rfl | rfl
   · exact lit _ (by simp)
   · exact byte_name hs.1
   · exact byte_name hs.2.1
   · exact byte_itoa hs.2.2.1
   · exact byte_name hs.2.2.2
   · split<;>exact lit _ (by simp)
 · obtain ⟨x,hx,rfl⟩:=List.mem_map.1 hl
   have hs:=h.st x hx
   refine byte_join fun w hw => ?_
   simp only [List.mem_cons,List.not_mem_nil,or_false] at hw
   rcases hw with rfl | rfl | rfl | rfl | rfl | rfl
   · exact lit _ (by simp)
   · exact byte_name hs.1
   · exact byte_name hs.2.1
   · exact byte_name hs.2.2.1
   · exact byte_itoa hs.2.2.2.1
   · exact byte_itoa hs.2.2.2.2
theorem printF_byte {n:Net} (h:PrOk n):∀ c ∈ printF n,c < 256:=by
 intro c hc
 unfold printF at hc
 obtain ⟨l,hl,hc⟩:=List.mem_flatMap.1 hc
 rcases List.mem_append.1 hc with hc | hc
 · exact tx_byte h l hl c hc
 · have:c=10:=by simpa using hc
   rw [this];decide
/-! ### A text as a whole -/
def partS (s:Wd):List Wd:=(splitL 10 s).dropLast
def parseF (s:Wd):Net × Int × Int :=
 if (4096:Int) < s.length then (zNet,0,26)
 else match (goG zNet 0 0 (partS s)).2.2 with
  | some i=>(zNet,(i:Int),25)
  | none=>if lastW (splitL 10 s) ≠ [] then (zNet,((partS s).length:Nat),25)
    else if netP (goG zNet 0 0 (partS s)).1=0 then ((goG zNet 0 0 (partS s)).1,0,0) else (zNet,((partS s).length:Nat),netP (goG zNet 0 0 (partS s)).1)
theorem partS_len (s:Wd):(splitL 10 s).length=(partS s).length+1:=by
 have:=splitL_len 10 s
 unfold partS
 rw [List.length_dropLast];omega
theorem split_printF {n:Net} (h:PrOk n):splitL 10 (printF n)=txLines n++[[]]:=by
 have:=split_lines (txLines n) [] (fun l hl=>(tx_clean h l hl).1) (by simp)
 unfold printF
 simpa using this
theorem part_printF {n:Net} (h:PrOk n):partS (printF n)=txLines n∧lastW (splitL 10 (printF n))=[]:=by
 unfold partS lastW
 rw [split_printF h]
 simp
theorem parse_print {n:Net} (h:netP n=0) (hl:(printF n).length≤4096):parseF (printF n)=(n,0,0)∧(splitL 10 (printF n)).length=(txLines n).length+1:=by
 have hp:=prOk h
 obtain ⟨h1,h2⟩:=part_printF hp
 obtain ⟨g1,g2⟩:=go_print hp
 refine ⟨?_,by rw [split_printF hp];simp⟩
 unfold parseF
 have hl':¬ ((4096:Int) < (printF n).length):=by omega
 rw [if_neg hl',h1,g2,h2]
 simp only [ne_eq,not_true_eq_false,if_false,g1,h,if_true]
theorem print_parse {s:Wd} (h:(parseF s).2.2=0):printF (parseF s).1=s∧netP (parseF s).1=0:=by
 unfold parseF at h ⊢
 split at h
 · exact absurd h (by decide)
 rename_i hl
 rw [if_neg hl]
 cases hg:(goG zNet 0 0 (partS s)).2.2 with
 | some i=>rw [hg] at h;exact absurd (show (25:Int)=0 from h) (by decide)
 | none =>
   rw [hg] at h
   simp only at h ⊢
   split at h
   · exact absurd (show (25:Int)=0 from h) (by decide)
   rename_i hw
   rw [if_neg hw]
   split at h
   · rename_i hz
     rw [if_pos hz]
     refine ⟨?_,hz⟩
     have:=go_reprint (partS s) zNet 0 0 ⟨.inl rfl,fun _=>⟨rfl,rfl⟩,fun h=>absurd h (by decide)⟩ hg
     have ht:=text_lines s
     have hw':lastW (splitL 10 s)=[]:=by simpa using hw
     rw [hw',List.append_nil] at ht
     show (txLines (goG zNet 0 0 (partS s)).1).flatMap (fun l=>l++[10])=s
     rw [this]
     have e0:txLines zNet=[]:=rfl
     rw [e0,List.nil_append]
     exact ht.symm
   · rename_i hz;exact absurd h hz
theorem parse_cut {n:Net} (h:netP n=0) (hl:(printF n).length≤4096) (h0:printF n ≠ []):parseF ((printF n).take ((printF n).length - 1))=(zNet,((txLines n).length:Int) - 1,25):=by
 have hp:=prOk h
 have hne:txLines n ≠ []:=fun e=>h0 (by unfold printF;rw [e];rfl)
 obtain ⟨L,l,e⟩:∃ L l,txLines n=L++[l]:=by
  rcases List.eq_nil_or_concat (txLines n) with h | ⟨L,l,h⟩
  · exact absurd h hne
  · exact ⟨L,l,by rw [h,List.concat_eq_append]⟩
 have hc:=tx_clean hp
 rw [e] at hc
 have hlc:=hc l (by simp)
 have ep:printF n=(L.flatMap fun l=>l++[10])++l++[10]:=by
  unfold printF
  rw [e,List.flatMap_append];simp
 have et:(printF n).take ((printF n).length - 1)=(L.flatMap fun l=>l++[10])++l:=by
  rw [ep]
  have:((L.flatMap fun l=>l++[10])++l++[10]).length - 1=((L.flatMap fun l=>l++[10])++l).length:=by simp
  rw [this,List.take_left]
 rw [et]
 have hs:=split_lines L l (fun x hx=>(hc x (by simp [hx])).1) hlc.1
 have hlen:¬ ((4096:Int) < ((L.flatMap fun l=>l++[10])++l).length):=by
  have:(printF n).length=((L.flatMap fun l=>l++[10])++l).length+1:=by rw [ep];simp;omega
  omega
 have hpt:partS ((L.flatMap fun l=>l++[10])++l)=L:=by unfold partS;rw [hs];simp
 have hlw:lastW (splitL 10 ((L.flatMap fun l=>l++[10])++l))=l:=by unfold lastW;rw [hs];simp
 obtain ⟨_,g2⟩:=go_print hp
 rw [e] at g2
 have g3:=goG_pre g2
 unfold parseF
 rw [if_neg hlen,hpt,g3,hlw]
 simp only
 rw [if_pos hlc.2,e]
 simp
theorem txLines_length (n:Net):(txLines n).length=n.lines.length+(n.lines.map fun l=>l.ps.length).sum+n.sws.length+n.sts.length:=by
 unfold txLines
 rw [List.length_append,List.length_append,List.length_map,List.length_map]
 have:(n.lines.flatMap lnTx).length=n.lines.length+(n.lines.map fun l=>l.ps.length).sum:=by
  generalize n.lines=ls
  induction ls with
  | nil=>rfl
  | cons l r ih =>
    rw [List.flatMap_cons,List.length_append,ih]
    simp only [lnTx,List.length_cons,List.length_map,List.map_cons,List.sum_cons]
    omega
 omega
end Go.Sim

/-
Texts: printing, by the program.
-/
namespace Go.Sim
open Go Go.Proofs
set_option maxRecDepth 100000
set_option maxHeartbeats 16000000
variable {P:FuncId→Option (List AV→Option AV)}
/-! ### The library's functions -/
theorem en160 {lo:Nat} {rec:Rec} {args:List AV} {H:Heap} {K:AV→Heap→Prop}:VO (aenter (NC.withPrims P) rec lo 160 args H) K=AO (pJoin args) fun v=>K v H:=by
 refine enter_prim rfl ?_
 show (match NC.prim 160 with | some p=>some p | none=>P 160)=some pJoin
 have:NC.prim 160=some pJoin:=by kernel_rfl
 rw [this]
theorem en161 {lo:Nat} {rec:Rec} {args:List AV} {H:Heap} {K:AV→Heap→Prop}:VO (aenter (NC.withPrims P) rec lo 161 args H) K=AO (pItoa args) fun v=>K v H:=by
 refine enter_prim rfl ?_
 show (match NC.prim 161 with | some p=>some p | none=>P 161)=some pItoa
 have:NC.prim 161=some pItoa:=by kernel_rfl
 rw [this]
theorem enH {f:FuncId} {p:Nat→List AV→Heap→Option (AV × Heap)} (h1:NC.prim f=none) (h2:NC.hprim f=some p) (h:P f=none) {lo:Nat} {rec:Rec} {args:List AV} {H:Heap} {K:AV→Heap→Prop}:VO (aenter (NC.withPrims P) rec lo f args H) K=VO (p lo args H) K:=by
 have hm:(NC.withPrims P).memo f args=none:=rfl
 have hp:(NC.withPrims P).prim f=none:=by
  show (match NC.prim f with | some p=>some p | none=>P f)=none
  rw [h1];exact h
 have hh:(NC.withPrims P).hprim f=some p:=h2
 unfold aenter
 simp only [hm,hp,hh]
theorem en209 (h:P 209=none) {lo:Nat} {rec:Rec} {args:List AV} {H:Heap} {K:AV→Heap→Prop}:VO (aenter (NC.withPrims P) rec lo 209 args H) K=VO (hCopyCheck 272 lo args H) K:=enH (by kernel_rfl) (by kernel_rfl) h
theorem en163 (h:P 163=none) {lo:Nat} {rec:Rec} {args:List AV} {H:Heap} {K:AV→Heap→Prop}:VO (aenter (NC.withPrims P) rec lo 163 args H) K=VO (hString 272 5 lo args H) K:=enH (by kernel_rfl) (by kernel_rfl) h
theorem en158 {P:FuncId→Option (List AV→Option AV)} (hP:P 158=none) {lo:Nat} {args:List AV} {H:Heap} {K:AV→Heap→Prop}:VO (aenter (NC.withPrims P) (R (NC.withPrims P)) lo 158 args H) K=AO (R (NC.withPrims P) (.call lo 158 args H)) fun o=>K o.val o.s.H:=by
 refine enter_free rfl ?_ (by kernel_rfl) (by kernel_rfl) (by kernel_rfl)
 show (match NC.prim 158 with | some p=>some p | none=>P 158)=none
 rw [hP];kernel_rfl
theorem en159 {P:FuncId→Option (List AV→Option AV)} (hP:P 159=none) {lo:Nat} {args:List AV} {H:Heap} {K:AV→Heap→Prop}:VO (aenter (NC.withPrims P) (R (NC.withPrims P)) lo 159 args H) K=AO (R (NC.withPrims P) (.call lo 159 args H)) fun o=>K o.val o.s.H:=by
 refine enter_free rfl ?_ (by kernel_rfl) (by kernel_rfl) (by kernel_rfl)
 show (match NC.prim 159 with | some p=>some p | none=>P 159)=none
 rw [hP];kernel_rfl
theorem itoa_is {x:Int} (h:numOk x):pItoa [.int .i64 x]=some (.str (itoaL x)):=by
 unfold pItoa
 simp only
 rw [if_pos ⟨by have:=h.1;omega,by have:=h.2;omega⟩]
theorem strsOf_map:∀ l:List Wd,strsOf (l.map strRow)=some l
 | []=>rfl
 | w::r=>by
   show (match strsOf (r.map strRow) with
    | some l=>some (w::l)
    | none=>none)=_
   rw [strsOf_map r]
theorem joinL_eq32:∀ l:List Wd,joinL [32] l=joinC 32 l
 | []=>rfl
 | [w]=>by simp [joinL,joinC]
 | w::v::r=>by
   have ih:=joinL_eq32 (v::r)
   show w++(([32]++v)++((r.map ([32] ++ ·)).flatten))=w++32::joinC 32 (v::r)
   rw [← ih]
   simp [joinL]
theorem join_is {l:List Wd} (h1:(joinC 32 l).length≤maxRows) (h2:l.length≤maxRows):pJoin [.ps .unk (l.map strRow),.str [32]]=some (.str (joinC 32 l)):=by
 unfold pJoin
 simp only [strsOf_map]
 rw [joinL_eq32,if_pos ⟨h1,by simpa using h2⟩]
/-! ### The builder -/
def byR (s:Wd):List (List AV):=s.map fun n=>[AV.int .u8 (n:Nat)]
theorem byR_app (a b:Wd):byR (a++b)=byR a++byR b:=by simp [byR]
def Bld (H:Heap) (b:Nat) (s:Wd):Prop:=∃ a t,H.get b=.cells [a,.ps t (byR s)] 272∧(a=.nilp∨a=.ptr b 0)∧App H t (byR s) 1 5
theorem app_many {H:Heap} {t:Tok} {rows:List (List AV)} {sz:Nat} {e:TypeId} (h:App H t rows sz e) {rx:List (List AV)} (h0:rx ≠ []) (h1:rows.length+rx.length≤maxRows) (h2:rx.all pureRow=true) (h3:0 < sz) (h4:rows.all (fun r=>r.length=sz)=true) :
 ∃ t' H',appP 0 H sz e (.ps t rows) rx=some (.ps t' (rows++rx.map (List.map AV.strip0)),H')∧App H' t' (rows++rx.map (List.map AV.strip0)) sz e∧H.n≤H'.n∧(∀ i c u,i < H.n→H.get i=.cells c u→H'.get i=.cells c u):=by
 rcases h with ⟨rfl,rfl⟩ | ⟨j,rfl,h6,h7,h8⟩
 · refine ⟨.tok H.n,H.push (.row [] sz e),app_first h0 (by simpa using h1) h2 h3,.inr ⟨H.n,rfl,by simpa using h0,by simp,by rw [Heap.get_push,if_pos rfl]⟩,by simp,fun i c u hi hc => ?_⟩
   rw [Heap.get_push,if_neg (by omega)];exact hc
 · refine ⟨.tok H.n,(H.set j .dead).push (.row [] sz e),app_next h0 h1 h2 h3 h4 h8 (Nat.zero_le _) h6,.inr ⟨H.n,rfl,by simp [h6],by simp,by rw [Heap.get_push,if_pos (by simp)]⟩,by simp,fun i c u hi hc => ?_⟩
   rw [Heap.get_push,if_neg (by simp;omega),Heap.get_set,if_neg (fun he=>by rw [he,h8] at hc;cases hc)];exact hc
theorem un5n:isIntT .string=false:=rfl
theorem rows_str (H:Heap) (s:Wd):rowsIn H 1 (.str s)=some (byR s):=rfl
theorem byR_pure (s:Wd):(byR s).all pureRow=true:=by
 unfold byR
 rw [List.all_eq_true]
 intro r hr
 obtain ⟨x,_,rfl⟩:=List.mem_map.1 hr
 rfl
theorem byR_all (s:Wd):(byR s).all (fun r=>decide (r.length=1))=true:=by
 unfold byR
 rw [List.all_eq_true]
 intro r hr
 obtain ⟨x,_,rfl⟩:=List.mem_map.1 hr
 rfl
theorem byR_strip (s:Wd):(byR s).map (List.map AV.strip0)=byR s:=by
 unfold byR
 rw [List.map_map]
 rfl
theorem byR_len (s:Wd):(byR s).length=s.length:=by unfold byR;simp
theorem r159 (h209:P 209=none) {b:Nat} {H:Heap} {s x:Wd} (hbn:b < H.n) (hb:Bld H b s) (hx:x ≠ []) (hl:s.length+x.length≤maxRows):∃ v H',R (NC.withPrims P) (.call 0 159 [.ptr b 0,.str x] H)=some (.ofVal v H')∧Bld H' b (s++x)∧H.n≤H'.n∧(∀ i c u,i < H.n→i ≠ b→H.get i=.cells c u→H'.get i=.cells c u):=by
 refine R_of_body (C:=NC.withPrims P) (f:=159) (lo:=0) (args:=[.ptr b 0,.str x]) (H:=H) (fn:=Tryz.f159) (Q:=fun v H'=>Bld H' b (s++x)∧H.n≤H'.n∧(∀ i c u,i < H.n→i ≠ b→H.get i=.cells c u→H'.get i=.cells c u)) (by kernel_rfl) Tryz.func159 rfl rfl ?_
 obtain ⟨a,t,h1,h2,h3⟩:=hb
 obtain ⟨Hc,cc,c1,c2,c3,c4⟩:∃ Hc,hCopyCheck 272 0 [.ptr b 0] H=some (.tup [],Hc)∧Hc.get b=.cells [.ptr b 0,.ps t (byR s)] 272∧App Hc t (byR s) 1 5∧Hc.n=H.n ∧ ∀ i,i ≠ b→Hc.get i=H.get i:=by
  rcases h2 with rfl | rfl
  · refine ⟨H.set b (.cells [.ptr b 0,.ps t (byR s)] 272), ?_,by rw [Heap.get_set,if_pos rfl],h3.set _ (by rw [h1];simp),by simp,fun i hi=>by rw [Heap.get_set,if_neg hi]⟩
    unfold hCopyCheck
    simp [h1]
  · refine ⟨H, ?_,h1,h3,rfl,fun _ _=>rfl⟩
    unfold hCopyCheck
    simp [h1]
 obtain ⟨t',H1,ha,hA,hn1,hc1⟩:=app_many c2 (rx:=byR x) (by unfold byR;simpa using hx) (by rw [byR_len,byR_len];exact hl) (byR_pure x) (by decide) (byR_all s)
 rw [byR_strip,← byR_app] at ha hA
 have ha:appP 0 Hc 1 5 (.ps t (byR s)) (x.map fun (b:Nat)=>[AV.int .u8 (b:Int)])=_:=ha
 have g1:=hc1 b _ _ (by omega) c1
 have hxl:(x.length:Int)=(x.length:Int):=rfl
 simp only [go_sem,reduceIte,reduceEqDiff,reduceAdd,reduceMul,reduceSub,reduceLeDiff,reduceLT,Nat.reduceBEq,reduceCtorEq,en209 h209,cc,c1,appO,un5n,rows_str,ha,g1]
 refine ⟨⟨_,t',by rw [Heap.get_set,if_pos rfl],.inr rfl,hA.set _ (by rw [g1];simp)⟩,by omega,fun i c u hi hne hc => ?_⟩
 rw [if_neg hne]
 exact hc1 i c u (by omega) (by rw [c4 i hne];exact hc)
theorem r158 (h209:P 209=none) (h159:P 159=none) {b:Nat} {H:Heap} {s:Wd} {ws:List Wd} (hbn:b < H.n) (hb:Bld H b s) (hw:ws.length≤maxRows) (hl:s.length+((joinC 32 ws).length+1)≤maxRows):∃ v H',R (NC.withPrims P) (.call 0 158 [.ps .unk (ws.map strRow),.ptr b 0] H)=some (.ofVal v H')∧Bld H' b (s++(joinC 32 ws++[10]))∧H.n≤H'.n∧(∀ i c u,i < H.n→i ≠ b→H.get i=.cells c u→H'.get i=.cells c u):=by
 refine R_of_body (C:=NC.withPrims P) (f:=158) (lo:=0) (args:=[.ps .unk (ws.map strRow),.ptr b 0]) (H:=H) (fn:=Tryz.f158) (Q:=fun v H'=>Bld H' b (s++(joinC 32 ws++[10]))∧H.n≤H'.n∧(∀ i c u,i < H.n→i ≠ b→H.get i=.cells c u→H'.get i=.cells c u)) (by kernel_rfl) Tryz.func158 rfl rfl ?_
 have hj:=join_is (l:=ws) (by omega) hw
 obtain ⟨v,H',h1,h2,h3,h4⟩:=r159 (P:=P) h209 hbn hb (x:=joinC 32 ws++[10]) (by simp) (by simp;omega)
 have hadd:(joinC 32 ws).length+1≤9223372036854775807:=by unfold maxRows at hl;omega
 simp only [go_sem,reduceIte,reduceEqDiff,reduceAdd,reduceMul,reduceSub,reduceLeDiff,reduceLT,Nat.reduceBEq,reduceCtorEq,en160,hj,hadd,en159 h159,h1,ofVal_v,ofVal_H]
 exact ⟨h2,h3,h4⟩
/-! ### Words -/
noncomputable def PPF162:FuncId→Option (List AV→Option AV):=fun _=>none
theorem primsF162:PrimsOk NC PPF162:=primsOk_none
theorem c162 (a b:List Nat) (k:Bool):∀ lo H,CallOk NC lo 162 [.agg [.str a,.str b],.bool k] H (.str (if k then b else a)) H:=by
 refine contract saneNC primsF162 (fn:=Tryz.f162) (by kernel_rfl) Tryz.func162 rfl rfl (by rfl) (by first | rfl | (split<;>first | rfl | (split<;>rfl))) ?_
 cases k<;>simp only [go_sem,reduceIte,reduceEqDiff,reduceAdd,reduceMul,reduceSub,reduceLeDiff,reduceLT,Nat.reduceBEq,reduceCtorEq]
noncomputable def p162:List AV→Option AV:=primOf (α:=(List Nat) × (List Nat) × (Bool)) (fun x=>[.agg [.str x.1,.str x.2.1],.bool x.2.2]) (fun x=>True) (fun x=>.str (if x.2.2 then x.2.1 else x.1))
theorem pok162:∀ args v,p162 args=some v → ∀ lo H,CallOk NC lo 162 args H v H:=by
 intro args v h
 obtain ⟨x,rfl,hp,rfl⟩:=primOf_inv h
 exact c162 x.1 x.2.1 x.2.2
theorem pe162 (a b:List Nat) (k:Bool):p162 [.agg [.str a,.str b],.bool k]=some (.str (if k then b else a)):=primOf_enc (α:=(List Nat) × (List Nat) × (Bool)) (enc:=fun x=>[.agg [.str x.1,.str x.2.1],.bool x.2.2]) (pre:=fun x=>True) (spec:=fun x=>.str (if x.2.2 then x.2.1 else x.1)) (by intro x y h;(simp only [List.cons.injEq,AV.agg.injEq,AV.str.injEq,AV.int.injEq,AV.ps.injEq,AV.bool.injEq,Net.cells_iff,Ln.row_iff,Pc.row_iff,Mv.row_iff,lns_iff,pcs_iff,mvs_iff,true_and,and_true] at h;first | simpa only [Prod.ext_iff] using h | simpa only [Prod.ext_iff,and_assoc] using h)) (a,b,k) trivial
theorem kLine {C:Cfg} {T:TT AV}:evalO C T (.const (.string { data:=#[108,105,110,101] }))=some (.str sLine):=rfl
theorem kPiece {C:Cfg} {T:TT AV}:evalO C T (.const (.string { data:=#[112,105,101,99,101] }))=some (.str sPiece):=rfl
theorem kSwitch {C:Cfg} {T:TT AV}:evalO C T (.const (.string { data:=#[115,119,105,116,99,104] }))=some (.str sSwitch):=rfl
theorem kStructure {C:Cfg} {T:TT AV}:evalO C T (.const (.string { data:=#[115,116,114,117,99,116,117,114,101] }))=some (.str sStructure):=rfl
attribute [go_sem] kLine kPiece kSwitch kStructure
theorem glob0 {T:TT AV}:evalO (NC.withPrims P) T (.global 0)=some (.pptr [.str sUp,.str sDown]):=by kernel_rfl
theorem glob1 {T:TT AV}:evalO (NC.withPrims P) T (.global 1)=some (.pptr [.str sFirst,.str sLast]):=by kernel_rfl
attribute [go_sem] glob0 glob1
end Go.Sim

/-
Texts: Print, by the program.
-/
namespace Go.Sim
open Go Go.Proofs
set_option maxRecDepth 100000
set_option maxHeartbeats 64000000
def cat (L:List Wd):Wd:=L.flatMap fun l=>l++[10]
theorem cat_app (a b:List Wd):cat (a++b)=cat a++cat b:=by unfold cat;rw [List.flatMap_append]
theorem cat_one (l:Wd):cat [l]=l++[10]:=by unfold cat;simp
theorem cat_cons (x:Wd) (l:List Wd):cat (x::l)=(x++[10])++cat l:=rfl
theorem cat_sub {a b:List Wd} (h:a.Sublist b):(cat a).length≤(cat b).length:=by
 induction h with
 | slnil=>exact Nat.le_refl _
 | cons x _ ih =>
   rw [cat_cons,List.length_append];omega
 | cons_cons x _ ih =>
   simp only [cat_cons,List.length_append]
   omega
theorem take_flat {α β:Type} {f:α→List β} {l:List α} {k:Nat} {x:α} (h:l[k]? = some x):(l.take (k+1)).flatMap f=(l.take k).flatMap f++f x:=by
 rw [List.take_add_one,h,List.flatMap_append];simp
theorem take_flat_sub {α β:Type} (f:α→List β) (l:List α) (k:Nat):((l.take k).flatMap f).Sublist (l.flatMap f):=by
 conv=>rhs;rw [← List.take_append_drop k l]
 rw [List.flatMap_append]
 exact List.sublist_append_left _ _
noncomputable def PPF87:FuncId→Option (List AV→Option AV):=addPrim 162 p162 (addPrim 29 p29 (fun _=>none))
theorem primsF87:PrimsOk NC PPF87:=primsOk_add (primsOk_add (primsOk_none) (by kernel_rfl) (by kernel_rfl) pok29) (by kernel_rfl) (by kernel_rfl) pok162
theorem enF87_29:En PPF87 29 p29:=enter_prim (by rfl) (by kernel_rfl)
theorem enF87_162:En PPF87 162 p162:=enter_prim (by rfl) (by kernel_rfl)
attribute [go_sem ↓] enF87_29 enF87_162
theorem c87 (n:Net) (hn:n.Ok) (hlen:netP n=0→(printF n).length≤maxRows):∀ lo H,CallOk NC lo 87 [.agg n.cells] H (.tup [.str (if netP n=0 then printF n else []),i64 (netP n)]) H:=by
 refine contract saneNC primsF87 (fn:=Tryz.f87) (by kernel_rfl) Tryz.func87 rfl rfl (by rfl) rfl ?_
 have e29:=pe29 n hn
 simp only [Net.cells,i64] at e29
 rcases Classical.propComplete (netP n=0) with z | z
 case inr =>
  rw [if_neg (by rw [z];exact id)]
  simp only [go_sem,reduceIte,reduceEqDiff,reduceAdd,reduceMul,reduceSub,reduceLeDiff,reduceLT,Nat.reduceBEq,reduceCtorEq,Net.cells,e29,z]
 have hz:=of_eq_true z
 have hpr:=prOk hz
 have hlen:=hlen hz
 rw [if_pos hz]
 rw [hz] at e29 ⊢
 have h209:PPF87 209=none:=rfl
 have h159:PPF87 159=none:=rfl
 have h158:PPF87 158=none:=rfl
 have h163:PPF87 163=none:=rfl
 simp only [go_sem,reduceIte,reduceEqDiff,reduceAdd,reduceMul,reduceSub,reduceLeDiff,reduceLT,Nat.reduceBEq,reduceCtorEq,Net.cells,e29]
 refine W_for (fun k T H M=>M=[]∧getT T 1=.ptr 0 0∧getT T 5=.ptr 1 0∧getT T 6=.fn 158 [] [.ptr 1 0]∧getT T 22=.ps .unk (n.lines.map Ln.row)∧getT T 23=i64 (n.lines.length:Nat)∧getT T 24=i64 k∧1 < H.n∧H.get 0=.cells n.cells 40∧Bld H 1 (cat ((n.lines.take k).flatMap lnTx))) n.lines.length ?_ ?_ ?_
 · simp only [go_sem,reduceIte,reduceEqDiff,reduceAdd,reduceMul,reduceSub,reduceLeDiff,reduceLT,Nat.reduceBEq,reduceCtorEq,Net.cells,List.length_map]
   exact ⟨_,.nil,rfl,.inl rfl,.inl ⟨rfl,rfl⟩⟩
 · rintro k T H M hk ⟨rfl,g1,g5,g6,g22,g23,g24,hn1,h0,hB⟩
   obtain ⟨l,hp⟩:∃ p,n.lines[k]? = some p:=⟨n.lines[k],by simp⟩
   have hmem:=List.mem_of_getElem? hp
   have hfit:=(hn.line l hmem).2
   have hlp:=hpr.line l hmem
   have hr:=map_at (f:=Ln.row) hp
   have hw:=wrap_succ hk hn.lines
   have htk:=take_flat (f:=lnTx) hp
   have hsub:((n.lines.take k).flatMap lnTx++lnTx l).Sublist (txLines n):=by
    rw [← htk]
    unfold txLines
    exact ((take_flat_sub lnTx n.lines (k+1)).trans (List.sublist_append_left _ _)).trans (List.sublist_append_left _ _)
   have htot:=Nat.le_trans (cat_sub hsub) hlen
   generalize hS:(n.lines.take k).flatMap lnTx=S at hB htk htot
   have hB1:Bld ((H.push (.cells [.str [],.ps .nil []] 196)).set H.n (.cells l.row 196)) 1 (cat S):=by
    obtain ⟨a,t,b1,b2,b3⟩:=hB
    exact ⟨a,t,by rw [Heap.get_set,if_neg (by omega),Heap.get_push,if_neg (by omega)];exact b1,b2,b3.fresh _ _ rfl⟩
   have hhead:cat S++(joinC 32 [sLine,l.name]++[10])=cat (S++[joinC 32 [sLine,l.name]]):=by rw [cat_app,cat_one]
   have hlh:(cat (S++[joinC 32 [sLine,l.name]])).length≤maxRows:=by
    refine Nat.le_trans (cat_sub ?_) htot
    unfold lnTx
    exact List.Sublist.append (List.Sublist.refl _) ((List.nil_sublist _).cons_cons _)
   obtain ⟨v,H1,r1,hB2,hn2,hc1⟩:=r158 (P:=PPF87) h209 h159 (ws:=[sLine,l.name]) (by rw [Heap.n_set,Heap.n_push];omega) hB1 (by simp [maxRows]) (by rw [← hhead] at hlh;simpa using hlh)
   rw [hhead] at hB2
   have x0:=hc1 0 n.cells 40 (by rw [Heap.n_set,Heap.n_push];omega) (by decide) (by rw [Heap.get_set,if_neg (by omega),Heap.get_push,if_neg (by omega)];exact h0)
   have x1:=hc1 H.n l.row 196 (by simp) (by omega) (by rw [Heap.get_set,if_pos rfl])
   simp only [Heap.n_set,Heap.n_push] at hn2
   obtain ⟨ln,lp⟩:=l
   simp only [Ln.row] at hr x1 r1
   simp only at hlp hfit
   simp only [List.map_cons,List.map_nil,strRow] at r1
   simp only [go_sem,reduceIte,reduceEqDiff,reduceAdd,reduceMul,reduceSub,reduceLeDiff,reduceLT,Nat.reduceBEq,reduceCtorEq,g1,g5,g6,g22,g23,g24,List.length_map,hk,hr,en158 h158,r1,ofVal_v,ofVal_H,x1]
   clear hB hB1 r1 hlh
   refine W_for (fun k2 T' H' M=>M=[]∧getT T' 1=.ptr 0 0∧getT T' 5=.ptr 1 0∧getT T' 6=.fn 158 [] [.ptr 1 0]∧getT T' 22=.ps .unk (n.lines.map Ln.row)∧getT T' 23=i64 (n.lines.length:Nat)∧getT T' 24=i64 k∧getT T' 34=.ps .unk (lp.map Pc.row)∧getT T' 35=i64 (lp.length:Nat)∧getT T' 36=i64 k2∧1 < H'.n∧H'.get 0=.cells n.cells 40∧Bld H' 1 (cat (S++([joinC 32 [sLine,ln]]++(lp.take k2).map pcTx)))) lp.length ?_ ?_ ?_
   · simp only [go_sem,reduceIte,reduceEqDiff,reduceAdd,reduceMul,reduceSub,reduceLeDiff,reduceLT,Nat.reduceBEq,reduceCtorEq,List.length_map,g1,g5,g6,g22,g23,g24,x0]
     exact ⟨by omega,by simpa using hB2⟩
   · rintro k2 T' H' M hk2 ⟨rfl,i1,i5,i6,i22,i23,i24,i34,i35,i36,j1,j0,jB⟩
     obtain ⟨p,hpp⟩:∃ p,lp[k2]? = some p:=⟨lp[k2],by simp⟩
     have hpr2:=map_at (f:=Pc.row) hpp
     have hw2:=wrap_succ hk2 hfit
     have hnum:=hlp.2 p (List.mem_of_getElem? hpp)
     have ht2:(lp.take (k2+1)).map pcTx=(lp.take k2).map pcTx++[pcTx p]:=take_map hpp
     have hjB1:Bld ((H'.push (.cells [.int .i64 0,.int .i64 0,.bool false] 200)).set H'.n (.cells p.row 200)) 1 (cat (S++([joinC 32 [sLine,ln]]++(lp.take k2).map pcTx))):=by
      obtain ⟨a,t,b1,b2,b3⟩:=jB
      exact ⟨a,t,by rw [Heap.get_set,if_neg (by omega),Heap.get_push,if_neg (by omega)];exact b1,b2,b3.fresh _ _ rfl⟩
     have hone:cat (S++([joinC 32 [sLine,ln]]++(lp.take k2).map pcTx))++(pcTx p++[10])=cat (S++([joinC 32 [sLine,ln]]++(lp.take (k2+1)).map pcTx)):=by
      rw [ht2,← cat_one,← cat_app];simp
     have hlo:(cat (S++([joinC 32 [sLine,ln]]++(lp.take (k2+1)).map pcTx))).length≤maxRows:=by
      refine Nat.le_trans (cat_sub ?_) htot
      refine List.Sublist.append (List.Sublist.refl _) ?_
      show (joinC 32 [sLine,ln]::(lp.take (k2+1)).map pcTx).Sublist (joinC 32 [sLine,ln]::lp.map pcTx)
      exact ((List.take_sublist _ _).map _).cons_cons _
     rw [← hone] at hlo ⊢
     generalize cat (S++([joinC 32 [sLine,ln]]++(lp.take k2).map pcTx))=C0 at hjB1 hlo ⊢
     have hpt:pcTx p=joinC 32 [sPiece,itoaL p.len,itoaL p.post,if p.back then sDown else sUp]:=rfl
     rw [hpt] at hlo ⊢
     obtain ⟨v2,H2,r2,hB3,hn3,hc2⟩:=r158 (P:=PPF87) h209 h159 (ws:=[sPiece,itoaL p.len,itoaL p.post,if p.back then sDown else sUp]) (by simp;omega) hjB1 (by simp [maxRows]) (by simpa using hlo)
     have y0:=hc2 0 n.cells 40 (by simp) (by decide) (by rw [Heap.get_set,if_neg (by omega),Heap.get_push,if_neg (by omega)];exact j0)
     simp only [Heap.n_set,Heap.n_push] at hn3
     have ea:=itoa_is hnum.1
     have eb:=itoa_is hnum.2
     have e162:=pe162 sUp sDown p.back
     obtain ⟨pl,pq,pb⟩:=p
     simp only at ea eb e162 r2 hB3
     simp only [List.map_cons,List.map_nil,strRow,Pc.row,i64] at r2 hpr2
     simp only [go_sem,reduceIte,reduceEqDiff,reduceAdd,reduceMul,reduceSub,reduceLeDiff,reduceLT,Nat.reduceBEq,reduceCtorEq,i1,i5,i6,i22,i23,i24,i34,i35,i36,List.length_map,hk2,hpr2,hw2,en161,ea,eb,e162,en158 h158,r2,ofVal_v,ofVal_H,y0]
     exact ⟨by omega,hB3⟩
   · rintro T' H' M ⟨rfl,i1,i5,i6,i22,i23,i24,i34,i35,i36,j1,j0,jB⟩
     rw [List.take_length] at jB
     simp only [go_sem,reduceIte,reduceEqDiff,reduceAdd,reduceMul,reduceSub,reduceLeDiff,reduceLT,Nat.reduceBEq,reduceCtorEq,i1,i5,i6,i22,i23,i24,i34,i35,i36,List.length_map,Nat.lt_irrefl,hw,j0]
     refine ⟨j1, ?_⟩
     rw [htk]
     exact jB
 rintro T H M ⟨rfl,g1,g5,g6,g22,g23,g24,hn1,h0,hB⟩
 rw [List.take_length] at hB
 simp only [Net.cells] at h0
 simp only [go_sem,reduceIte,reduceEqDiff,reduceAdd,reduceMul,reduceSub,reduceLeDiff,reduceLT,Nat.reduceBEq,reduceCtorEq,g1,g5,g6,g22,g23,g24,h0,List.length_map,Nat.lt_irrefl]
 refine W_for (fun k T' H' M=>M=[]∧getT T' 1=.ptr 0 0∧getT T' 5=.ptr 1 0∧getT T' 6=.fn 158 [] [.ptr 1 0]∧getT T' 56=.ps .unk (n.sws.map Sw.row)∧getT T' 57=i64 (n.sws.length:Nat)∧getT T' 58=i64 k∧1 < H'.n∧H'.get 0=.cells n.cells 40∧Bld H' 1 (cat (n.lines.flatMap lnTx++(n.sws.take k).map swTx))) n.sws.length ?_ ?_ ?_
 · simp only [go_sem,reduceIte,reduceEqDiff,reduceAdd,reduceMul,reduceSub,reduceLeDiff,reduceLT,Nat.reduceBEq,reduceCtorEq,List.length_map,g1,g5,g6,h0,Net.cells]
   exact ⟨hn1,by simpa using hB⟩
 · clear hB g1 g5 g6 g22 g23 g24 h0 hn1
   rintro k T H M hk ⟨rfl,g1,g5,g6,g56,g57,g58,hn1,h0,hB⟩
   obtain ⟨s,hp⟩:∃ p,n.sws[k]? = some p:=⟨n.sws[k],by simp⟩
   have hsp:=hpr.sw s (List.mem_of_getElem? hp)
   have hr:=map_at (f:=Sw.row) hp
   have hw:=wrap_succ hk hn.sws
   have htk:(n.sws.take (k+1)).map swTx=(n.sws.take k).map swTx++[swTx s]:=take_map hp
   have hB1:Bld ((H.push (.cells [.str [],.str [],.int .i64 0,.str [],.bool false] 201)).set H.n (.cells s.row 201)) 1 (cat (n.lines.flatMap lnTx++(n.sws.take k).map swTx)):=by
    obtain ⟨a,t,b1,b2,b3⟩:=hB
    exact ⟨a,t,by rw [Heap.get_set,if_neg (by omega),Heap.get_push,if_neg (by omega)];exact b1,b2,b3.fresh _ _ rfl⟩
   have hone:cat (n.lines.flatMap lnTx++(n.sws.take k).map swTx)++(swTx s++[10])=cat (n.lines.flatMap lnTx++(n.sws.take (k+1)).map swTx):=by
    rw [htk,← cat_one,← cat_app];simp
   have hlo:(cat (n.lines.flatMap lnTx++(n.sws.take (k+1)).map swTx)).length≤maxRows:=by
    refine Nat.le_trans (cat_sub ?_) hlen
    unfold txLines
    exact (List.Sublist.append (List.Sublist.refl _) ((List.take_sublist _ _).map _)).trans (List.sublist_append_left _ _)
   rw [← hone] at hlo ⊢
   generalize cat (n.lines.flatMap lnTx++(n.sws.take k).map swTx)=C0 at hB1 hlo ⊢
   have hpt:swTx s=joinC 32 [sSwitch,s.name,s.line,itoaL s.metre,s.other,if s.last then sLast else sFirst]:=rfl
   rw [hpt] at hlo ⊢
   obtain ⟨v2,H2,r2,hB3,hn3,hc2⟩:=r158 (P:=PPF87) h209 h159 (ws:=[sSwitch,s.name,s.line,itoaL s.metre,s.other,if s.last then sLast else sFirst]) (by simp;omega) hB1 (by simp [maxRows]) (by simpa using hlo)
   have y0:=hc2 0 n.cells 40 (by simp) (by decide) (by rw [Heap.get_set,if_neg (by omega),Heap.get_push,if_neg (by omega)];exact h0)
   simp only [Heap.n_set,Heap.n_push] at hn3
   have ea:=itoa_is hsp.2.2.1
   have e162:=pe162 sFirst sLast s.last
   obtain ⟨s1,s2,s3,s4,s5⟩:=s
   simp only at ea e162 r2 hB3
   simp only [List.map_cons,List.map_nil,strRow,Sw.row,i64] at r2 hr
   simp only [go_sem,reduceIte,reduceEqDiff,reduceAdd,reduceMul,reduceSub,reduceLeDiff,reduceLT,Nat.reduceBEq,reduceCtorEq,g1,g5,g6,g56,g57,g58,List.length_map,hk,hr,hw,en161,ea,e162,en158 h158,r2,ofVal_v,ofVal_H,y0]
   exact ⟨by omega,hB3⟩
 clear hB g1 g5 g6 g22 g23 g24 h0 hn1
 rintro T H M ⟨rfl,g1,g5,g6,g56,g57,g58,hn1,h0,hB⟩
 rw [List.take_length] at hB
 simp only [Net.cells] at h0
 simp only [go_sem,reduceIte,reduceEqDiff,reduceAdd,reduceMul,reduceSub,reduceLeDiff,reduceLT,Nat.reduceBEq,reduceCtorEq,g1,g5,g6,g56,g57,g58,h0,List.length_map,Nat.lt_irrefl]
 refine W_for (fun k T' H' M=>M=[]∧getT T' 1=.ptr 0 0∧getT T' 5=.ptr 1 0∧getT T' 6=.fn 158 [] [.ptr 1 0]∧getT T' 80=.ps .unk (n.sts.map Stc.row)∧getT T' 81=i64 (n.sts.length:Nat)∧getT T' 82=i64 k∧1 < H'.n∧H'.get 0=.cells n.cells 40∧Bld H' 1 (cat (n.lines.flatMap lnTx++n.sws.map swTx++(n.sts.take k).map stTx))) n.sts.length ?_ ?_ ?_
 · simp only [go_sem,reduceIte,reduceEqDiff,reduceAdd,reduceMul,reduceSub,reduceLeDiff,reduceLT,Nat.reduceBEq,reduceCtorEq,List.length_map,g1,g5,g6,h0,Net.cells]
   exact ⟨hn1,by simpa using hB⟩
 · clear hB g1 g5 g6 g56 g57 g58 h0 hn1
   rintro k T H M hk ⟨rfl,g1,g5,g6,g80,g81,g82,hn1,h0,hB⟩
   obtain ⟨s,hp⟩:∃ p,n.sts[k]? = some p:=⟨n.sts[k],by simp⟩
   have hsp:=hpr.st s (List.mem_of_getElem? hp)
   have hr:=map_at (f:=Stc.row) hp
   have hw:=wrap_succ hk hn.sts
   have htk:(n.sts.take (k+1)).map stTx=(n.sts.take k).map stTx++[stTx s]:=take_map hp
   have hB1:Bld ((H.push (.cells [.str [],.str [],.str [],.int .i64 0,.int .i64 0] 202)).set H.n (.cells s.row 202)) 1 (cat (n.lines.flatMap lnTx++n.sws.map swTx++(n.sts.take k).map stTx)):=by
    obtain ⟨a,t,b1,b2,b3⟩:=hB
    exact ⟨a,t,by rw [Heap.get_set,if_neg (by omega),Heap.get_push,if_neg (by omega)];exact b1,b2,b3.fresh _ _ rfl⟩
   have hone:cat (n.lines.flatMap lnTx++n.sws.map swTx++(n.sts.take k).map stTx)++(stTx s++[10])=cat (n.lines.flatMap lnTx++n.sws.map swTx++(n.sts.take (k+1)).map stTx):=by
    rw [htk,← cat_one,← cat_app];simp
   have hlo:(cat (n.lines.flatMap lnTx++n.sws.map swTx++(n.sts.take (k+1)).map stTx)).length≤maxRows:=by
    refine Nat.le_trans (cat_sub ?_) hlen
    unfold txLines
    exact List.Sublist.append (List.Sublist.refl _) ((List.take_sublist _ _).map _)
   rw [← hone] at hlo ⊢
   generalize cat (n.lines.flatMap lnTx++n.sws.map swTx++(n.sts.take k).map stTx)=C0 at hB1 hlo ⊢
   have hpt:stTx s=joinC 32 [sStructure,s.name,s.kind,s.line,itoaL s.fr,itoaL s.till]:=rfl
   rw [hpt] at hlo ⊢
   obtain ⟨v2,H2,r2,hB3,hn3,hc2⟩:=r158 (P:=PPF87) h209 h159 (ws:=[sStructure,s.name,s.kind,s.line,itoaL s.fr,itoaL s.till]) (by simp;omega) hB1 (by simp [maxRows]) (by simpa using hlo)
   have y0:=hc2 0 n.cells 40 (by simp) (by decide) (by rw [Heap.get_set,if_neg (by omega),Heap.get_push,if_neg (by omega)];exact h0)
   simp only [Heap.n_set,Heap.n_push] at hn3
   have ea:=itoa_is hsp.2.2.2.1
   have eb:=itoa_is hsp.2.2.2.2
   obtain ⟨s1,s2,s3,s4,s5⟩:=s
   simp only at ea eb r2 hB3
   simp only [List.map_cons,List.map_nil,strRow,Stc.row,i64] at r2 hr
   simp only [go_sem,reduceIte,reduceEqDiff,reduceAdd,reduceMul,reduceSub,reduceLeDiff,reduceLT,Nat.reduceBEq,reduceCtorEq,g1,g5,g6,g80,g81,g82,List.length_map,hk,hr,hw,en161,ea,eb,en158 h158,r2,ofVal_v,ofVal_H,y0]
   exact ⟨by omega,hB3⟩
 clear hB g1 g5 g6 g56 g57 g58 h0 hn1
 rintro T H M ⟨rfl,g1,g5,g6,g80,g81,g82,hn1,h0,hB⟩
 rw [List.take_length] at hB
 have hst:hString 272 5 0 [.ptr 1 0] H=some (.str (printF n),H):=by
  have hB:Bld H 1 (printF n):=hB
  have hby:∀ s:Wd,(∀ c ∈ s,c < 256)→bytesIn (byR s)=some s:=by
   intro s
   induction s with
   | nil=>intro _;rfl
   | cons c r ih =>
     intro h
     show (if c < 256 then match bytesIn (byR r) with
      | some l=>some (c::l)
      | none=>none else none)=_
     rw [if_pos (h c (by simp)),ih fun x hx=>h x (by simp [hx])]
  have hsm:=printF_byte hpr
  obtain ⟨a,t,b1,b2,b3⟩:=hB
  generalize printF n=s at b1 b3 hlen hsm ⊢
  unfold hString
  simp only [b1,if_true]
  rcases b3 with ⟨rfl,b4⟩ | ⟨j,rfl,b4,b5,b6⟩
  · have:s=[]:=by unfold byR at b4;simpa using b4
    subst this
    rfl
  · have hb:=hby s hsm
    have hl:=byR_len s
    generalize byR s=R at b4 hb hl
    match R,b4 with
    | r::rs,_ =>
      simp only [b6]
      rw [if_pos ⟨trivial,by omega⟩,hb]
 simp only [go_sem,reduceIte,reduceEqDiff,reduceAdd,reduceMul,reduceSub,reduceLeDiff,reduceLT,Nat.reduceBEq,reduceCtorEq,g1,g5,g6,g80,g81,g82,List.length_map,Nat.lt_irrefl,en163 h163,hst]
end Go.Sim

/-
Texts: numbers and words, by the reference.
-/
namespace Go.Sim
open Go Go.Proofs
set_option maxRecDepth 100000
set_option maxHeartbeats 16000000
def digitsW:Wd:=[48,49,50,51,52,53,54,55,56,57]
theorem kDigits {C:Cfg} {T:TT AV}:evalO C T (.const (.string { data:=#[48,49,50,51,52,53,54,55,56,57] }))=some (.str digitsW):=rfl
theorem kMinus {C:Cfg} {T:TT AV}:evalO C T (.const (.string { data:=#[45] }))=some (.str [45]):=rfl
theorem kNone {C:Cfg} {T:TT AV}:evalO C T (.const (.string { data:=#[] }))=some (.str []):=rfl
attribute [go_sem] kDigits kMinus kNone
end Go.Sim

/-
Texts: Print, by the reference.
-/
namespace Go.Sim
open Go Go.Proofs
set_option maxRecDepth 100000
set_option maxHeartbeats 64000000
def cLn:Wd:=[108,105,110,101,32]
def cPc:Wd:=[112,105,101,99,101,32]
def cSw:Wd:=[115,119,105,116,99,104,32]
def cSt:Wd:=[115,116,114,117,99,116,117,114,101,32]
theorem kLn {C:Cfg} {T:TT AV}:evalO C T (.const (.string { data:=#[108,105,110,101,32] }))=some (.str cLn):=rfl
theorem kPc {C:Cfg} {T:TT AV}:evalO C T (.const (.string { data:=#[112,105,101,99,101,32] }))=some (.str cPc):=rfl
theorem kSw {C:Cfg} {T:TT AV}:evalO C T (.const (.string { data:=#[115,119,105,116,99,104,32] }))=some (.str cSw):=rfl
theorem kSt {C:Cfg} {T:TT AV}:evalO C T (.const (.string { data:=#[115,116,114,117,99,116,117,114,101,32] }))=some (.str cSt):=rfl
theorem kDown {C:Cfg} {T:TT AV}:evalO C T (.const (.string { data:=#[100,111,119,110] }))=some (.str sDown):=rfl
theorem kUp {C:Cfg} {T:TT AV}:evalO C T (.const (.string { data:=#[117,112] }))=some (.str sUp):=rfl
theorem kLast {C:Cfg} {T:TT AV}:evalO C T (.const (.string { data:=#[108,97,115,116] }))=some (.str sLast):=rfl
theorem kFirst {C:Cfg} {T:TT AV}:evalO C T (.const (.string { data:=#[102,105,114,115,116] }))=some (.str sFirst):=rfl
attribute [go_sem] kLn kPc kSw kSt kDown kUp kLast kFirst
end Go.Sim

/-
Texts: a table for the reference's reading of a line.
-/
namespace Go.Sim
open Go Go.Proofs
set_option maxRecDepth 100000
set_option maxHeartbeats 16000000
noncomputable def PPwr:FuncId→Option (List AV→Option AV):=addPrim 224 p224 (addPrim 223 p223 (fun _=>none))
theorem enwr_223:En PPwr 223 p223:=enter_prim (by rfl) (by kernel_rfl)
theorem enwr_224:En PPwr 224 p224:=enter_prim (by rfl) (by kernel_rfl)
attribute [go_sem ↓] enwr_223 enwr_224
noncomputable def planR (f:FuncId) (id:Nat):List OpI:=cond (Nat.beq f 222 && Nat.beq id 5) ([⟨.data,0,0,[]⟩,⟨.load,0,1,[]⟩,⟨.data,0,0,[]⟩,⟨.load,0,4,[]⟩,⟨.data,0,0,[]⟩,⟨.data,0,28,[]⟩,⟨.data,0,60,[]⟩,⟨.load,0,124,[]⟩,⟨.data,0,0,[]⟩,⟨.data,0,0,[]⟩,⟨.load,0,512,[]⟩,⟨.data,0,0,[]⟩,⟨.data,0,3584,[]⟩,⟨.data,0,7680,[]⟩,⟨.load,0,15872,[]⟩,⟨.writeAt,0,32512,[7,3,1]⟩,⟨.data,1,65532,[]⟩,⟨.fresh,1,131068,[]⟩,⟨.writeAt,2,262143,[]⟩,⟨.data,3,524287,[]⟩,⟨.writeAt,3,1048575,[]⟩]) (cond (Nat.beq f 173 && Nat.beq id 5) ([⟨.data,0,0,[]⟩,⟨.load,0,1,[]⟩,⟨.data,0,0,[]⟩,⟨.data,0,4,[]⟩,⟨.load,0,12,[]⟩,⟨.data,0,28,[]⟩,⟨.fresh,0,60,[]⟩,⟨.writeAt,1,127,[]⟩,⟨.data,2,255,[]⟩,⟨.writeAt,2,511,[]⟩]) (NC.plans f id))
noncomputable def WR:Cfg:=walkC (fun f=>Nat.beq f 222 || Nat.beq f 173) NC.refApp (fun f t=>(Nat.beq f 222 || Nat.beq f 173) && Nat.beq t 22) NC.mode planR PPwr (fun _=>none)
theorem wrP:WR.P=NC.P:=rfl
theorem wrF (f:FuncId) (t:TypeId):WR.frz f t=false:=Eq.trans rfl rfl
theorem wrp_222_5:WR.plans 222 5=[⟨.data,0,0,[]⟩,⟨.load,0,1,[]⟩,⟨.data,0,0,[]⟩,⟨.load,0,4,[]⟩,⟨.data,0,0,[]⟩,⟨.data,0,28,[]⟩,⟨.data,0,60,[]⟩,⟨.load,0,124,[]⟩,⟨.data,0,0,[]⟩,⟨.data,0,0,[]⟩,⟨.load,0,512,[]⟩,⟨.data,0,0,[]⟩,⟨.data,0,3584,[]⟩,⟨.data,0,7680,[]⟩,⟨.load,0,15872,[]⟩,⟨.writeAt,0,32512,[7,3,1]⟩,⟨.data,1,65532,[]⟩,⟨.fresh,1,131068,[]⟩,⟨.writeAt,2,262143,[]⟩,⟨.data,3,524287,[]⟩,⟨.writeAt,3,1048575,[]⟩]:=by kernel_rfl
theorem wrp_173_5:WR.plans 173 5=[⟨.data,0,0,[]⟩,⟨.load,0,1,[]⟩,⟨.data,0,0,[]⟩,⟨.data,0,4,[]⟩,⟨.load,0,12,[]⟩,⟨.data,0,28,[]⟩,⟨.fresh,0,60,[]⟩,⟨.writeAt,1,127,[]⟩,⟨.data,2,255,[]⟩,⟨.writeAt,2,511,[]⟩]:=by kernel_rfl
theorem wrp_173_11:WR.plans 173 11=[⟨.data,0,0,[]⟩,⟨.load,0,1,[]⟩,⟨.data,0,0,[]⟩,⟨.data,0,0,[]⟩,⟨.load,0,8,[]⟩,⟨.data,0,0,[]⟩,⟨.data,0,56,[]⟩,⟨.data,0,120,[]⟩,⟨.load,0,248,[]⟩,⟨.data,0,0,[]⟩,⟨.data,0,0,[]⟩,⟨.data,0,0,[]⟩,⟨.data,0,2048,[]⟩,⟨.load,0,6144,[]⟩,⟨.data,0,14336,[]⟩,⟨.data,0,32256,[]⟩,⟨.data,0,65024,[]⟩,⟨.writeAt,0,131064,[1]⟩,⟨.data,1,262143,[]⟩,⟨.data,1,524287,[]⟩,⟨.writeAt,1,1048575,[]⟩]:=by kernel_rfl
theorem wrp_173_12:WR.plans 173 12=[⟨.load,0,0,[]⟩,⟨.data,0,0,[]⟩,⟨.data,0,2,[]⟩,⟨.data,0,6,[]⟩,⟨.data,0,14,[]⟩,⟨.data,0,30,[]⟩,⟨.data,0,62,[]⟩,⟨.data,0,126,[]⟩,⟨.load,0,254,[]⟩,⟨.data,0,510,[]⟩,⟨.data,0,1022,[]⟩,⟨.data,0,2046,[]⟩,⟨.data,0,4094,[]⟩,⟨.load,0,8190,[]⟩,⟨.data,0,16382,[]⟩,⟨.data,0,32766,[]⟩,⟨.data,0,65534,[]⟩,⟨.writeAt,0,2047,[13]⟩,⟨.data,1,133119,[]⟩,⟨.data,1,524287,[]⟩]:=by kernel_rfl
theorem wrp_173_15:WR.plans 173 15=[⟨.data,0,0,[]⟩,⟨.load,0,1,[]⟩,⟨.data,0,0,[]⟩,⟨.data,0,4,[]⟩,⟨.load,0,12,[]⟩,⟨.data,0,0,[]⟩,⟨.data,0,32,[]⟩,⟨.load,0,96,[]⟩,⟨.data,0,0,[]⟩,⟨.data,0,0,[]⟩,⟨.data,0,512,[]⟩,⟨.load,0,1536,[]⟩,⟨.data,0,0,[]⟩,⟨.data,0,4096,[]⟩,⟨.load,0,12288,[]⟩,⟨.data,0,28672,[]⟩,⟨.data,0,65532,[]⟩,⟨.data,0,131068,[]⟩,⟨.writeAt,0,262143,[]⟩,⟨.data,1,524287,[]⟩,⟨.writeAt,1,1048575,[]⟩]:=by kernel_rfl
theorem wrp_173_16:WR.plans 173 16=[⟨.load,0,0,[]⟩,⟨.data,0,0,[]⟩,⟨.data,0,2,[]⟩,⟨.data,0,6,[]⟩,⟨.data,0,14,[]⟩,⟨.load,0,30,[]⟩,⟨.data,0,62,[]⟩,⟨.data,0,126,[]⟩,⟨.data,0,254,[]⟩,⟨.data,0,510,[]⟩,⟨.load,0,1022,[]⟩,⟨.data,0,2046,[]⟩,⟨.data,0,4094,[]⟩,⟨.data,0,8190,[]⟩,⟨.writeAt,0,255,[10]⟩,⟨.data,1,16639,[]⟩,⟨.data,1,65535,[]⟩]:=by kernel_rfl
theorem wrp_173_20:WR.plans 173 20=[⟨.data,0,0,[]⟩,⟨.load,0,1,[]⟩,⟨.data,0,0,[]⟩,⟨.data,0,4,[]⟩,⟨.load,0,12,[]⟩,⟨.data,0,0,[]⟩,⟨.data,0,32,[]⟩,⟨.load,0,96,[]⟩,⟨.data,0,0,[]⟩,⟨.data,0,256,[]⟩,⟨.load,0,768,[]⟩,⟨.data,0,0,[]⟩,⟨.data,0,0,[]⟩,⟨.data,0,6144,[]⟩,⟨.data,0,16380,[]⟩,⟨.data,0,32764,[]⟩,⟨.writeAt,0,65535,[]⟩,⟨.data,1,131071,[]⟩,⟨.writeAt,1,262143,[]⟩]:=by kernel_rfl
theorem wra_222_22:WR.refApp 222 22=true:=by kernel_rfl
theorem wrl_222_22:WR.lit 222 22=true:=by kernel_rfl
theorem wra_222_54:WR.refApp 222 54=false:=by kernel_rfl
theorem wrl_222_54:WR.lit 222 54=false:=by kernel_rfl
theorem wra_222_23:WR.refApp 222 23=false:=by kernel_rfl
theorem wrl_222_23:WR.lit 222 23=false:=by kernel_rfl
theorem wra_222_24:WR.refApp 222 24=false:=by kernel_rfl
theorem wrl_222_24:WR.lit 222 24=false:=by kernel_rfl
theorem wra_173_22:WR.refApp 173 22=true:=by kernel_rfl
theorem wrl_173_22:WR.lit 173 22=true:=by kernel_rfl
theorem wra_173_54:WR.refApp 173 54=false:=by kernel_rfl
theorem wrl_173_54:WR.lit 173 54=false:=by kernel_rfl
theorem wra_173_23:WR.refApp 173 23=false:=by kernel_rfl
theorem wrl_173_23:WR.lit 173 23=false:=by kernel_rfl
theorem wra_173_24:WR.refApp 173 24=false:=by kernel_rfl
theorem wrl_173_24:WR.lit 173 24=false:=by kernel_rfl
attribute [go_sem] wrP wrF wrp_222_5 wrp_173_5 wrp_173_11 wrp_173_12 wrp_173_15 wrp_173_16 wrp_173_20 wra_222_22 wrl_222_22 wra_222_54 wrl_222_54 wra_222_23 wrl_222_23 wra_222_24 wrl_222_24 wra_173_22 wrl_173_22 wra_173_54 wrl_173_54 wra_173_23 wrl_173_23 wra_173_24 wrl_173_24
theorem wr_en223 {rec:Rec} {lo:Nat} {args:List AV} {H:Heap} {K:AV→Heap→Prop}:VO (aenter WR rec lo 223 args H) K=AO (onPure p223 args) fun v=>K v H:=enter_prim (by rfl) (by kernel_rfl)
theorem wr_en224 {rec:Rec} {lo:Nat} {args:List AV} {H:Heap} {K:AV→Heap→Prop}:VO (aenter WR rec lo 224 args H) K=AO (onPure p224 args) fun v=>K v H:=enter_prim (by rfl) (by kernel_rfl)
attribute [go_sem ↓] wr_en223 wr_en224 op_buildLit
theorem onPure_eq {p:List AV→Option AV} {args:List AV} {v:AV} (h:p args=some v) (h1:pureAll args=true) (h2:v.pure=true):onPure p args=some v:=by
 unfold onPure;rw [if_pos h1,h];simp only [h2,if_true]
end Go.Sim

/-
Texts: a network of one's own, by the reference: lines in a block that is written.
-/
namespace Go.Sim
open Go Go.Proofs
set_option maxRecDepth 100000
set_option maxHeartbeats 16000000
theorem W_cutB {C:Cfg} {lo:Nat} {fid:FuncId} {rnd:Bool} {T:TT AV} {H:Heap} {M:List Nat} {Q:AExit→TT AV→Heap→List Nat→Prop} {a b:Code} (I:TT AV→Heap→List Nat→Prop) (h:W C lo fid rnd a T H M fun e T H M=>e=.nrm∧I T H M) (h2:∀ T H M,I T H M→W C lo fid rnd b T H M Q):W C lo fid rnd (.seq a b) T H M Q:=by
 rw [W_seq]
 refine W_mono h fun e T H M hi => ?_
 rw [hi.1]
 exact h2 T H M hi.2
/-! ### Slices that may be added to -/
def AppE (b:Nat) (H:Heap) (t:Tok) (rows:List (List AV)) (sz:Nat) (e:TypeId):Prop:=(rows=[]∧(t=.nil∨t=.exact)) ∨ ∃ j,t=.tok j∧rows ≠ []∧b≤j∧j < H.n∧H.get j=.row [] sz e
theorem appE {lo b:Nat} {H:Heap} {t:Tok} {rows rx:List (List AV)} {sz:Nat} {e:TypeId} (h:AppE b H t rows sz e) (hlo:lo≤b) (hb:b≤H.n) (h1:rows.length+rx.length≤maxRows) (h2:rx.all pureRow=true) (hs:rx.map (List.map AV.strip0)=rx) (h3:0 < sz) (h4:rows.all (fun r=>r.length=sz)=true) :
 ∃ t' H',appP lo H sz e (.ps t rows) rx=some (.ps t' (rows++rx),H')∧AppE b H' t' (rows++rx) sz e∧H.n≤H'.n∧(∀ i,i < b→H'.get i=H.get i) ∧ ∀ i,i < H.n→H.get i ≠ .row [] sz e→H'.get i=H.get i:=by
 by_cases h0:rx=[]
 · subst h0
   refine ⟨t,H,by unfold appP;simp,by simpa using h,Nat.le_refl _,fun _ _=>rfl,fun _ _ _=>rfl⟩
 rcases h with ⟨rfl,ht⟩ | ⟨j,rfl,h6,hbj,h7,h8⟩
 · have e0:appP lo H sz e (.ps t []) rx=some (.ps (.tok H.n) rx,H.push (.row [] sz e)):=by
    cases rx with
    | nil=>exact absurd rfl h0
    | cons a r =>
      unfold appP
      rcases ht with rfl | rfl
      all_goals
       simp only [List.length_nil,Nat.zero_add] at h1 ⊢
       simp only [h1,h2,h3,hs,decide_true,Bool.true_and,Bool.and_true,List.all_nil,if_true,List.nil_append]
   refine ⟨.tok H.n,H.push (.row [] sz e),by rw [List.nil_append];exact e0,.inr ⟨H.n,rfl,by simpa using h0,hb,by simp,by rw [Heap.get_push,if_pos rfl]⟩,by simp,fun i hi=>by rw [Heap.get_push,if_neg (by omega)],fun i hi _=>by rw [Heap.get_push,if_neg (by omega)]⟩
 · have e0:=app_next (lo:=lo) h0 h1 h2 h3 h4 h8 (Nat.le_trans hlo hbj) h6
   rw [hs] at e0
   refine ⟨.tok H.n,(H.set j .dead).push (.row [] sz e),e0,.inr ⟨H.n,rfl,by simp [h6],hb,by simp,by rw [Heap.get_push,if_pos (by simp)]⟩,by simp,fun i hi => ?_,fun i hi hne => ?_⟩
   · rw [Heap.get_push,if_neg (by simp;omega),Heap.get_set,if_neg (by omega)]
   · rw [Heap.get_push,if_neg (by simp;omega),Heap.get_set,if_neg (fun he=>hne (by rw [he];exact h8))]
theorem AppE.keep {b:Nat} {H H':Heap} {t:Tok} {rows:List (List AV)} {sz:Nat} {e:TypeId} (h:AppE b H t rows sz e) (hn:H.n≤H'.n) (hg:∀ i,i < H.n→b≤i→H.get i=.row [] sz e→H'.get i=H.get i):AppE b H' t rows sz e:=by
 rcases h with h | ⟨j,rfl,h6,hb,h7,h8⟩
 · exact .inl h
 · exact .inr ⟨j,rfl,h6,hb,by omega,by rw [hg j h7 hb h8,h8]⟩
/-! ### Lines in a block -/
abbrev LT:Type:=Tok × Ln
def lnCs (L:List LT):List AV:=L.flatMap fun x=>[.str x.2.name,.ps x.1 (x.2.ps.map Pc.row)]
theorem lnCs_app (a b:List LT):lnCs (a++b)=lnCs a++lnCs b:=by unfold lnCs;rw [List.flatMap_append]
theorem lnCs_len:∀ L:List LT,(lnCs L).length=L.length * 2
 | []=>rfl
 | x::r=>by
   have ih:=lnCs_len r
   show (AV.str x.2.name::AV.ps x.1 (x.2.ps.map Pc.row)::lnCs r).length=_
   simp only [List.length_cons,ih];omega
def LV (te:TypeId) (b:Nat) (H:Heap) (v:AV) (L:List LT):Prop:=(L=[]∧v=.ps .nil [])∨(L ≠ [] ∧ ∃ id,v=.rs id 0 L.length 2 none∧b≤id∧id < H.n∧H.get id=.row (lnCs L) 2 te)
def LastE (pe:TypeId) (b:Nat) (H:Heap) (L:List LT):Prop:=∀ t l,L.getLast? = some (t,l)→AppE b H t (l.ps.map Pc.row) 3 pe
theorem appL {te:TypeId} {lo b:Nat} {H:Heap} {v:AV} {L:List LT} (x:LT) (h:LV te b H v L) (hlo:lo≤b) (hb:b≤H.n) (hL:L.length+1≤maxRows) :
 ∃ id H',appR lo H 2 te v [[.str x.2.name,.ps x.1 (x.2.ps.map Pc.row)]]=some (.rs id 0 (L.length+1) 2 none,H')∧LV te b H' (.rs id 0 (L.length+1) 2 none) (L++[x])∧H.n≤H'.n∧(∀ i,i < b→H'.get i=H.get i) ∧ ∀ i,i < H.n→(∀ cs,H.get i ≠ .row cs 2 te)→H'.get i=H.get i:=by
 have hcs:lnCs [x]=[.str x.2.name,.ps x.1 (x.2.ps.map Pc.row)]:=rfl
 rcases h with ⟨rfl,rfl⟩ | ⟨h0,id,rfl,h1,h2,h3⟩
 · refine ⟨H.n,H.push (.row (lnCs [x]) 2 te), ?_,.inr ⟨by simp,H.n,rfl,hb,by simp,by rw [Heap.get_push,if_pos rfl];rfl⟩,by simp,fun i hi=>by rw [Heap.get_push,if_neg (by omega)],fun i hi _=>by rw [Heap.get_push,if_neg (by omega)]⟩
   rfl
 · have hl:=lnCs_len L
   refine ⟨H.n,(H.set id .dead).push (.row (lnCs (L++[x])) 2 te), ?_,.inr ⟨by simp,H.n,by simp,hb,by simp,by rw [Heap.get_push,if_pos (by simp)]⟩,by simp,fun i hi => ?_,fun i hi hne => ?_⟩
   · unfold appR
     have c1:decide (L.length+[[AV.str x.2.name,AV.ps x.1 (x.2.ps.map Pc.row)]].length≤maxRows)=true:=by simpa using hL
     have c2:decide (lo≤id)=true:=by simp;omega
     simp only [c1,c2,h3,hl,List.drop_zero,Nat.zero_add]
     have e1:lnCs (L++[x])=lnCs L++[AV.str x.2.name,AV.ps x.1 (x.2.ps.map Pc.row)]:=by rw [lnCs_app];rfl
     rw [e1]
     rfl
   · rw [Heap.get_push,if_neg (by simp;omega),Heap.get_set,if_neg (by omega)]
   · rw [Heap.get_push,if_neg (by simp;omega),Heap.get_set,if_neg (fun he=>hne _ (by rw [he];exact h3))]
theorem LV.keep {te:TypeId} {b:Nat} {H H':Heap} {v:AV} {L:List LT} (h:LV te b H v L) (hn:H.n≤H'.n) (hg:∀ i cs,i < H.n→b≤i→H.get i=.row cs 2 te→H'.get i=H.get i):LV te b H' v L:=by
 rcases h with h | ⟨h0,id,rfl,h1,h2,h3⟩
 · exact .inl h
 · exact .inr ⟨h0,id,rfl,h1,by omega,by rw [hg id _ h2 h1 h3,h3]⟩
theorem pc_all (l:List Pc):(l.map Pc.row).all (fun r=>decide (r.length=3))=true:=rows_all (by intro x;rfl) l
end Go.Sim

/-
Texts: OwnNetwork: the walk.
-/
namespace Go.Sim
open Go Go.Proofs
set_option maxRecDepth 100000
set_option maxHeartbeats 32000000
theorem sw_all (l:List Sw):(l.map Sw.row).all (fun r=>decide (r.length=5))=true:=rows_all (by intro x;rfl) l
theorem stc_all (l:List Stc):(l.map Stc.row).all (fun r=>decide (r.length=5))=true:=rows_all (by intro x;rfl) l
end Go.Sim

/-
Texts: lines in a block, read as lists.
-/
namespace Go.Sim
open Go Go.Proofs
set_option maxRecDepth 100000
set_option maxHeartbeats 32000000
def lnFl (L:List Ln):List AV:=L.flatMap fun l=>[.str l.name,.ps .unk (l.ps.map Pc.row)]
theorem deepC_lns (k:Nat) (H:Heap):∀ L:List LT,deepC (deep (k+1) H) (lnCs L)=some (lnFl (L.map Prod.snd))
 | []=>rfl
 | (t,l)::r=>by
   have ih:=deepC_lns k H r
   show deepC (deep (k+1) H) (.str l.name :: .ps t (l.ps.map Pc.row)::lnCs r)=_
   have e1:deep (k+1) H (.str l.name)=some (.str l.name):=rfl
   have e2:deep (k+1) H (.ps t (l.ps.map Pc.row))=some (.ps .unk (l.ps.map Pc.row)):=rfl
   unfold deepC
   rw [e1]
   simp only
   unfold deepC
   rw [e2]
   simp only
   rw [ih]
   rfl
theorem chunks_lns:∀ L:List Ln,chunks 2 L.length (lnFl L)=some (L.map Ln.row)
 | []=>rfl
 | l::r=>by
   have ih:=chunks_lns r
   show chunks 2 (r.length+1) (.str l.name :: .ps .unk (l.ps.map Pc.row)::lnFl r)=_
   unfold chunks
   rw [if_pos (by simp)]
   show (match chunks 2 r.length (lnFl r) with
    | some l'=>some ([AV.str l.name,AV.ps .unk (l.ps.map Pc.row)]::l')
    | none=>none)=_
   rw [ih];rfl
theorem deep_lv {te:TypeId} {b:Nat} {H:Heap} {v:AV} {L:List LT} (h:LV te b H v L) (k:Nat):deep (k+2) H v=some (.ps .unk ((L.map Prod.snd).map Ln.row)):=by
 rcases h with ⟨rfl,rfl⟩ | ⟨h0,id,rfl,_,_,h3⟩
 · rfl
 · have hr:readCells H (.ptr id 0) (L.length * 2)=some (lnCs L):=by
    unfold readCells
    simp only [h3]
    have:=lnCs_len L
    simp only [blkCells,sub?,Nat.zero_add,List.drop_zero,this,Nat.le_refl,if_true]
    rw [List.take_of_length_le (by omega)]
   have hc:=chunks_lns (L.map Prod.snd)
   rw [List.length_map] at hc
   show (match readCells H (.ptr id 0) (L.length * 2) with
    | some cs=>match deepC (deep (k+1) H) cs with
      | some cs'=>match chunks 2 L.length cs' with
        | some rows=>some (AV.ps .unk rows)
        | none=>none
      | none=>none
    | none=>none)=_
   rw [hr]
   simp only
   rw [deepC_lns]
   simp only
   rw [hc]
end Go.Sim

/-
Texts: one line's words, by the reference.
-/
namespace Go.Sim
open Go Go.Proofs
set_option maxRecDepth 100000
set_option maxHeartbeats 64000000
structure Room (n:Net):Prop where
 ok:n.Ok
 lines:n.lines.length+1≤maxRows
 sws:n.sws.length+1≤maxRows
 sts:n.sts.length+1≤maxRows
 ps:∀ l ∈ n.lines,l.ps.length+1≤maxRows
theorem drop_snd {α:Type} {A:List α} {a b:α} {k:Nat} (h:A.length=k):(A++[a,b]).drop (k+1)=[b]:=by
 have e:A++[a,b]=(A++[a])++[b]:=by simp
 rw [e];exact List.drop_left' (by simp [h])
theorem drop_all2 {α:Type} {A:List α} {a b:α} {k:Nat} (h:A.length=k):(A++[a,b]).drop (k+1+1)=[]:=List.drop_eq_nil_of_le (by simp [h])
theorem take_snd {α:Type} {A:List α} {a b:α} {k:Nat} (h:A.length=k):(A++[a,b]).take (k+1)=A++[a]:=by
 have e:A++[a,b]=(A++[a])++[b]:=by simp
 rw [e];exact List.take_left' (by simp [h])
end Go.Sim

/-
Texts: how long what is read of a text may be.
-/
namespace Go.Sim
open Go Go.Proofs
set_option maxRecDepth 100000
set_option maxHeartbeats 16000000
structure Sz (n:Net) (i m:Nat):Prop where
 lines:n.lines.length≤i
 sws:n.sws.length≤i
 sts:n.sts.length≤i
 line:∀ l ∈ n.lines,l.name.length≤m∧l.ps.length≤i
 sw:∀ s ∈ n.sws,s.name.length≤m
 st:∀ s ∈ n.sts,s.name.length≤m∧s.kind.length≤m
theorem Sz.zero (m:Nat):Sz zNet 0 m:=⟨Nat.le_refl _,Nat.le_refl _,Nat.le_refl _,fun l h=>(by cases h),fun l h=>(by cases h),fun l h=>(by cases h)⟩
theorem Sz.more {n:Net} {i m:Nat} (h:Sz n i m):Sz n (i+1) m:=⟨by have:=h.lines;omega,by have:=h.sws;omega,by have:=h.sts;omega,fun l hl=>⟨(h.line l hl).1,by have:=(h.line l hl).2;omega⟩,h.sw,h.st⟩
theorem Sz.ok {n:Net} {i m:Nat} (h:Sz n i m) (hi:i≤maxRows) (hm:m≤maxRows):n.Ok:=⟨Nat.le_trans h.lines hi,fun l hl=>⟨Nat.le_trans (h.line l hl).1 hm,Nat.le_trans (h.line l hl).2 hi⟩,Nat.le_trans h.sws hi,fun s hs=>Nat.le_trans (h.sw s hs) hm,Nat.le_trans h.sts hi,fun s hs=>⟨Nat.le_trans (h.st s hs).1 hm,Nat.le_trans (h.st s hs).2 hm⟩⟩
theorem Sz.room {n:Net} {i m:Nat} (h:Sz n i m) (hi:i+1≤maxRows) (hm:m≤maxRows):Room n:=⟨h.ok (by omega) hm,by have:=h.lines;omega,by have:=h.sws;omega,by have:=h.sts;omega,fun l hl=>by have:=(h.line l hl).2;omega⟩
theorem addPc_mem {p:Pc} {ls:List Ln} {x:Ln} (h:x ∈ addPc p ls):x ∈ ls ∨ ∃ l ∈ ls,x=⟨l.name,l.ps++[p]⟩:=by
 by_cases h0:ls=[]
 · subst h0;cases h
 · obtain ⟨a,l,rfl⟩:∃ a l,ls=a++[l]:=⟨ls.dropLast,ls.getLast h0,(List.dropLast_concat_getLast h0).symm⟩
   rw [addPc_snoc] at h
   rcases List.mem_append.1 h with h | h
   · exact .inl (by simp [h])
   · exact .inr ⟨l,by simp,by simpa using h⟩
theorem wAt_len {w:List Wd} {m:Nat} (h:∀ x ∈ w,x.length≤m) (i:Nat):(wAt w i).length≤m:=by
 unfold wAt
 rw [List.getD_eq_getElem?_getD]
 cases hx:w[i]? with
 | none=>simp
 | some x=>exact h x (List.mem_of_getElem? hx)
theorem Sz.parsed {n:Net} {i m:Nat} (h:Sz n i m) {w:List Wd} (hw:∀ x ∈ w,x.length≤m):Sz (parsedF n w).1 (i+1) m:=by
 have h':=h.more
 have hl:=h.lines;have hs:=h.sws;have ht:=h.sts
 unfold parsedF
 split
 · exact h'
 split
 · refine ⟨by show (n.lines++[_]).length≤_;simp;omega,h'.sws,h'.sts,fun l hl => ?_,h'.sw,h'.st⟩
   rcases List.mem_append.1 (show l ∈ n.lines++[_] from hl) with hl | hl
   · exact h'.line l hl
   · obtain rfl:=List.mem_singleton.1 hl
     exact ⟨wAt_len hw 1,by simp⟩
 split
 · refine ⟨by show (addPc _ n.lines).length≤_;rw [addPc_length];omega,h'.sws,h'.sts,fun l hl => ?_,h'.sw,h'.st⟩
   rcases addPc_mem (show l ∈ addPc _ n.lines from hl) with hl | ⟨x,hx,rfl⟩
   · exact h'.line l hl
   · exact ⟨(h.line x hx).1,by have:=(h.line x hx).2;simp;omega⟩
 split
 · refine ⟨h'.lines,by show (n.sws++[_]).length≤_;simp;omega,h'.sts,h'.line,fun s hs => ?_,h'.st⟩
   rcases List.mem_append.1 (show s ∈ n.sws++[_] from hs) with hs | hs
   · exact h'.sw s hs
   · obtain rfl:=List.mem_singleton.1 hs
     exact wAt_len hw 1
 split
 · refine ⟨h'.lines,h'.sws,by show (n.sts++[_]).length≤_;simp;omega,h'.line,h'.sw,fun s hs => ?_⟩
   rcases List.mem_append.1 (show s ∈ n.sts++[_] from hs) with hs | hs
   · exact h'.st s hs
   · obtain rfl:=List.mem_singleton.1 hs
     exact ⟨wAt_len hw 1,wAt_len hw 2⟩
 · exact h'
theorem splitA_mem {c:Nat}:∀ (s cur:List Nat),∀ w ∈ splitA c cur s,w.length≤cur.length+s.length
 | [],cur,w,h=>by
   have:w=cur:=by simpa [splitA] using h
   rw [this];simp
 | x::r,cur,w,h=>by
   rw [splitA_cons] at h
   split at h
   · rcases List.mem_cons.1 h with rfl | h
     · simp
     · have:=splitA_mem r [] w h
       simp at this ⊢;omega
   · have:=splitA_mem r (cur++[x]) w h
     simp at this ⊢;omega
theorem splitL_mem {c:Nat} {s w:List Nat} (h:w ∈ splitL c s):w.length≤s.length:=by
 have:=splitA_mem s [] w h
 simpa using this
theorem splitL_le (c:Nat) (s:List Nat):(splitL c s).length≤s.length+1:=by
 rw [splitL_len];have:=cntC_le c s;omega
noncomputable def p173:List AV→Option AV:=primOf (α:=Net × List Wd) (fun x=>[.agg x.1.cells,.ps .unk (x.2.map strRow)]) (fun x=>(Room x.1∧x.2 ≠ []∧x.2.length≤maxRows ∧ ∀ w ∈ x.2,w.length≤maxRows)) (fun x=>.tup [.agg (parsedF x.1 x.2).1.cells,.int .i64 (parsedF x.1 x.2).2.1,.bool (parsedF x.1 x.2).2.2])
end Go.Sim

/-
Texts: Parse, by the reference: its table.
-/
namespace Go.Sim
open Go Go.Proofs
set_option maxRecDepth 100000
set_option maxHeartbeats 32000000
noncomputable def PP90:FuncId→Option (List AV→Option AV):=fun f=>cond (Nat.beq f 22) (some p22) (cond (Nat.beq f 93) (some p93) (cond (Nat.beq f 173) (some p173) none))
noncomputable def W90:Cfg:=walkC (fun f=>Nat.beq f 90) (fun _ _=>false) (fun _ _=>false) NC.mode (fun f id=>cond (Nat.beq f 90 && Nat.beq id 9) ([⟨.load,0,0,[]⟩,⟨.data,0,0,[]⟩,⟨.data,0,0,[]⟩,⟨.data,0,6,[]⟩,⟨.load,0,14,[]⟩,⟨.read,0,30,[]⟩,⟨.read,0,63,[]⟩,⟨.data,0,127,[]⟩,⟨.data,0,255,[]⟩,⟨.data,0,255,[]⟩,⟨.data,0,255,[]⟩,⟨.fresh,0,0,[]⟩,⟨.writeAt,1,2559,[]⟩,⟨.data,2,7167,[]⟩,⟨.data,2,16383,[]⟩]) (NC.plans f id)) PP90 (fun _=>none)
theorem w90P:W90.P=NC.P:=rfl
theorem w90F (f:FuncId) (t:TypeId):W90.frz f t=false:=Eq.trans rfl rfl
theorem w90p:W90.plans 90 9=[⟨.load,0,0,[]⟩,⟨.data,0,0,[]⟩,⟨.data,0,0,[]⟩,⟨.data,0,6,[]⟩,⟨.load,0,14,[]⟩,⟨.read,0,30,[]⟩,⟨.read,0,63,[]⟩,⟨.data,0,127,[]⟩,⟨.data,0,255,[]⟩,⟨.data,0,255,[]⟩,⟨.data,0,255,[]⟩,⟨.fresh,0,0,[]⟩,⟨.writeAt,1,2559,[]⟩,⟨.data,2,7167,[]⟩,⟨.data,2,16383,[]⟩]:=by kernel_rfl
attribute [go_sem] w90P w90F w90p
theorem w90_22 {rec:Rec} {lo:Nat} {args:List AV} {H:Heap} {K:AV→Heap→Prop}:VO (aenter W90 rec lo 22 args H) K=AO (onPure p22 args) fun v=>K v H:=enter_prim (by rfl) (by kernel_rfl)
theorem w90_93 {rec:Rec} {lo:Nat} {args:List AV} {H:Heap} {K:AV→Heap→Prop}:VO (aenter W90 rec lo 93 args H) K=AO (onPure p93 args) fun v=>K v H:=enter_prim (by rfl) (by kernel_rfl)
theorem w90_173 {rec:Rec} {lo:Nat} {args:List AV} {H:Heap} {K:AV→Heap→Prop}:VO (aenter W90 rec lo 173 args H) K=AO (onPure p173 args) fun v=>K v H:=enter_prim (by rfl) (by kernel_rfl)
attribute [go_sem ↓] w90_22 w90_93 w90_173
end Go.Sim

/-
Texts: how long what is printed may be.
-/
namespace Go.Sim
open Go Go.Proofs
theorem name_len {s:Wd} (h:nameB s=true):s.length≤24:=by
 cases s with
 | nil=>simp
 | cons c r =>
   unfold nameB at h
   simp only [Bool.and_eq_true,decide_eq_true_eq] at h
   exact h.1.1
theorem itoa_len {x:Int} (h:numOk x):(itoaL x).length≤24:=by
 obtain ⟨n,rfl⟩:∃ n:Nat,x=(n:Int):=⟨x.toNat,by have:=h.1;omega⟩
 rw [itoaL_nat]
 have hn:n < 10 ^ 9:=by have:=h.2;omega
 have h9:(itoaN 20 n).length≤9:=(itoaN_ok 19 n (Nat.lt_of_lt_of_le hn (by decide))).len 9 (by decide) hn
 omega
theorem join_len (c:Nat) {m:Nat}:∀ ws:List Wd,(∀ w ∈ ws,w.length≤m)→(joinC c ws).length≤ws.length * (m+1)
 | [],_=>by simp [joinC]
 | [w],h=>by
   have:=h w (by simp)
   show w.length≤_
   simp;omega
 | w::v::r,h=>by
   have h1:=h w (by simp)
   have ih:=join_len c (v::r) fun x hx=>h x (by simp [hx])
   show (w++c::joinC c (v::r)).length≤_
   simp only [List.length_append,List.length_cons] at ih ⊢
   rw [Nat.add_mul,Nat.one_mul]
   omega
theorem tx_len {n:Net} (h:PrOk n):∀ l ∈ txLines n,l.length≤150:=by
 have six:∀ ws:List Wd,ws.length≤6→(∀ w ∈ ws,w.length≤24)→(joinC 32 ws).length≤150:=fun ws h1 h2=>by
  have:=join_len 32 ws h2
  have h3:ws.length * (24+1)≤6 * 25:=Nat.mul_le_mul_right 25 h1
  omega
 intro l hl
 unfold txLines at hl
 rcases List.mem_append.1 hl with hl | hl
 · rcases List.mem_append.1 hl with hl | hl
   · obtain ⟨x,hx,hm⟩:=List.mem_flatMap.1 hl
     obtain ⟨h1,h2⟩:=h.line x hx
     rcases List.mem_cons.1 hm with rfl | hm
     · refine six _ (by simp) fun w hw => ?_
       simp only [List.mem_cons,List.mem_nil_iff,or_false] at hw
       rcases hw with rfl | rfl
       · decide
       · exact name_len h1
     · obtain ⟨p,hp,rfl⟩:=List.mem_map.1 hm
       refine six _ (by simp) fun w hw => ?_
       simp only [List.mem_cons,List.mem_nil_iff,or_false] at hw
       rcases hw with rfl | rfl | rfl | rfl
       · decide
       · exact itoa_len (h2 p hp).1
       · exact itoa_len (h2 p hp).2
       · split<;>decide
   · obtain ⟨s,hs,rfl⟩:=List.mem_map.1 hl
     obtain ⟨h1,h2,h3,h4⟩:=h.sw s hs
     refine six _ (by simp) fun w hw => ?_
     simp only [List.mem_cons,List.mem_nil_iff,or_false] at hw
     rcases hw with rfl | rfl | rfl | rfl | rfl | rfl
     · decide
     · exact name_len h1
     · exact name_len h2
     · exact itoa_len h3
     · exact name_len h4
     · split<;>decide
 · obtain ⟨s,hs,rfl⟩:=List.mem_map.1 hl
   obtain ⟨h1,h2,h3,h4,h5⟩:=h.st s hs
   refine six _ (by simp) fun w hw => ?_
   simp only [List.mem_cons,List.mem_nil_iff,or_false] at hw
   rcases hw with rfl | rfl | rfl | rfl | rfl | rfl
   · decide
   · exact name_len h1
   · exact name_len h2
   · exact name_len h3
   · exact itoa_len h4
   · exact itoa_len h5
theorem tx_flat {L:List Wd} (h:∀ l ∈ L,l.length≤150):(L.flatMap fun l=>l++[10]).length≤L.length * 151:=by
 induction L with
 | nil=>simp
 | cons a r ih =>
   have h1:=h a (by simp)
   have h2:=ih fun x hx=>h x (by simp [hx])
   rw [List.flatMap_cons,List.length_append,List.length_append,List.length_cons,List.length_cons,Nat.add_mul]
   simp only [List.length_nil]
   omega
theorem sum_le {l:List Ln} {k:Nat} (h:∀ x ∈ l,x.ps.length≤k):(l.map fun x=>x.ps.length).sum≤l.length * k:=by
 induction l with
 | nil=>simp
 | cons a r ih =>
   have h1:=h a (by simp)
   have h2:=ih fun x hx=>h x (by simp [hx])
   rw [List.map_cons,List.sum_cons,List.length_cons,Nat.add_mul]
   omega
theorem print_len {n:Net} (hs:shortN n=true) (hz:netP n=0):(printF n).length≤maxRows:=by
 have h1:=tx_flat (tx_len (prOk hz))
 have h2:=txLines_length n
 unfold shortN at hs
 simp only [Bool.and_eq_true,Bool.not_eq_true',Bool.or_eq_false_iff,decide_eq_false_iff_not,List.all_eq_true] at hs
 obtain ⟨⟨⟨⟨⟨s1,s2⟩,s3⟩,s4⟩,s5⟩,s6⟩:=hs
 have hp:∀ x ∈ n.lines,x.ps.length≤1000:=fun x hx=>by
  have:=s4 x hx
  unfold shortLn at this
  simp only [Bool.and_eq_true,Bool.not_eq_true',decide_eq_false_iff_not] at this
  omega
 have h3:=sum_le hp
 have h4:n.lines.length≤9:=by omega
 have h5:n.lines.length * 1000≤9 * 1000:=Nat.mul_le_mul_right 1000 h4
 have h6:(txLines n).length≤9100:=by omega
 have h7:(txLines n).length * 151≤9100 * 151:=Nat.mul_le_mul_right 151 h6
 show ((txLines n).flatMap fun l=>l++[10]).length≤maxRows
 unfold maxRows;omega
end Go.Sim

/-
Texts: Print and Parse as they are known to the laws.
-/
namespace Go.Sim
open Go Go.Proofs
set_option maxRecDepth 100000
set_option maxHeartbeats 16000000
theorem strs1_inj (x y:List Nat) (h:[AV.str x]=[AV.str y]):x=y:=by simpa using h
noncomputable def p87:List AV→Option AV:=primOf (α:=Net) (fun x=>[.agg x.cells]) (fun x=>(x.Ok∧(netP x=0→(printF x).length≤maxRows))) (fun x=>.tup [.str (if netP x=0 then printF x else []),i64 (netP x)])
theorem pok87:∀ args v,p87 args=some v → ∀ lo H,CallOk NC lo 87 args H v H:=by
 intro args v h
 obtain ⟨x,rfl,hp,rfl⟩:=primOf_inv h
 clear h
 revert x
 intro x hp;exact c87 x hp.1 hp.2
theorem pe87 (x:Net) (hp:(fun x=>(x.Ok∧(netP x=0→(printF x).length≤maxRows))) x):p87 ((fun x=>[.agg x.cells]) x)=some ((fun x=>.tup [.str (if netP x=0 then printF x else []),i64 (netP x)]) x):=primOf_enc (by intro x y h;exact cells1_inj x y h) x hp
theorem goG_sz:∀ (ls:List Wd) (n:Net) (k:Int) (i j m:Nat),Sz n j m→(∀ l ∈ ls,l.length≤m)→Sz (goG n k i ls).1 (j+ls.length) m
 | [],n,k,i,j,m,h,_=>h
 | l::r,n,k,i,j,m,h,hm=>by
   have grow:∀ d,Sz n (j+d) m:=fun d=>by
    induction d with
    | zero=>exact h
    | succ d ih=>exact ih.more
   have hw:∀ x ∈ splitL 32 l,x.length≤m:=fun x hx=>Nat.le_trans (splitL_mem hx) (hm l (by simp))
   have hp:=h.parsed hw
   have hl:=parsedF_line n (splitL 32 l)
   rw [goG_cons]
   cases hx:lineF n (splitL 32 l) with
   | none=>exact grow _
   | some y =>
     obtain ⟨n',k'⟩:=y
     rw [hx] at hl
     split at hl
     · have e:=Option.some.inj hl
       have e1:n'=(parsedF n (splitL 32 l)).1:=congrArg Prod.fst e
       simp only
       split
       · exact grow _
       · have:=goG_sz r n' k' (i+1) (j+1) m (by rw [e1];exact hp) fun x hx=>hm x (by simp [hx])
         have e2:j+(l::r).length=j+1+r.length:=by rw [List.length_cons];omega
         rw [e2];exact this
     · cases hl
theorem parse_ok (s:Wd):(parseF s).1.Ok:=by
 have z:zNet.Ok:=(Sz.zero 0).ok (by unfold maxRows;omega) (by unfold maxRows;omega)
 unfold parseF
 split
 · exact z
 · rename_i hl
   split
   · exact z
   · split
     · exact z
     · split
       · have h1:=goG_sz (partS s) zNet 0 0 0 s.length (Sz.zero _) fun l hl=>by
          have:l ∈ splitL 10 s:=by
           rw [split_snoc 10 s];exact List.mem_append_left _ hl
          exact splitL_mem this
         have h2:=partS_len s
         have h3:=splitL_le 10 s
         exact h1.ok (by unfold maxRows;omega) (by unfold maxRows;omega)
       · exact z
end Go.Sim

/-
A contract over one block, for a heap of many.
-/
namespace Go.Sim
open Go Go.Proofs
variable {C C2:Cfg}
theorem BRel.lift {g g2:Gh} {n n2:Nat} {w:World} {l l2:Loc} {cs:List AV} {e:TypeId} (hp:∀ c ∈ cs,c.pure=true) (hl:l=l2) (hk:∀ b o v,g.K b o=some v→g2.K b o=some v) (h:BRel C g n w l (.cells cs e)):BRel C2 g2 n2 w l2 (.cells cs e):=by
 subst hl
 obtain ⟨⟨⟨c,e',fz,h1,h2,h3⟩,h4⟩,h5⟩:=h
 exact ⟨⟨⟨c,e',fz,h1,fun i a ha=>by
  obtain ⟨v,hv,hr⟩:=h2 i a ha
  exact ⟨v,hv,(hr.pure (hp a (List.mem_of_getElem? ha))).any hk⟩,h3⟩,h4⟩,h5⟩
theorem local_ok (hP : C2.P = C.P) (hG : C2.glob = C.glob) {f : FuncId} {e : TypeId} {cs cs' rest : List AV} {v : AV}
    {H1 : Heap} (h : CallOk C 0 f (.ptr 0 0 :: rest) (Heap.empty.push (.cells cs e)) v H1) (hn1 : 0 < H1.n) (hg1 : H1.get 0 = .cells cs' e)
    (hcs : ∀ c ∈ cs, c.pure = true) (hcs' : ∀ c ∈ cs', c.pure = true) (hr : ∀ a ∈ rest, a.pure = true) (hv : v.scal = true)
    {lo id : Nat} {H : Heap} (hlo : lo ≤ id) (hid : id < H.n) (hb : H.get id = .cells cs e) : CallOk C2 lo f (.ptr id 0 :: rest) H v (H.set id (.cells cs' e)) := by
  refine ⟨hP ▸ h.1, fun g w cargs hR ha => ?_⟩
  have hl0 : (H.get id).live = true := by rw [hb]; rfl
  have hRb := hR.blk id hid
  rw [hb] at hRb
  have own0 : ∀ b, Own ⟨fun _ => g.L id, g.K⟩ (Heap.empty.push (.cells cs e)) b → b = (g.L id).b := fun b ⟨_, _, _, h⟩ => h.symm
  have ownH : ∀ b, b = (g.L id).b → Own g H b := fun b hb' => ⟨id, hid, hl0, hb'.symm⟩
  have hR0 : Rel C ⟨fun _ => g.L id, g.K⟩ (Heap.empty.push (.cells cs e)) w :=
    { blk := fun i hi => by
        have : i = 0 := by simp [Heap.n_push, empty_n] at hi; exact hi
        subst this
        have hg0 : (Heap.empty.push (ABlk.cells cs e)).get 0 = .cells cs e := by rw [Heap.get_push, if_pos (by rw [empty_n])]
        rw [hg0]
        exact BRel.lift (C := C2) (C2 := C) (g := g) (g2 := ⟨fun _ => g.L id, g.K⟩) (l := g.L id) (l2 := g.L id) hcs rfl (fun _ _ _ h => h) hRb
      out := fun i hi => by
        simp only [Heap.n_push, empty_n] at hi
        rw [Heap.get_push, if_neg (by simp [empty_n]; omega)]; rfl
      lt := fun i _ _ => hR.lt id hid hl0
      inj := fun i j hi hj _ _ hne => by
        simp only [Heap.n_push, empty_n] at hi hj
        omega
      know := hR.know
      apart := fun i _ _ o v hk => hR.apart id hid hl0 o v hk
      glob := fun x cs0 hx => by
        obtain ⟨vals, h1, h2⟩ := hR.glob x cs0 (by rw [hG]; exact hx)
        exact ⟨vals, h1.mono (Nat.le_refl _) ⟨fun _ hi => absurd hi (Nat.not_lt_zero _), fun _ _ _ h => h⟩, h2⟩
      gsz := fun x cs0 hx => by
        obtain ⟨h1, h2⟩ := hR.gsz x cs0 (by rw [hG]; exact hx)
        exact ⟨h1, fun ho => h2 (ownH _ (own0 _ ho))⟩ }
  have ha0 : VRels ⟨fun _ => g.L id, g.K⟩ (Heap.empty.push (.cells cs e)).n (.ptr 0 0 :: rest) cargs := by
    refine ⟨ha.1, fun i a u h1 h2 => ?_⟩
    cases i with
    | zero =>
      have e1 : a = .ptr 0 0 := by simpa using h1.symm
      subst e1
      have hv0 := ha.2 0 (.ptr id 0) u rfl h2
      cases hv0 with
      | ptr hlt => exact .ptr (g := ⟨fun _ => g.L id, g.K⟩) (id := 0) (by simp [Heap.n_push, empty_n])
    | succ i =>
      have hv0 := ha.2 (i + 1) a u h1 h2
      exact (hv0.pure (hr a (List.mem_of_getElem? h1))).any fun _ _ _ h => h
  rw [hP]
  refine (h.2 _ w cargs hR0 ha0).mono fun e' w' hpost => ?_
  obtain ⟨cv, rfl, g', r1, r2, r3⟩ := hpost.returned
  have hL0 : g'.L 0 = g.L id := r2.le.L 0 (by simp [Heap.n_push, empty_n])
  have hle : Gh.le H.n g ⟨g.L, g'.K⟩ := ⟨fun _ _ => rfl, r2.le.K⟩
  have hno : ∀ j, j < H.n → j ≠ id → (H.get j).live = true → ¬ Own ⟨fun _ => g.L id, g.K⟩ (Heap.empty.push (.cells cs e)) (g.L j).b := fun j hj hne hl ho => hR.inj j id hj hid hl hl0 hne (own0 _ ho)
  have live' : ∀ j, ((H.set id (.cells cs' e)).get j).live = true → (H.get j).live = true := fun j hl => by
    by_cases hj : j = id
    · rw [hj]; exact hl0
    · rw [Heap.get_set, if_neg hj] at hl; exact hl
  have hE : Ext lo g H w ⟨g.L, g'.K⟩ (H.set id (.cells cs' e)) w' := by
    refine ⟨hle, by simp, fun i hi hil => by rw [Heap.get_set, if_neg (by omega)], fun b ⟨j, hj, hl, hb'⟩ => .inl ⟨j, by simpa using hj, live' j hl, hb'⟩, fun b o u hk => ?_, fun b hlt hnb => r2.frame b hlt fun ho => hnb (ownH _ (own0 _ ho)), r2.size, r2.os, r2.output, r2.tape⟩
    rcases r2.newK b o u hk with h | h | h
    · exact .inl h
    · exact .inr (.inl (ownH _ (own0 _ h)))
    · exact .inr (.inr h)
  refine ⟨⟨g.L, g'.K⟩, ⟨fun j hj => ?_, fun j hj => ?_, fun j hj hl => ?_, fun i j hi hj hli hlj hne => ?_, r1.know, fun j hj hl o u hk => ?_, fun x cs0 hx => ?_, hR.gsz_ext hE⟩, hE, ?_⟩
  · simp only [Heap.n_set] at hj ⊢
    by_cases hji : j = id
    · subst hji
      rw [Heap.get_set, if_pos rfl]
      have hb0 := r1.blk 0 hn1
      rw [hg1] at hb0
      exact BRel.lift (C := C) (C2 := C2) (g := g') (g2 := ⟨g.L, g'.K⟩) hcs' hL0 (fun _ _ _ h => h) hb0
    · rw [Heap.get_set, if_neg hji]
      cases hl : (H.get j).live with
      | true => exact (hR.blk j hj).mono (Nat.le_refl _) hle (r2.frame _ (hR.lt j hj hl) (hno j hj hji hl))
      | false => rw [dead_of hl]; trivial
  · simp only [Heap.n_set] at hj
    rw [Heap.get_set, if_neg (by omega)]; exact hR.out j hj
  · exact Nat.lt_of_lt_of_le (hR.lt j (by simpa using hj) (live' j hl)) r2.size
  · exact hR.inj i j (by simpa using hi) (by simpa using hj) (live' i hli) (live' j hlj) hne
  · have hj' : j < H.n := by simpa using hj
    by_cases hji : j = id
    · subst hji
      have := r1.apart 0 hn1 (by rw [hg1]; rfl) o u
      rw [hL0] at this
      exact this hk
    · rcases r2.newK _ o u hk with h1 | h1 | h1
      · exact hR.apart j hj' (live' j hl) o u h1
      · exact absurd h1 (hno j hj' hji (live' j hl))
      · have := hR.lt j hj' (live' j hl)
        simp only [] at h1
        omega
  · obtain ⟨vals, h1, h2⟩ := hR.glob x cs0 hx
    exact ⟨vals, h1.mono (Nat.le_refl _) (hle.mono (Nat.zero_le _)), fun i u hi => hle.K _ _ _ (h2 i u hi)⟩
  · cases r3 <;> first | exact .bool _ | exact .int _ _ | (rename_i hs; exact .str hs) | (simp [AV.scal] at hv)
end Go.Sim

/-
Texts: the taker's block, and functions that turn it.
-/
namespace Go.Sim
open Go Go.Proofs
set_option maxRecDepth 100000
def TkC (t:Tok) (x:Tk):List AV:=[.ps t (x.ws.map strRow),.bool x.wrong]
def TkT (t:Tok) (x:Tk):Prop:=t=.unk∨(t=.nil∧x.ws=[])
theorem tkC_pure {t:Tok} {x:Tk} (h:TkT t x):∀ c ∈ TkC t x,c.pure=true:=by
 intro c hc
 simp only [TkC,List.mem_cons,List.mem_nil_iff,or_false] at hc
 rcases hc with rfl | rfl
 · rcases h with rfl | ⟨rfl,_⟩<;>rfl
 · rfl
theorem tkC_inj {t t':Tok} {x x':Tk} (h:TkC t x=TkC t' x'):t=t'∧x=x':=by
 unfold TkC at h
 simp only [List.cons.injEq,AV.ps.injEq,AV.bool.injEq,and_true] at h
 obtain ⟨⟨h1,h2⟩,h3⟩:=h
 obtain ⟨ws,b⟩:=x
 obtain ⟨ws',b'⟩:=x'
 simp only at h2 h3
 have:ws=ws':=by
  have:=List.map_inj_right (f:=strRow) (fun a b h=>strRow_inj a b h) |>.1 h2
  exact this
 subst this;subst h3
 exact ⟨h1,rfl⟩
def wordT (x:Tk):Tok:=match x.ws with
 | []=>.nil
 | w::_=>if w=[] then .nil else .unk
theorem wordT_ok (x:Tk):TkT (wordT x) x.word.2:=by
 obtain ⟨ws,b⟩:=x
 unfold wordT Tk.word
 cases ws with
 | nil=>exact .inr ⟨rfl,rfl⟩
 | cons w r =>
   by_cases hw:w=[]
   · simp only [hw,if_true];exact .inr ⟨rfl,rfl⟩
   · simp only [hw,if_false];exact .inl rfl
open Classical in
noncomputable def hTk (F:List AV→Tk→Option (AV × Tok × Tk)) (lo:Nat) (args:List AV) (H:Heap):Option (AV × Heap):=match args with
 | .ptr id 0::rest=>if h:∃ y:Tok × Tk,H.get id=.cells (TkC y.1 y.2) 291∧TkT y.1 y.2∧lo≤id∧id < H.n then (match F rest (Classical.choose h).2 with
  | some (v,t',x')=>some (v,H.set id (.cells (TkC t' x') 291))
  | none=>none) else none
 | _=>none
theorem hTk_eq {F:List AV→Tk→Option (AV × Tok × Tk)} {lo id:Nat} {rest:List AV} {H:Heap} {t t':Tok} {x x':Tk} {v:AV} (hg:H.get id=.cells (TkC t x) 291) (ht:TkT t x) (hlo:lo≤id) (hid:id < H.n) (hF:F rest x=some (v,t',x')) :
 hTk F lo (.ptr id 0::rest) H=some (v,H.set id (.cells (TkC t' x') 291)):=by
 have hex:∃ y:Tok × Tk,H.get id=.cells (TkC y.1 y.2) 291∧TkT y.1 y.2∧lo≤id∧id < H.n:=⟨(t,x),hg,ht,hlo,hid⟩
 unfold hTk
 simp only
 rw [dif_pos hex]
 have hs:=Classical.choose_spec hex
 have e:(Classical.choose hex).2=x:=by
  have h1:=hg.symm.trans hs.1
  exact (tkC_inj (ABlk.cells.inj h1).1).2.symm
 rw [e,hF]
theorem hTk_inv {F:List AV→Tk→Option (AV × Tok × Tk)} {lo:Nat} {args:List AV} {H H':Heap} {v:AV} (h:hTk F lo args H=some (v,H')) :
 ∃ id rest t x t' x',args=.ptr id 0::rest∧H.get id=.cells (TkC t x) 291∧TkT t x∧lo≤id∧id < H.n∧F rest x=some (v,t',x')∧H'=H.set id (.cells (TkC t' x') 291):=by
 unfold hTk at h
 split at h
 · rename_i id rest
   split at h
   · rename_i hex
     have hs:=Classical.choose_spec hex
     split at h
     · rename_i v' t' x' hF
       simp at h
       obtain ⟨rfl,rfl⟩:=h
       exact ⟨id,rest,_,_,t',x',rfl,hs.1,hs.2.1,hs.2.2.1,hs.2.2.2,hF,rfl⟩
     · cases h
   · cases h
 · cases h
theorem hTk_at {F:List AV→Tk→Option (AV × Tok × Tk)} {lo:Nat} {args:List AV} {H H':Heap} {v:AV} (h:hTk F lo args H=some (v,H')):∀ id,id < H.n→(∀ off r,args ≠ .ptr id off::r)→H'.get id=H.get id:=by
 obtain ⟨id,rest,t,x,t',x',rfl,_,_,_,_,_,rfl⟩:=hTk_inv h
 intro j hj hne
 rw [Heap.get_set,if_neg]
 intro he;subst he
 exact hne 0 rest rfl
theorem hTk_ok {C:Cfg} (hC:Sane C) (hCP:C.P=NC.P) (hCG:C.glob=NC.glob) {f:FuncId} {F:List AV→Tk→Option (AV × Tok × Tk)}
 (hF:∀ rest x v t' x',F rest x=some (v,t',x')→v.scal=true∧(∀ a ∈ rest,a.pure=true)∧TkT t' x' ∧ ∀ t,TkT t x → ∃ H1,R C (.call 0 f (.ptr 0 0::rest) (Heap.empty.push (.cells (TkC t x) 291)))=some (.ofVal v H1)∧0 < H1.n∧H1.get 0=.cells (TkC t' x') 291)
 (C2:Cfg) (hP:C2.P=NC.P) (hG:C2.glob=NC.glob) (lo:Nat) (args:List AV) (H:Heap) (v:AV) (H':Heap) (h:hTk F lo args H=some (v,H')):CallOk C2 lo f args H v H':=by
 obtain ⟨id,rest,t,x,t',x',rfl,h1,h2,h3,h4,h5,rfl⟩:=hTk_inv h
 obtain ⟨hv,hr,ht',hrun⟩:=hF rest x v t' x' h5
 obtain ⟨H1,r1,r2,r3⟩:=hrun t h2
 obtain ⟨k,hk⟩:=(R_iff C).1 r1
 have hc:CallOk C 0 f (.ptr 0 0::rest) (Heap.empty.push (.cells (TkC t x) 291)) v H1:=run_ok hC k _ _ hk (Nat.zero_le _)
 exact local_ok (C:=C) (hP.trans hCP.symm) (hG.trans hCG.symm) hc r2 r3 (tkC_pure h2) (tkC_pure ht') hr hv h3 h4 h1
end Go.Sim

/-
Texts: the words of a line, taken one after the other by the program: the runs.
-/
namespace Go.Sim
open Go Go.Proofs
set_option maxRecDepth 100000
set_option maxHeartbeats 16000000
variable {P:FuncId→Option (List AV→Option AV)}
theorem en167 {P:FuncId→Option (List AV→Option AV)} (hP:P 167=none) {lo:Nat} {args:List AV} {H:Heap} {K:AV→Heap→Prop}:VO (aenter (NC.withPrims P) (R (NC.withPrims P)) lo 167 args H) K=AO (R (NC.withPrims P) (.call lo 167 args H)) fun o=>K o.val o.s.H:=by
 refine enter_free rfl ?_ (by kernel_rfl) (by kernel_rfl) (by kernel_rfl)
 show (match NC.prim 167 with | some p=>some p | none=>P 167)=none
 rw [hP];kernel_rfl
theorem asl_tail (w:Wd) (r:List Wd):aslice NC.P 160 (.ps .unk ([AV.str w]::r.map strRow)) (some (.int .i64 1)) none none=some (.ps .unk (r.map strRow)):=by
 have e:NC.P.underlying 160=some (.slice 9):=by kernel_rfl
 have e2:szOf NC.P 9=some 1:=by kernel_rfl
 have e3:(([AV.str w]::r.map strRow).all fun x=>decide (x.length=1))=true:=rows_all (f:=strRow) strRow_len (w::r)
 unfold aslice
 rw [e]
 simp only
 rw [e2]
 simp only
 rw [e3]
 simp [asliceRows,boundOf,natOf,cutTok]
 exact List.take_of_length_le (by simp)
theorem r167 {t:Tok} {x:Tk} (ht:TkT t x) {lo id:Nat} {H:Heap} (hlo:lo≤id) (hid:id < H.n) (hg:H.get id=.cells (TkC t x) 291) :
 ∃ H1,R (NC.withPrims P) (.call lo 167 [.ptr id 0] H)=some (.ofVal (.str x.word.1) H1)∧H1.n=H.n∧H1.get id=.cells (TkC (wordT x) x.word.2) 291 ∧ ∀ j,j ≠ id→H1.get j=H.get j:=by
 have key:∃ v H1,R (NC.withPrims P) (.call lo 167 [.ptr id 0] H)=some (.ofVal v H1)∧v=.str x.word.1∧H1.n=H.n∧H1.get id=.cells (TkC (wordT x) x.word.2) 291 ∧ ∀ j,j ≠ id→H1.get j=H.get j:=by
  refine R_of_body (C:=NC.withPrims P) (f:=167) (lo:=lo) (args:=[.ptr id 0]) (H:=H) (fn:=Tryz.f167) (Q:=fun v H1=>v=.str x.word.1∧H1.n=H.n∧H1.get id=.cells (TkC (wordT x) x.word.2) 291 ∧ ∀ j,j ≠ id→H1.get j=H.get j) (by kernel_rfl) Tryz.func167 rfl rfl ?_
  have hlo':=eq_true hlo
  have hid':=eq_true hid
  obtain ⟨ws,b⟩:=x
  simp only [TkC] at hg
  cases ws with
  | nil =>
    rcases ht with rfl | ⟨rfl,_⟩
    · simp only [go_sem,reduceIte,reduceEqDiff,reduceAdd,reduceMul,reduceSub,reduceLeDiff,reduceLT,Nat.reduceBEq,reduceCtorEq,hg,hlo',hid']
      exact ⟨rfl,rfl,fun j hj=>by rw [if_neg hj,if_neg hj]⟩
    · simp only [go_sem,reduceIte,reduceEqDiff,reduceAdd,reduceMul,reduceSub,reduceLeDiff,reduceLT,Nat.reduceBEq,reduceCtorEq,hg,hlo',hid']
      exact ⟨rfl,rfl,fun j hj=>by rw [if_neg hj,if_neg hj]⟩
  | cons w r =>
    have ht:t=.unk:=by
     rcases ht with h | ⟨_,h⟩
     · exact h
     · cases h
    subst ht
    have z0:(0 < r.length+1)=True:=by simp
    have z1:(((r.length+1:Nat):Int)=0)=False:=by simp only [eq_iff_iff,iff_false];omega
    have z2:(1≤r.length+1)=True:=by simp
    simp only [List.map_cons,strRow] at hg
    cases hB:beqL w [] with
    | true =>
      have hw:=(beqL_iff _ _).1 hB
      subst hw
      simp only [go_sem,reduceIte,reduceEqDiff,reduceAdd,reduceMul,reduceSub,reduceLeDiff,reduceLT,Nat.reduceBEq,reduceCtorEq,strRow,hg,hlo',hid',z0,z1,z2,hB]
      exact ⟨rfl,rfl,fun j hj=>by rw [if_neg hj,if_neg hj]⟩
    | false =>
      have hw:w ≠ []:=fun h=>by rw [h] at hB;cases hB
      have hsl:=asl_tail w r
      have hT:wordT ⟨w::r,b⟩=.unk:=by unfold wordT;simp [hw]
      rw [hT,Tk.word_ok hw]
      simp only [go_sem,reduceIte,reduceEqDiff,reduceAdd,reduceMul,reduceSub,reduceLeDiff,reduceLT,Nat.reduceBEq,reduceCtorEq,strRow,hg,hlo',hid',z0,z1,z2,hB,hsl]
      exact ⟨rfl,fun j hj=>by rw [if_neg hj]⟩
 obtain ⟨v,H1,h1,rfl,h2,h3⟩:=key
 exact ⟨H1,h1,h2,h3⟩
end Go.Sim

/-
Texts: numbers and one of two words, taken by the program: the runs.
-/
namespace Go.Sim
open Go Go.Proofs
set_option maxRecDepth 100000
set_option maxHeartbeats 16000000
noncomputable def PPtk:FuncId→Option (List AV→Option AV):=addPrim 258 p258 (fun _=>none)
theorem primstk:PrimsOk NC PPtk:=primsOk_add (primsOk_none) (by kernel_rfl) (by kernel_rfl) pok258
theorem entk_258:En PPtk 258 p258:=enter_prim (by rfl) (by kernel_rfl)
attribute [go_sem ↓] entk_258
theorem word_mem {x:Tk} {m:Nat} (h:∀ w ∈ x.ws,w.length≤m):x.word.1.length≤m:=by
 obtain ⟨ws,b⟩:=x
 unfold Tk.word
 cases ws with
 | nil=>simp
 | cons w r =>
   simp only
   split
   · simp
   · exact h w (by simp)
theorem r218 {t:Tok} {x:Tk} (ht:TkT t x) (hw:∀ w ∈ x.ws,w.length≤maxRows) {lo id:Nat} {H:Heap} (hlo:lo≤id) (hid:id < H.n) (hg:H.get id=.cells (TkC t x) 291) :
 ∃ H1,R (NC.withPrims PPtk) (.call lo 218 [.ptr id 0] H)=some (.ofVal (.int .i64 x.num.1) H1)∧H1.n=H.n∧H1.get id=.cells (TkC (wordT x) x.num.2) 291 ∧ ∀ j,j ≠ id→H1.get j=H.get j:=by
 have key:∃ v H1,R (NC.withPrims PPtk) (.call lo 218 [.ptr id 0] H)=some (.ofVal v H1)∧v=.int .i64 x.num.1∧H1.n=H.n∧H1.get id=.cells (TkC (wordT x) x.num.2) 291 ∧ ∀ j,j ≠ id→H1.get j=H.get j:=by
  refine R_of_body (C:=NC.withPrims PPtk) (f:=218) (lo:=lo) (args:=[.ptr id 0]) (H:=H) (fn:=Tryz.f218) (Q:=fun v H1=>v=.int .i64 x.num.1∧H1.n=H.n∧H1.get id=.cells (TkC (wordT x) x.num.2) 291 ∧ ∀ j,j ≠ id→H1.get j=H.get j) (by kernel_rfl) Tryz.func218 rfl rfl ?_
  have hlo':=eq_true hlo
  have h167:PPtk 167=none:=rfl
  obtain ⟨H1,r1,r2,r3,r4⟩:=r167 (P:=PPtk) ht hlo hid hg
  have hid1:(id < H1.n)=True:=by rw [r2];exact eq_true hid
  have e258:=pe258 x.word.1 (word_mem hw)
  have e:x.num=((intP x.word.1).1,⟨x.word.2.ws,x.word.2.wrong || !(intP x.word.1).2⟩):=rfl
  rw [e]
  simp only [TkC] at r3 ⊢
  generalize intP x.word.1=y at e258 ⊢
  obtain ⟨n,o⟩:=y
  generalize x.word.2.wrong=b at r3 ⊢
  generalize (x.word.2.ws.map strRow)=rows at r3 ⊢
  generalize x.word.1=w at r1 e258
  simp only [i64] at e258
  cases b<;>cases o
  all_goals
   simp only [go_sem,reduceIte,reduceEqDiff,reduceAdd,reduceMul,reduceSub,reduceLeDiff,reduceLT,Nat.reduceBEq,reduceCtorEq,en167 h167,r1,e258,r3,hlo',hid1,r2]
   exact fun j hj=>by rw [if_neg hj];exact r4 j hj
 obtain ⟨v,H1,h1,rfl,h2,h3⟩:=key
 exact ⟨H1,h1,h2,h3⟩
end Go.Sim
