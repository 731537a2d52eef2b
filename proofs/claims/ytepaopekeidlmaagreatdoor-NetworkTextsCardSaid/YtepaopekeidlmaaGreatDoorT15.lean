/-
The parts NetAwake, NetZ1, NetD1, NetD2, NetW1, NetFacts2, NetI1, NetW2, NetB1, NetA2, NetA3, NetB2, NetB3, NetNil, NetA4, NetG1, NetV1, NetFacts3, NetV3, NetV9, NetV13, NetA5, NetB4, NetB5, NetB6, NetB7, NetB8, NetB9, NetB10, NetB11 of one proof, joined: each begins with a remark that says what it shows.
-/
import Derived.Test.YtepaopekeidlmaaGreatDoorT14
import GoSem.Step
set_option linter.unusedSimpArgs false
set_option linter.unusedVariables false
open Nat (reduceEqDiff reduceAdd reduceMul reduceSub reduceLeDiff reduceLT)

/-
The document's examples: what 'awake' returns, found by closed runs.
-/
namespace Go.Sim
open Go
def aw0:List Known:=[]
theorem awh0:∀ k ∈ aw0,∀ lo H,CallOk NC lo k.f k.args H k.v H:=fun k h=>by cases h
def ak1:Known:=⟨110,[.ps .unk [[.str [117,112],.ps .unk [[.int .i64 100,.int .i64 5000,.bool false],[.int .i64 50,.int .i64 5080,.bool false],[.int .i64 30,.int .i64 5200,.bool true]]],[.str [115,105,100,101],.ps .unk [[.int .i64 40,.int .i64 0,.bool false]]]]],.int .i64 0⟩
theorem ac1:∀ lo H,CallOk NC lo ak1.f ak1.args H ak1.v H:=known_ok saneNC awh0 (fuel:=5000) (by kernel_rfl) (by kernel_rfl) (by kernel_rfl)
def aw1:List Known:=ak1::aw0
theorem awh1:∀ k ∈ aw1,∀ lo H,CallOk NC lo k.f k.args H k.v H:=fun k h=>(List.mem_cons.1 h).elim (fun e=>e ▸ ac1) (awh0 k)
def ak2:Known:=⟨112,[.agg [.ps .unk [[.str [117,112],.ps .unk [[.int .i64 100,.int .i64 5000,.bool false],[.int .i64 50,.int .i64 5080,.bool false],[.int .i64 30,.int .i64 5200,.bool true]]],[.str [115,105,100,101],.ps .unk [[.int .i64 40,.int .i64 0,.bool false]]]],.ps .unk [[.str [119],.str [117,112],.int .i64 120,.str [115,105,100,101],.bool false]],.ps .unk [[.str [97,114,99,104],.str [98,114,105,100,103,101],.str [117,112],.int .i64 130,.int .i64 150]]]],.int .i64 0⟩
theorem ac2:∀ lo H,CallOk NC lo ak2.f ak2.args H ak2.v H:=known_ok saneNC awh1 (fuel:=5000) (by kernel_rfl) (by kernel_rfl) (by kernel_rfl)
def aw2:List Known:=ak2::aw1
theorem awh2:∀ k ∈ aw2,∀ lo H,CallOk NC lo k.f k.args H k.v H:=fun k h=>(List.mem_cons.1 h).elim (fun e=>e ▸ ac2) (awh1 k)
def ak3:Known:=⟨113,[.agg [.ps .unk [[.str [117,112],.ps .unk [[.int .i64 100,.int .i64 5000,.bool false],[.int .i64 50,.int .i64 5080,.bool false],[.int .i64 30,.int .i64 5200,.bool true]]],[.str [115,105,100,101],.ps .unk [[.int .i64 40,.int .i64 0,.bool false]]]],.ps .unk [[.str [119],.str [117,112],.int .i64 120,.str [115,105,100,101],.bool false]],.ps .unk [[.str [97,114,99,104],.str [98,114,105,100,103,101],.str [117,112],.int .i64 130,.int .i64 150]]]],.int .i64 0⟩
theorem ac3:∀ lo H,CallOk NC lo ak3.f ak3.args H ak3.v H:=known_ok saneNC awh2 (fuel:=5000) (by kernel_rfl) (by kernel_rfl) (by kernel_rfl)
def aw3:List Known:=ak3::aw2
theorem awh3:∀ k ∈ aw3,∀ lo H,CallOk NC lo k.f k.args H k.v H:=fun k h=>(List.mem_cons.1 h).elim (fun e=>e ▸ ac3) (awh2 k)
def ak4:Known:=⟨29,[.agg [.ps .unk [[.str [117,112],.ps .unk [[.int .i64 100,.int .i64 5000,.bool false],[.int .i64 50,.int .i64 5080,.bool false],[.int .i64 30,.int .i64 5200,.bool true]]],[.str [115,105,100,101],.ps .unk [[.int .i64 40,.int .i64 0,.bool false]]]],.ps .unk [[.str [119],.str [117,112],.int .i64 120,.str [115,105,100,101],.bool false]],.ps .unk [[.str [97,114,99,104],.str [98,114,105,100,103,101],.str [117,112],.int .i64 130,.int .i64 150]]]],.int .i64 0⟩
theorem ac4:∀ lo H,CallOk NC lo ak4.f ak4.args H ak4.v H:=known_ok saneNC awh3 (fuel:=5000) (by kernel_rfl) (by kernel_rfl) (by kernel_rfl)
def aw4:List Known:=ak4::aw3
theorem awh4:∀ k ∈ aw4,∀ lo H,CallOk NC lo k.f k.args H k.v H:=fun k h=>(List.mem_cons.1 h).elim (fun e=>e ▸ ac4) (awh3 k)
def ak5:Known:=⟨18,[.agg [.ps .unk [[.str [117,112],.ps .unk [[.int .i64 100,.int .i64 5000,.bool false],[.int .i64 50,.int .i64 5080,.bool false],[.int .i64 30,.int .i64 5200,.bool true]]],[.str [115,105,100,101],.ps .unk [[.int .i64 40,.int .i64 0,.bool false]]]],.ps .unk [[.str [119],.str [117,112],.int .i64 120,.str [115,105,100,101],.bool false]],.ps .unk [[.str [97,114,99,104],.str [98,114,105,100,103,101],.str [117,112],.int .i64 130,.int .i64 150]]],.str [117,112]],.tup [.int .i64 180,.int .i64 0]⟩
theorem ac5:∀ lo H,CallOk NC lo ak5.f ak5.args H ak5.v H:=known_ok saneNC awh4 (fuel:=5000) (by kernel_rfl) (by kernel_rfl) (by kernel_rfl)
def aw5:List Known:=ak5::aw4
theorem awh5:∀ k ∈ aw5,∀ lo H,CallOk NC lo k.f k.args H k.v H:=fun k h=>(List.mem_cons.1 h).elim (fun e=>e ▸ ac5) (awh4 k)
def ak6:Known:=⟨20,[.agg [.ps .unk [[.str [117,112],.ps .unk [[.int .i64 100,.int .i64 5000,.bool false],[.int .i64 50,.int .i64 5080,.bool false],[.int .i64 30,.int .i64 5200,.bool true]]],[.str [115,105,100,101],.ps .unk [[.int .i64 40,.int .i64 0,.bool false]]]],.ps .unk [[.str [119],.str [117,112],.int .i64 120,.str [115,105,100,101],.bool false]],.ps .unk [[.str [97,114,99,104],.str [98,114,105,100,103,101],.str [117,112],.int .i64 130,.int .i64 150]]],.agg [.str [117,112],.int .i64 120]],.tup [.agg [.str [117,112],.int .i64 1,.int .i64 5100],.int .i64 0]⟩
theorem ac6:∀ lo H,CallOk NC lo ak6.f ak6.args H ak6.v H:=known_ok saneNC awh5 (fuel:=5000) (by kernel_rfl) (by kernel_rfl) (by kernel_rfl)
def aw6:List Known:=ak6::aw5
theorem awh6:∀ k ∈ aw6,∀ lo H,CallOk NC lo k.f k.args H k.v H:=fun k h=>(List.mem_cons.1 h).elim (fun e=>e ▸ ac6) (awh5 k)
def ak7:Known:=⟨20,[.agg [.ps .unk [[.str [117,112],.ps .unk [[.int .i64 100,.int .i64 5000,.bool false],[.int .i64 50,.int .i64 5080,.bool false],[.int .i64 30,.int .i64 5200,.bool true]]],[.str [115,105,100,101],.ps .unk [[.int .i64 40,.int .i64 0,.bool false]]]],.ps .unk [[.str [119],.str [117,112],.int .i64 120,.str [115,105,100,101],.bool false]],.ps .unk [[.str [97,114,99,104],.str [98,114,105,100,103,101],.str [117,112],.int .i64 130,.int .i64 150]]],.agg [.str [117,112],.int .i64 179]],.tup [.agg [.str [117,112],.int .i64 2,.int .i64 5171],.int .i64 0]⟩
theorem ac7:∀ lo H,CallOk NC lo ak7.f ak7.args H ak7.v H:=known_ok saneNC awh6 (fuel:=5000) (by kernel_rfl) (by kernel_rfl) (by kernel_rfl)
def aw7:List Known:=ak7::aw6
theorem awh7:∀ k ∈ aw7,∀ lo H,CallOk NC lo k.f k.args H k.v H:=fun k h=>(List.mem_cons.1 h).elim (fun e=>e ▸ ac7) (awh6 k)
def ak8:Known:=⟨51,[.agg [.ps .unk [[.str [117,112],.ps .unk [[.int .i64 100,.int .i64 5000,.bool false],[.int .i64 50,.int .i64 5080,.bool false],[.int .i64 30,.int .i64 5200,.bool true]]],[.str [115,105,100,101],.ps .unk [[.int .i64 40,.int .i64 0,.bool false]]]],.ps .unk [[.str [119],.str [117,112],.int .i64 120,.str [115,105,100,101],.bool false]],.ps .unk [[.str [97,114,99,104],.str [98,114,105,100,103,101],.str [117,112],.int .i64 130,.int .i64 150]]],.str [117,112],.int .i64 5090],.tup [.ps .unk [[.str [117,112],.int .i64 0,.int .i64 5090],[.str [117,112],.int .i64 1,.int .i64 5090]],.int .i64 0]⟩
theorem ac8:∀ lo H,CallOk NC lo ak8.f ak8.args H ak8.v H:=known_ok saneNC awh7 (fuel:=5000) (by kernel_rfl) (by kernel_rfl) (by kernel_rfl)
def aw8:List Known:=ak8::aw7
theorem awh8:∀ k ∈ aw8,∀ lo H,CallOk NC lo k.f k.args H k.v H:=fun k h=>(List.mem_cons.1 h).elim (fun e=>e ▸ ac8) (awh7 k)
def ak9:Known:=⟨21,[.agg [.ps .unk [[.str [117,112],.ps .unk [[.int .i64 100,.int .i64 5000,.bool false],[.int .i64 50,.int .i64 5080,.bool false],[.int .i64 30,.int .i64 5200,.bool true]]],[.str [115,105,100,101],.ps .unk [[.int .i64 40,.int .i64 0,.bool false]]]],.ps .unk [[.str [119],.str [117,112],.int .i64 120,.str [115,105,100,101],.bool false]],.ps .unk [[.str [97,114,99,104],.str [98,114,105,100,103,101],.str [117,112],.int .i64 130,.int .i64 150]]],.agg [.str [117,112],.int .i64 1,.int .i64 5090]],.tup [.agg [.str [117,112],.int .i64 110],.int .i64 0]⟩
theorem ac9:∀ lo H,CallOk NC lo ak9.f ak9.args H ak9.v H:=known_ok saneNC awh8 (fuel:=5000) (by kernel_rfl) (by kernel_rfl) (by kernel_rfl)
def aw9:List Known:=ak9::aw8
theorem awh9:∀ k ∈ aw9,∀ lo H,CallOk NC lo k.f k.args H k.v H:=fun k h=>(List.mem_cons.1 h).elim (fun e=>e ▸ ac9) (awh8 k)
def ak10:Known:=⟨114,[.agg [.ps .unk [[.str [117,112],.ps .unk [[.int .i64 100,.int .i64 5000,.bool false],[.int .i64 50,.int .i64 5080,.bool false],[.int .i64 30,.int .i64 5200,.bool true]]],[.str [115,105,100,101],.ps .unk [[.int .i64 40,.int .i64 0,.bool false]]]],.ps .unk [[.str [119],.str [117,112],.int .i64 120,.str [115,105,100,101],.bool false]],.ps .unk [[.str [97,114,99,104],.str [98,114,105,100,103,101],.str [117,112],.int .i64 130,.int .i64 150]]],.ps .unk [[.str [117,112],.int .i64 100],[.str [115,105,100,101],.int .i64 10]]],.int .i64 0⟩
theorem ac10:∀ lo H,CallOk NC lo ak10.f ak10.args H ak10.v H:=known_ok saneNC awh9 (fuel:=5000) (by kernel_rfl) (by kernel_rfl) (by kernel_rfl)
def aw10:List Known:=ak10::aw9
theorem awh10:∀ k ∈ aw10,∀ lo H,CallOk NC lo k.f k.args H k.v H:=fun k h=>(List.mem_cons.1 h).elim (fun e=>e ▸ ac10) (awh9 k)
def ak11:Known:=⟨203,[.agg [.ps .unk [[.str [117,112],.ps .unk [[.int .i64 100,.int .i64 5000,.bool false],[.int .i64 50,.int .i64 5080,.bool false],[.int .i64 30,.int .i64 5200,.bool true]]],[.str [115,105,100,101],.ps .unk [[.int .i64 40,.int .i64 0,.bool false]]]],.ps .unk [[.str [119],.str [117,112],.int .i64 120,.str [115,105,100,101],.bool false]],.ps .unk [[.str [97,114,99,104],.str [98,114,105,100,103,101],.str [117,112],.int .i64 130,.int .i64 150]]],.agg [.ps .unk [[.str [117,112],.int .i64 100,.int .i64 120],[.str [115,105,100,101],.int .i64 0,.int .i64 0],[.str [117,112],.int .i64 120,.int .i64 120]],.int .i64 20],.agg [.ps .unk [[.str [117,112],.int .i64 100,.int .i64 120]],.int .i64 20]],.int .i64 1⟩
theorem ac11:∀ lo H,CallOk NC lo ak11.f ak11.args H ak11.v H:=known_ok saneNC awh10 (fuel:=5000) (by kernel_rfl) (by kernel_rfl) (by kernel_rfl)
def aw11:List Known:=ak11::aw10
theorem awh11:∀ k ∈ aw11,∀ lo H,CallOk NC lo k.f k.args H k.v H:=fun k h=>(List.mem_cons.1 h).elim (fun e=>e ▸ ac11) (awh10 k)
def ak12:Known:=⟨203,[.agg [.ps .unk [[.str [117,112],.ps .unk [[.int .i64 100,.int .i64 5000,.bool false],[.int .i64 50,.int .i64 5080,.bool false],[.int .i64 30,.int .i64 5200,.bool true]]],[.str [115,105,100,101],.ps .unk [[.int .i64 40,.int .i64 0,.bool false]]]],.ps .unk [[.str [119],.str [117,112],.int .i64 120,.str [115,105,100,101],.bool false]],.ps .unk [[.str [97,114,99,104],.str [98,114,105,100,103,101],.str [117,112],.int .i64 130,.int .i64 150]]],.agg [.ps .unk [[.str [117,112],.int .i64 100,.int .i64 120],[.str [115,105,100,101],.int .i64 0,.int .i64 0]],.int .i64 20],.agg [.ps .unk [[.str [117,112],.int .i64 100,.int .i64 120],[.str [115,105,100,101],.int .i64 0,.int .i64 0]],.int .i64 20]],.int .i64 0⟩
theorem ac12:∀ lo H,CallOk NC lo ak12.f ak12.args H ak12.v H:=known_ok saneNC awh11 (fuel:=5000) (by kernel_rfl) (by kernel_rfl) (by kernel_rfl)
def aw12:List Known:=ak12::aw11
theorem awh12:∀ k ∈ aw12,∀ lo H,CallOk NC lo k.f k.args H k.v H:=fun k h=>(List.mem_cons.1 h).elim (fun e=>e ▸ ac12) (awh11 k)
def ak13:Known:=⟨142,[.agg [.ps .unk [[.str [117,112],.ps .unk [[.int .i64 100,.int .i64 5000,.bool false],[.int .i64 50,.int .i64 5080,.bool false],[.int .i64 30,.int .i64 5200,.bool true]]],[.str [115,105,100,101],.ps .unk [[.int .i64 40,.int .i64 0,.bool false]]]],.ps .unk [[.str [119],.str [117,112],.int .i64 120,.str [115,105,100,101],.bool false]],.ps .unk [[.str [97,114,99,104],.str [98,114,105,100,103,101],.str [117,112],.int .i64 130,.int .i64 150]]],.agg [.str [117,112],.int .i64 100],.agg [.str [115,105,100,101],.int .i64 10]],.tup [.agg [.ps .unk [[.str [117,112],.int .i64 100,.int .i64 120],[.str [115,105,100,101],.int .i64 0,.int .i64 10]],.int .i64 30],.bool true]⟩
theorem ac13:∀ lo H,CallOk NC lo ak13.f ak13.args H ak13.v H:=known_ok saneNC awh12 (fuel:=5000) (by kernel_rfl) (by kernel_rfl) (by kernel_rfl)
def aw13:List Known:=ak13::aw12
theorem awh13:∀ k ∈ aw13,∀ lo H,CallOk NC lo k.f k.args H k.v H:=fun k h=>(List.mem_cons.1 h).elim (fun e=>e ▸ ac13) (awh12 k)
def ak14:Known:=⟨71,[.agg [.ps .unk [[.str [117,112],.ps .unk [[.int .i64 100,.int .i64 5000,.bool false],[.int .i64 50,.int .i64 5080,.bool false],[.int .i64 30,.int .i64 5200,.bool true]]],[.str [115,105,100,101],.ps .unk [[.int .i64 40,.int .i64 0,.bool false]]]],.ps .unk [[.str [119],.str [117,112],.int .i64 120,.str [115,105,100,101],.bool false]],.ps .unk [[.str [97,114,99,104],.str [98,114,105,100,103,101],.str [117,112],.int .i64 130,.int .i64 150]]],.agg [.str [117,112],.int .i64 100],.agg [.str [115,105,100,101],.int .i64 10]],.tup [.ps .unk [[.str [117,112],.int .i64 100,.int .i64 120],[.str [115,105,100,101],.int .i64 0,.int .i64 10]],.int .i64 30,.int .i64 0]⟩
theorem ac14:∀ lo H,CallOk NC lo ak14.f ak14.args H ak14.v H:=known_ok saneNC awh13 (fuel:=5000) (by kernel_rfl) (by kernel_rfl) (by kernel_rfl)
def aw14:List Known:=ak14::aw13
theorem awh14:∀ k ∈ aw14,∀ lo H,CallOk NC lo k.f k.args H k.v H:=fun k h=>(List.mem_cons.1 h).elim (fun e=>e ▸ ac14) (awh13 k)
def ak15:Known:=⟨114,[.agg [.ps .unk [[.str [117,112],.ps .unk [[.int .i64 100,.int .i64 5000,.bool false],[.int .i64 50,.int .i64 5080,.bool false],[.int .i64 30,.int .i64 5200,.bool true]]],[.str [115,105,100,101],.ps .unk [[.int .i64 40,.int .i64 0,.bool false]]]],.ps .unk [[.str [119],.str [117,112],.int .i64 120,.str [115,105,100,101],.bool false]],.ps .unk [[.str [97,114,99,104],.str [98,114,105,100,103,101],.str [117,112],.int .i64 130,.int .i64 150]]],.ps .unk [[.str [115,105,100,101],.int .i64 5]]],.int .i64 0⟩
theorem ac15:∀ lo H,CallOk NC lo ak15.f ak15.args H ak15.v H:=known_ok saneNC awh14 (fuel:=5000) (by kernel_rfl) (by kernel_rfl) (by kernel_rfl)
def aw15:List Known:=ak15::aw14
theorem awh15:∀ k ∈ aw15,∀ lo H,CallOk NC lo k.f k.args H k.v H:=fun k h=>(List.mem_cons.1 h).elim (fun e=>e ▸ ac15) (awh14 k)
def ak16:Known:=⟨203,[.agg [.ps .unk [[.str [117,112],.ps .unk [[.int .i64 100,.int .i64 5000,.bool false],[.int .i64 50,.int .i64 5080,.bool false],[.int .i64 30,.int .i64 5200,.bool true]]],[.str [115,105,100,101],.ps .unk [[.int .i64 40,.int .i64 0,.bool false]]]],.ps .unk [[.str [119],.str [117,112],.int .i64 120,.str [115,105,100,101],.bool false]],.ps .unk [[.str [97,114,99,104],.str [98,114,105,100,103,101],.str [117,112],.int .i64 130,.int .i64 150]]],.agg [.ps .unk [[.str [115,105,100,101],.int .i64 5,.int .i64 0],[.str [117,112],.int .i64 120,.int .i64 120],[.str [115,105,100,101],.int .i64 0,.int .i64 0]],.int .i64 5],.agg [.ps .unk [[.str [115,105,100,101],.int .i64 5,.int .i64 0]],.int .i64 5]],.int .i64 1⟩
theorem ac16:∀ lo H,CallOk NC lo ak16.f ak16.args H ak16.v H:=known_ok saneNC awh15 (fuel:=5000) (by kernel_rfl) (by kernel_rfl) (by kernel_rfl)
def aw16:List Known:=ak16::aw15
theorem awh16:∀ k ∈ aw16,∀ lo H,CallOk NC lo k.f k.args H k.v H:=fun k h=>(List.mem_cons.1 h).elim (fun e=>e ▸ ac16) (awh15 k)
def ak17:Known:=⟨203,[.agg [.ps .unk [[.str [117,112],.ps .unk [[.int .i64 100,.int .i64 5000,.bool false],[.int .i64 50,.int .i64 5080,.bool false],[.int .i64 30,.int .i64 5200,.bool true]]],[.str [115,105,100,101],.ps .unk [[.int .i64 40,.int .i64 0,.bool false]]]],.ps .unk [[.str [119],.str [117,112],.int .i64 120,.str [115,105,100,101],.bool false]],.ps .unk [[.str [97,114,99,104],.str [98,114,105,100,103,101],.str [117,112],.int .i64 130,.int .i64 150]]],.agg [.ps .unk [[.str [115,105,100,101],.int .i64 5,.int .i64 0],[.str [117,112],.int .i64 120,.int .i64 120]],.int .i64 5],.agg [.ps .unk [[.str [115,105,100,101],.int .i64 5,.int .i64 0],[.str [117,112],.int .i64 120,.int .i64 120]],.int .i64 5]],.int .i64 0⟩
theorem ac17:∀ lo H,CallOk NC lo ak17.f ak17.args H ak17.v H:=known_ok saneNC awh16 (fuel:=5000) (by kernel_rfl) (by kernel_rfl) (by kernel_rfl)
def aw17:List Known:=ak17::aw16
theorem awh17:∀ k ∈ aw17,∀ lo H,CallOk NC lo k.f k.args H k.v H:=fun k h=>(List.mem_cons.1 h).elim (fun e=>e ▸ ac17) (awh16 k)
def ak18:Known:=⟨116,[.agg [.ps .unk [[.str [117,112],.ps .unk [[.int .i64 100,.int .i64 5000,.bool false],[.int .i64 50,.int .i64 5080,.bool false],[.int .i64 30,.int .i64 5200,.bool true]]],[.str [115,105,100,101],.ps .unk [[.int .i64 40,.int .i64 0,.bool false]]]],.ps .unk [[.str [119],.str [117,112],.int .i64 120,.str [115,105,100,101],.bool false]],.ps .unk [[.str [97,114,99,104],.str [98,114,105,100,103,101],.str [117,112],.int .i64 130,.int .i64 150]]],.agg [.str [115,105,100,101],.int .i64 5]],.ps .unk [[.str [115,105,100,101],.int .i64 5,.int .i64 0],[.str [115,105,100,101],.int .i64 0,.int .i64 5],[.str [117,112],.int .i64 120,.int .i64 5]]⟩
theorem ac18:∀ lo H,CallOk NC lo ak18.f ak18.args H ak18.v H:=known_ok saneNC awh17 (fuel:=5000) (by kernel_rfl) (by kernel_rfl) (by kernel_rfl)
def aw18:List Known:=ak18::aw17
theorem awh18:∀ k ∈ aw18,∀ lo H,CallOk NC lo k.f k.args H k.v H:=fun k h=>(List.mem_cons.1 h).elim (fun e=>e ▸ ac18) (awh17 k)
def ak19:Known:=⟨33,[.agg [.ps .unk [[.str [117,112],.ps .unk [[.int .i64 100,.int .i64 5000,.bool false],[.int .i64 50,.int .i64 5080,.bool false],[.int .i64 30,.int .i64 5200,.bool true]]],[.str [115,105,100,101],.ps .unk [[.int .i64 40,.int .i64 0,.bool false]]]],.ps .unk [[.str [119],.str [117,112],.int .i64 120,.str [115,105,100,101],.bool false]],.ps .unk [[.str [97,114,99,104],.str [98,114,105,100,103,101],.str [117,112],.int .i64 130,.int .i64 150]]],.agg [.str [115,105,100,101],.int .i64 5],.str [98,114,105,100,103,101]],.tup [.str [97,114,99,104],.int .i64 15,.int .i64 0]⟩
theorem ac19:∀ lo H,CallOk NC lo ak19.f ak19.args H ak19.v H:=known_ok saneNC awh18 (fuel:=5000) (by kernel_rfl) (by kernel_rfl) (by kernel_rfl)
def aw19:List Known:=ak19::aw18
theorem awh19:∀ k ∈ aw19,∀ lo H,CallOk NC lo k.f k.args H k.v H:=fun k h=>(List.mem_cons.1 h).elim (fun e=>e ▸ ac19) (awh18 k)
def ak20:Known:=⟨127,[.agg [.str [117,112],.int .i64 0,.int .i64 100,.str [109,97,105,110],.int .i64 20,.bool false]],.int .i64 0⟩
theorem ac20:∀ lo H,CallOk NC lo ak20.f ak20.args H ak20.v H:=known_ok saneNC awh19 (fuel:=5000) (by kernel_rfl) (by kernel_rfl) (by kernel_rfl)
def aw20:List Known:=ak20::aw19
theorem awh20:∀ k ∈ aw20,∀ lo H,CallOk NC lo k.f k.args H k.v H:=fun k h=>(List.mem_cons.1 h).elim (fun e=>e ▸ ac20) (awh19 k)
def ak21:Known:=⟨127,[.agg [.str [117,112],.int .i64 100,.int .i64 50,.str [109,97,105,110],.int .i64 200,.bool true]],.int .i64 0⟩
theorem ac21:∀ lo H,CallOk NC lo ak21.f ak21.args H ak21.v H:=known_ok saneNC awh20 (fuel:=5000) (by kernel_rfl) (by kernel_rfl) (by kernel_rfl)
def aw21:List Known:=ak21::aw20
theorem awh21:∀ k ∈ aw21,∀ lo H,CallOk NC lo k.f k.args H k.v H:=fun k h=>(List.mem_cons.1 h).elim (fun e=>e ▸ ac21) (awh20 k)
def ak22:Known:=⟨49,[.ps .unk [[.str [117,112],.int .i64 0,.int .i64 100,.str [109,97,105,110],.int .i64 20,.bool false],[.str [117,112],.int .i64 100,.int .i64 50,.str [109,97,105,110],.int .i64 200,.bool true]]],.int .i64 0⟩
theorem ac22:∀ lo H,CallOk NC lo ak22.f ak22.args H ak22.v H:=known_ok saneNC awh21 (fuel:=5000) (by kernel_rfl) (by kernel_rfl) (by kernel_rfl)
def aw22:List Known:=ak22::aw21
theorem awh22:∀ k ∈ aw22,∀ lo H,CallOk NC lo k.f k.args H k.v H:=fun k h=>(List.mem_cons.1 h).elim (fun e=>e ▸ ac22) (awh21 k)
def ak23:Known:=⟨42,[.ps .unk [[.str [117,112],.int .i64 0,.int .i64 100,.str [109,97,105,110],.int .i64 20,.bool false],[.str [117,112],.int .i64 100,.int .i64 50,.str [109,97,105,110],.int .i64 200,.bool true]],.agg [.str [117,112],.int .i64 110]],.tup [.agg [.str [109,97,105,110],.int .i64 239],.int .i64 0]⟩
theorem ac23:∀ lo H,CallOk NC lo ak23.f ak23.args H ak23.v H:=known_ok saneNC awh22 (fuel:=5000) (by kernel_rfl) (by kernel_rfl) (by kernel_rfl)
def aw23:List Known:=ak23::aw22
theorem awh23:∀ k ∈ aw23,∀ lo H,CallOk NC lo k.f k.args H k.v H:=fun k h=>(List.mem_cons.1 h).elim (fun e=>e ▸ ac23) (awh22 k)
def ak24:Known:=⟨54,[.ps .unk [[.str [117,112],.int .i64 0,.int .i64 100,.str [109,97,105,110],.int .i64 20,.bool false],[.str [117,112],.int .i64 100,.int .i64 50,.str [109,97,105,110],.int .i64 200,.bool true]]],.tup [.ps .unk [[.str [109,97,105,110],.int .i64 20,.int .i64 100,.str [117,112],.int .i64 0,.bool false],[.str [109,97,105,110],.int .i64 200,.int .i64 50,.str [117,112],.int .i64 100,.bool true]],.int .i64 0]⟩
theorem ac24:∀ lo H,CallOk NC lo ak24.f ak24.args H ak24.v H:=known_ok saneNC awh23 (fuel:=5000) (by kernel_rfl) (by kernel_rfl) (by kernel_rfl)
def aw24:List Known:=ak24::aw23
theorem awh24:∀ k ∈ aw24,∀ lo H,CallOk NC lo k.f k.args H k.v H:=fun k h=>(List.mem_cons.1 h).elim (fun e=>e ▸ ac24) (awh23 k)
def ak25:Known:=⟨127,[.agg [.str [109,97,105,110],.int .i64 0,.int .i64 60,.str [111,108,100],.int .i64 500,.bool false]],.int .i64 0⟩
theorem ac25:∀ lo H,CallOk NC lo ak25.f ak25.args H ak25.v H:=known_ok saneNC awh24 (fuel:=5000) (by kernel_rfl) (by kernel_rfl) (by kernel_rfl)
def aw25:List Known:=ak25::aw24
theorem awh25:∀ k ∈ aw25,∀ lo H,CallOk NC lo k.f k.args H k.v H:=fun k h=>(List.mem_cons.1 h).elim (fun e=>e ▸ ac25) (awh24 k)
def ak26:Known:=⟨49,[.ps .unk [[.str [109,97,105,110],.int .i64 0,.int .i64 60,.str [111,108,100],.int .i64 500,.bool false]]],.int .i64 0⟩
theorem ac26:∀ lo H,CallOk NC lo ak26.f ak26.args H ak26.v H:=known_ok saneNC awh25 (fuel:=5000) (by kernel_rfl) (by kernel_rfl) (by kernel_rfl)
def aw26:List Known:=ak26::aw25
theorem awh26:∀ k ∈ aw26,∀ lo H,CallOk NC lo k.f k.args H k.v H:=fun k h=>(List.mem_cons.1 h).elim (fun e=>e ▸ ac26) (awh25 k)
def ak27:Known:=⟨55,[.ps .unk [[.str [117,112],.int .i64 0,.int .i64 100,.str [109,97,105,110],.int .i64 20,.bool false],[.str [117,112],.int .i64 100,.int .i64 50,.str [109,97,105,110],.int .i64 200,.bool true]],.ps .unk [[.str [109,97,105,110],.int .i64 0,.int .i64 60,.str [111,108,100],.int .i64 500,.bool false]]],.tup [.ps .unk [[.str [117,112],.int .i64 0,.int .i64 40,.str [111,108,100],.int .i64 520,.bool false]],.int .i64 0]⟩
theorem ac27:∀ lo H,CallOk NC lo ak27.f ak27.args H ak27.v H:=known_ok saneNC awh26 (fuel:=5000) (by kernel_rfl) (by kernel_rfl) (by kernel_rfl)
def aw27:List Known:=ak27::aw26
theorem awh27:∀ k ∈ aw27,∀ lo H,CallOk NC lo k.f k.args H k.v H:=fun k h=>(List.mem_cons.1 h).elim (fun e=>e ▸ ac27) (awh26 k)
def ak28:Known:=⟨110,[.ps .unk [[.str [109,97,105,110],.ps .unk [[.int .i64 300,.int .i64 1000,.bool false]]]]],.int .i64 0⟩
theorem ac28:∀ lo H,CallOk NC lo ak28.f ak28.args H ak28.v H:=known_ok saneNC awh27 (fuel:=5000) (by kernel_rfl) (by kernel_rfl) (by kernel_rfl)
def aw28:List Known:=ak28::aw27
theorem awh28:∀ k ∈ aw28,∀ lo H,CallOk NC lo k.f k.args H k.v H:=fun k h=>(List.mem_cons.1 h).elim (fun e=>e ▸ ac28) (awh27 k)
def ak29:Known:=⟨29,[.agg [.ps .unk [[.str [109,97,105,110],.ps .unk [[.int .i64 300,.int .i64 1000,.bool false]]]],.ps .unk [],.ps .unk []]],.int .i64 0⟩
theorem ac29:∀ lo H,CallOk NC lo ak29.f ak29.args H ak29.v H:=known_ok saneNC awh28 (fuel:=5000) (by kernel_rfl) (by kernel_rfl) (by kernel_rfl)
def aw29:List Known:=ak29::aw28
theorem awh29:∀ k ∈ aw29,∀ lo H,CallOk NC lo k.f k.args H k.v H:=fun k h=>(List.mem_cons.1 h).elim (fun e=>e ▸ ac29) (awh28 k)
def ak30:Known:=⟨133,[.agg [.ps .unk [[.str [117,112],.ps .unk [[.int .i64 100,.int .i64 5000,.bool false],[.int .i64 50,.int .i64 5080,.bool false],[.int .i64 30,.int .i64 5200,.bool true]]],[.str [115,105,100,101],.ps .unk [[.int .i64 40,.int .i64 0,.bool false]]]],.ps .unk [[.str [119],.str [117,112],.int .i64 120,.str [115,105,100,101],.bool false]],.ps .unk [[.str [97,114,99,104],.str [98,114,105,100,103,101],.str [117,112],.int .i64 130,.int .i64 150]]],.str [117,112],.agg [.int .i64 0,.int .i64 100]],.int .i64 0⟩
theorem ac30:∀ lo H,CallOk NC lo ak30.f ak30.args H ak30.v H:=known_ok saneNC awh29 (fuel:=5000) (by kernel_rfl) (by kernel_rfl) (by kernel_rfl)
def aw30:List Known:=ak30::aw29
theorem awh30:∀ k ∈ aw30,∀ lo H,CallOk NC lo k.f k.args H k.v H:=fun k h=>(List.mem_cons.1 h).elim (fun e=>e ▸ ac30) (awh29 k)
def ak31:Known:=⟨133,[.agg [.ps .unk [[.str [117,112],.ps .unk [[.int .i64 100,.int .i64 5000,.bool false],[.int .i64 50,.int .i64 5080,.bool false],[.int .i64 30,.int .i64 5200,.bool true]]],[.str [115,105,100,101],.ps .unk [[.int .i64 40,.int .i64 0,.bool false]]]],.ps .unk [[.str [119],.str [117,112],.int .i64 120,.str [115,105,100,101],.bool false]],.ps .unk [[.str [97,114,99,104],.str [98,114,105,100,103,101],.str [117,112],.int .i64 130,.int .i64 150]]],.str [117,112],.agg [.int .i64 100,.int .i64 150]],.int .i64 0⟩
theorem ac31:∀ lo H,CallOk NC lo ak31.f ak31.args H ak31.v H:=known_ok saneNC awh30 (fuel:=5000) (by kernel_rfl) (by kernel_rfl) (by kernel_rfl)
def aw31:List Known:=ak31::aw30
theorem awh31:∀ k ∈ aw31,∀ lo H,CallOk NC lo k.f k.args H k.v H:=fun k h=>(List.mem_cons.1 h).elim (fun e=>e ▸ ac31) (awh30 k)
def ak32:Known:=⟨50,[.ps .unk [[.str [117,112],.int .i64 0,.int .i64 100,.str [109,97,105,110],.int .i64 20,.bool false],[.str [117,112],.int .i64 100,.int .i64 50,.str [109,97,105,110],.int .i64 200,.bool true]],.agg [.ps .unk [[.str [117,112],.ps .unk [[.int .i64 100,.int .i64 5000,.bool false],[.int .i64 50,.int .i64 5080,.bool false],[.int .i64 30,.int .i64 5200,.bool true]]],[.str [115,105,100,101],.ps .unk [[.int .i64 40,.int .i64 0,.bool false]]]],.ps .unk [[.str [119],.str [117,112],.int .i64 120,.str [115,105,100,101],.bool false]],.ps .unk [[.str [97,114,99,104],.str [98,114,105,100,103,101],.str [117,112],.int .i64 130,.int .i64 150]]],.agg [.ps .unk [[.str [109,97,105,110],.ps .unk [[.int .i64 300,.int .i64 1000,.bool false]]]],.ps .unk [],.ps .unk []]],.int .i64 0⟩
theorem ac32:∀ lo H,CallOk NC lo ak32.f ak32.args H ak32.v H:=known_ok saneNC awh31 (fuel:=5000) (by kernel_rfl) (by kernel_rfl) (by kernel_rfl)
def aw32:List Known:=ak32::aw31
theorem awh32:∀ k ∈ aw32,∀ lo H,CallOk NC lo k.f k.args H k.v H:=fun k h=>(List.mem_cons.1 h).elim (fun e=>e ▸ ac32) (awh31 k)
def ak33:Known:=⟨69,[.ps .unk [[.int .i64 10,.ps .unk [[.str [117,112],.ps .unk [[.int .i64 100,.int .i64 5000,.bool false],[.int .i64 50,.int .i64 5080,.bool false],[.int .i64 30,.int .i64 5200,.bool true]]],[.str [115,105,100,101],.ps .unk [[.int .i64 40,.int .i64 0,.bool false]]]],.ps .unk [[.str [119],.str [117,112],.int .i64 120,.str [115,105,100,101],.bool false]],.ps .unk [[.str [97,114,99,104],.str [98,114,105,100,103,101],.str [117,112],.int .i64 130,.int .i64 150]],.ps .unk []],[.int .i64 20,.ps .unk [[.str [109,97,105,110],.ps .unk [[.int .i64 300,.int .i64 1000,.bool false]]]],.ps .unk [],.ps .unk [],.ps .unk [[.str [117,112],.int .i64 0,.int .i64 100,.str [109,97,105,110],.int .i64 20,.bool false],[.str [117,112],.int .i64 100,.int .i64 50,.str [109,97,105,110],.int .i64 200,.bool true]]]]],.int .i64 0⟩
theorem ac33:∀ lo H,CallOk NC lo ak33.f ak33.args H ak33.v H:=known_ok saneNC awh32 (fuel:=5000) (by kernel_rfl) (by kernel_rfl) (by kernel_rfl)
def aw33:List Known:=ak33::aw32
theorem awh33:∀ k ∈ aw33,∀ lo H,CallOk NC lo k.f k.args H k.v H:=fun k h=>(List.mem_cons.1 h).elim (fun e=>e ▸ ac33) (awh32 k)
def ak34:Known:=⟨65,[.ps .unk [[.int .i64 10,.ps .unk [[.str [117,112],.ps .unk [[.int .i64 100,.int .i64 5000,.bool false],[.int .i64 50,.int .i64 5080,.bool false],[.int .i64 30,.int .i64 5200,.bool true]]],[.str [115,105,100,101],.ps .unk [[.int .i64 40,.int .i64 0,.bool false]]]],.ps .unk [[.str [119],.str [117,112],.int .i64 120,.str [115,105,100,101],.bool false]],.ps .unk [[.str [97,114,99,104],.str [98,114,105,100,103,101],.str [117,112],.int .i64 130,.int .i64 150]],.ps .unk []],[.int .i64 20,.ps .unk [[.str [109,97,105,110],.ps .unk [[.int .i64 300,.int .i64 1000,.bool false]]]],.ps .unk [],.ps .unk [],.ps .unk [[.str [117,112],.int .i64 0,.int .i64 100,.str [109,97,105,110],.int .i64 20,.bool false],[.str [117,112],.int .i64 100,.int .i64 50,.str [109,97,105,110],.int .i64 200,.bool true]]]],.int .i64 15,.agg [.str [117,112],.int .i64 1,.int .i64 5090],.int .i64 25],.tup [.agg [.str [109,97,105,110],.int .i64 0,.int .i64 1239],.int .i64 0]⟩
theorem ac34:∀ lo H,CallOk NC lo ak34.f ak34.args H ak34.v H:=known_ok saneNC awh33 (fuel:=5000) (by kernel_rfl) (by kernel_rfl) (by kernel_rfl)
def aw34:List Known:=ak34::aw33
theorem awh34:∀ k ∈ aw34,∀ lo H,CallOk NC lo k.f k.args H k.v H:=fun k h=>(List.mem_cons.1 h).elim (fun e=>e ▸ ac34) (awh33 k)
def ak35:Known:=⟨65,[.ps .unk [[.int .i64 10,.ps .unk [[.str [117,112],.ps .unk [[.int .i64 100,.int .i64 5000,.bool false],[.int .i64 50,.int .i64 5080,.bool false],[.int .i64 30,.int .i64 5200,.bool true]]],[.str [115,105,100,101],.ps .unk [[.int .i64 40,.int .i64 0,.bool false]]]],.ps .unk [[.str [119],.str [117,112],.int .i64 120,.str [115,105,100,101],.bool false]],.ps .unk [[.str [97,114,99,104],.str [98,114,105,100,103,101],.str [117,112],.int .i64 130,.int .i64 150]],.ps .unk []],[.int .i64 20,.ps .unk [[.str [109,97,105,110],.ps .unk [[.int .i64 300,.int .i64 1000,.bool false]]]],.ps .unk [],.ps .unk [],.ps .unk [[.str [117,112],.int .i64 0,.int .i64 100,.str [109,97,105,110],.int .i64 20,.bool false],[.str [117,112],.int .i64 100,.int .i64 50,.str [109,97,105,110],.int .i64 200,.bool true]]]],.int .i64 25,.agg [.str [109,97,105,110],.int .i64 0,.int .i64 1239],.int .i64 10],.tup [.agg [.str [117,112],.int .i64 1,.int .i64 5090],.int .i64 0]⟩
theorem ac35:∀ lo H,CallOk NC lo ak35.f ak35.args H ak35.v H:=known_ok saneNC awh34 (fuel:=5000) (by kernel_rfl) (by kernel_rfl) (by kernel_rfl)
def aw35:List Known:=ak35::aw34
theorem awh35:∀ k ∈ aw35,∀ lo H,CallOk NC lo k.f k.args H k.v H:=fun k h=>(List.mem_cons.1 h).elim (fun e=>e ▸ ac35) (awh34 k)
def ak36:Known:=⟨102,[.agg [.ps .unk [[.str [117,112],.ps .unk [[.int .i64 100,.int .i64 5000,.bool false],[.int .i64 50,.int .i64 5080,.bool false],[.int .i64 30,.int .i64 5200,.bool true]]],[.str [115,105,100,101],.ps .unk [[.int .i64 40,.int .i64 0,.bool false]]]],.ps .unk [[.str [119],.str [117,112],.int .i64 120,.str [115,105,100,101],.bool false]],.ps .unk [[.str [97,114,99,104],.str [98,114,105,100,103,101],.str [117,112],.int .i64 130,.int .i64 150]]],.agg [.str [117,112],.int .i64 2,.int .i64 5171]],.tup [.agg [.str [117,112],.int .i64 179],.int .i64 0]⟩
theorem ac36:∀ lo H,CallOk NC lo ak36.f ak36.args H ak36.v H:=known_ok saneNC awh35 (fuel:=5000) (by kernel_rfl) (by kernel_rfl) (by kernel_rfl)
def aw36:List Known:=ak36::aw35
theorem awh36:∀ k ∈ aw36,∀ lo H,CallOk NC lo k.f k.args H k.v H:=fun k h=>(List.mem_cons.1 h).elim (fun e=>e ▸ ac36) (awh35 k)
def ak37:Known:=⟨65,[.ps .unk [[.int .i64 10,.ps .unk [[.str [117,112],.ps .unk [[.int .i64 100,.int .i64 5000,.bool false],[.int .i64 50,.int .i64 5080,.bool false],[.int .i64 30,.int .i64 5200,.bool true]]],[.str [115,105,100,101],.ps .unk [[.int .i64 40,.int .i64 0,.bool false]]]],.ps .unk [[.str [119],.str [117,112],.int .i64 120,.str [115,105,100,101],.bool false]],.ps .unk [[.str [97,114,99,104],.str [98,114,105,100,103,101],.str [117,112],.int .i64 130,.int .i64 150]],.ps .unk []],[.int .i64 20,.ps .unk [[.str [109,97,105,110],.ps .unk [[.int .i64 300,.int .i64 1000,.bool false]]]],.ps .unk [],.ps .unk [],.ps .unk [[.str [117,112],.int .i64 0,.int .i64 100,.str [109,97,105,110],.int .i64 20,.bool false],[.str [117,112],.int .i64 100,.int .i64 50,.str [109,97,105,110],.int .i64 200,.bool true]]]],.int .i64 15,.agg [.str [117,112],.int .i64 2,.int .i64 5171],.int .i64 25],.tup [.agg [.str [],.int .i64 0,.int .i64 0],.int .i64 7]⟩
theorem ac37:∀ lo H,CallOk NC lo ak37.f ak37.args H ak37.v H:=known_ok saneNC awh36 (fuel:=5000) (by kernel_rfl) (by kernel_rfl) (by kernel_rfl)
def aw37:List Known:=ak37::aw36
theorem awh37:∀ k ∈ aw37,∀ lo H,CallOk NC lo k.f k.args H k.v H:=fun k h=>(List.mem_cons.1 h).elim (fun e=>e ▸ ac37) (awh36 k)
def ak38:Known:=⟨87,[.agg [.ps .unk [[.str [117,112],.ps .unk [[.int .i64 100,.int .i64 5000,.bool false],[.int .i64 50,.int .i64 5080,.bool false],[.int .i64 30,.int .i64 5200,.bool true]]],[.str [115,105,100,101],.ps .unk [[.int .i64 40,.int .i64 0,.bool false]]]],.ps .unk [[.str [119],.str [117,112],.int .i64 120,.str [115,105,100,101],.bool false]],.ps .unk [[.str [97,114,99,104],.str [98,114,105,100,103,101],.str [117,112],.int .i64 130,.int .i64 150]]]],.tup [.str [108,105,110,101,32,117,112,10,112,105,101,99,101,32,49,48,48,32,53,48,48,48,32,117,112,10,112,105,101,99,101,32,53,48,32,53,48,56,48,32,117,112,10,112,105,101,99,101,32,51,48,32,53,50,48,48,32,100,111,119,110,10,108,105,110,101,32,115,105,100,101,10,112,105,101,99,101,32,52,48,32,48,32,117,112,10,115,119,105,116,99,104,32,119,32,117,112,32,49,50,48,32,115,105,100,101,32,102,105,114,115,116,10,115,116,114,117,99,116,117,114,101,32,97,114,99,104,32,98,114,105,100,103,101,32,117,112,32,49,51,48,32,49,53,48,10],.int .i64 0]⟩
theorem ac38:∀ lo H,CallOk NC lo ak38.f ak38.args H ak38.v H:=known_ok saneNC awh37 (fuel:=5000) (by kernel_rfl) (by kernel_rfl) (by kernel_rfl)
def aw38:List Known:=ak38::aw37
theorem awh38:∀ k ∈ aw38,∀ lo H,CallOk NC lo k.f k.args H k.v H:=fun k h=>(List.mem_cons.1 h).elim (fun e=>e ▸ ac38) (awh37 k)
def ak39:Known:=⟨16,[],.bool true⟩
theorem ac39:∀ lo H,CallOk NC lo ak39.f ak39.args H ak39.v H:=known_ok saneNC awh38 (fuel:=5000) (by kernel_rfl) (by kernel_rfl) (by kernel_rfl)
end Go.Sim

/-
The law: NetworkPlaces returns true.
-/
namespace Go.Sim
open Go Go.Proofs
set_option maxRecDepth 100000
set_option maxHeartbeats 16000000
noncomputable def p16:List AV→Option AV:=fun l=>match l with
 | []=>some (.bool true)
 | _=>none
theorem pok16:∀ args v,p16 args=some v → ∀ lo H,CallOk NC lo 16 args H v H:=by
 intro args v h
 cases args with
 | nil =>
   have:v=.bool true:=by simpa [p16] using h.symm
   subst this
   exact ac39
 | cons a r=>simp [p16] at h
theorem e16:p16 []=some (.bool true):=rfl
noncomputable def p17:List AV→Option AV:=primOf (α:=Net) (fun x=>[.agg x.cells]) (fun _=>True) (fun x=>.bool (shortN x))
theorem pok17:∀ args v,p17 args=some v → ∀ lo H,CallOk NC lo 17 args H v H:=by
 intro args v h
 obtain ⟨x,rfl,hp,rfl⟩:=primOf_inv h
 clear h
 revert x
 intro x;exact c17 x
theorem pe17 (x:Net) (hp:(fun _=>True) x):p17 ((fun x=>[.agg x.cells]) x)=some ((fun x=>.bool (shortN x)) x):=primOf_enc (by intro x y h;exact cells1_inj x y h) x hp
noncomputable def p19:List AV→Option AV:=primOf (α:=Net) (fun x=>[.agg x.cells]) (fun x=>x.fits∧x.sws.length≤maxRows∧x.sts.length≤maxRows) (fun x=>.agg x.cells)
theorem pok19:∀ args v,p19 args=some v → ∀ lo H,CallOk NC lo 19 args H v H:=by
 intro args v h
 obtain ⟨x,rfl,hp,rfl⟩:=primOf_inv h
 clear h
 revert x
 intro x hx;exact c19 x hx.1 hx.2.1 hx.2.2
theorem pe19 (x:Net) (hp:(fun x=>x.fits∧x.sws.length≤maxRows∧x.sts.length≤maxRows) x):p19 ((fun x=>[.agg x.cells]) x)=some ((fun x=>.agg x.cells) x):=primOf_enc (by intro x y h;exact cells1_inj x y h) x hp
noncomputable def p22:List AV→Option AV:=primOf (α:=Net) (fun x=>[.agg x.cells]) (fun x=>x.fits∧x.sws.length≤maxRows∧x.sts.length≤maxRows) (fun x=>i64 (netR x))
theorem pok22:∀ args v,p22 args=some v → ∀ lo H,CallOk NC lo 22 args H v H:=by
 intro args v h
 obtain ⟨x,rfl,hp,rfl⟩:=primOf_inv h
 clear h
 revert x
 intro x hx;exact c22 x hx.1 hx.2.1 hx.2.2
theorem pe22 (x:Net) (hp:(fun x=>x.fits∧x.sws.length≤maxRows∧x.sts.length≤maxRows) x):p22 ((fun x=>[.agg x.cells]) x)=some ((fun x=>i64 (netR x)) x):=primOf_enc (by intro x y h;exact cells1_inj x y h) x hp
theorem beqL_self (a:List Nat):beqL a a=true:=(beqL_iff a a).2 rfl
theorem eqI_self (a:Int):eqI a a=true:=by rw [eqI_iff];simp
theorem short_ok {n:Net} (h:shortN n=true):n.Ok:=by
 unfold shortN at h
 simp only [Bool.and_eq_true,Bool.not_eq_true',Bool.or_eq_false_iff,decide_eq_false_iff_not,List.all_eq_true] at h
 obtain ⟨⟨⟨⟨⟨h1,h2⟩,h3⟩,h4⟩,h5⟩,h6⟩:=h
 have short:∀ s:List Nat,shortB s=true→s.length≤maxRows:=by
  intro s hs
  unfold shortB at hs
  simp only [Bool.not_eq_true',decide_eq_false_iff_not] at hs
  unfold maxRows;omega
 refine ⟨by unfold maxRows;omega,fun l hl => ?_,by unfold maxRows;omega,fun s hs => ?_,by unfold maxRows;omega,fun s hs => ?_⟩
 · have:=h4 l hl
   unfold shortLn at this
   simp only [Bool.and_eq_true,Bool.not_eq_true',decide_eq_false_iff_not] at this
   exact ⟨short _ this.1,by unfold maxRows;omega⟩
 · have:=h5 s hs
   unfold shortSw at this
   simp only [Bool.and_eq_true] at this
   exact short _ this.1.1
 · have:=h6 s hs
   unfold shortSt at this
   simp only [Bool.and_eq_true] at this
   exact ⟨short _ this.1.1,short _ this.1.2⟩
end Go.Sim

/-
Histories: data; the program's CheckHistory, On; moves that carry back.
-/
-- INJ Sv.row_iff svs_iff
namespace Go.Sim
open Go Go.Proofs
set_option maxRecDepth 100000
set_option maxHeartbeats 8000000
structure Sv where
 day:Int
 net:Net
 map:List Mv
def Sv.row (s:Sv):List AV:=i64 s.day::(s.net.cells++[.ps .unk (s.map.map Mv.row)])
end Go.Sim

/-
Histories: the program's Since.
-/
-- INJ Sv.row_iff svs_iff
namespace Go.Sim
open Go Go.Proofs
set_option maxRecDepth 100000
set_option maxHeartbeats 8000000
section
variable {C:Cfg} {lo:Nat} {fid:FuncId} {rnd:Bool} (T:TT AV) (H:Heap) (M:List Nat) (Q:AExit→TT AV→Heap→List Nat→Prop)
def unscope (Q:AExit→TT AV→Heap→List Nat→Prop) (e:AExit) (T:TT AV) (H:Heap) (M:List Nat) (_t:Tag Q:=⟨⟩):Prop:=match e with
 | .gto _=>False
 | e=>Q e T H M
theorem unscope_nrm:unscope Q .nrm T H M=Q .nrm T H M:=rfl
theorem unscope_ret:unscope Q .ret T H M=Q .ret T H M:=rfl
theorem unscope_ext (i:Nat):unscope Q (.ext i) T H M=Q (.ext i) T H M:=rfl
theorem W_scope (b:Code):W C lo fid rnd (.scope b) T H M Q=W C lo fid rnd b T H M (fun e T H M=>unscope Q e T H M):=by
 unfold W
 rw [R_scope]
 cases h:R C (.code lo fid rnd b ⟨T,H,M⟩) with
 | none=>rfl
 | some o=>obtain ⟨e,⟨T',H',M'⟩⟩:=o;cases e<;>rfl
end
attribute [go_sem ↓] W_scope W_label unscope_nrm unscope_ret unscope_ext
end Go.Sim

/-
Posts: the reference, the law's own helpers; ends of switches.
-/
namespace Go.Sim
open Go Go.Proofs
set_option maxRecDepth 100000
set_option maxHeartbeats 8000000
def strRow (s:List Nat):List AV:=[.str s]
theorem strRow_len (s:List Nat):(strRow s).length=1:=rfl
theorem strRow_inj (a b:List Nat) (h:strRow a=strRow b):a=b:=by simpa [strRow] using h
end Go.Sim

/-
Further facts on the types and the regions of this program.
-/
namespace Go.Sim
open Go Go.Proofs
theorem un_376:NC.P.underlying 376=some (.int .u64):=by kernel_rfl
theorem ze_376:zeroOf NC.P 376=some (.int .u64 0):=by kernel_rfl
theorem sz_376:szOf NC.P 376=some 1:=by kernel_rfl
theorem ze_388:zeroOf NC.P 388=some (.agg [.int .u8 0,.int .u8 0,.int .u8 0,.int .u8 0,.int .u8 0,.int .u8 0,.int .u8 0,.int .u8 0,.int .u8 0,.int .u8 0,.int .u8 0,.int .u8 0,.int .u8 0,.int .u8 0,.int .u8 0,.int .u8 0,.int .u8 0,.int .u8 0,.int .u8 0,.int .u8 0,.int .u8 0,.int .u8 0,.int .u8 0,.int .u8 0]):=by kernel_rfl
theorem un_2:NC.P.underlying 2=some (.int .i64):=by kernel_rfl
theorem un_388:NC.P.underlying 388=some (.array 24 5):=by kernel_rfl
theorem ag_376:aggOf NC.P 376=some false:=by kernel_rfl
theorem pl_258_8 (P:FuncId→Option (List AV→Option AV)):(NC.withPrims P).plans 258 8=[⟨.data,0,0,[]⟩,⟨.data,0,0,[]⟩,⟨.data,0,2,[]⟩,⟨.data,0,6,[]⟩,⟨.data,0,14,[]⟩,⟨.read,0,30,[]⟩,⟨.data,0,62,[]⟩,⟨.data,0,126,[]⟩,⟨.data,0,254,[]⟩,⟨.data,0,510,[]⟩,⟨.data,0,1022,[]⟩,⟨.data,0,2046,[]⟩,⟨.data,0,4094,[]⟩,⟨.data,0,255,[]⟩,⟨.data,0,16383,[]⟩]:=by kernel_rfl
attribute [go_sem] un_376 ze_376 sz_376 ze_388 un_2 un_388 ag_376
attribute [go_sem] pl_258_8
end Go.Sim

/-
Rows that lie one behind the other.
-/
namespace Go.Sim
open Go
/-! ### Small numbers -/
theorem wrap_in {n:Int} (h0:0≤n) (h1:n≤9223372036854775807):IntKind.wrap .i64 n=n:=by
 have:=wrapq_i64 (x:=n) (by omega) h1
 unfold IntKind.wrap
 have h64:((2:Int) ^ (IntKind.bits .i64))=18446744073709551616:=by decide
 have h63:((2:Int) ^ (IntKind.bits .i64 - 1))=9223372036854775808:=by decide
 simp only [h64,h63]
 have e:n % 18446744073709551616=n:=by omega
 rw [e]
 have:¬ (n ≥ 9223372036854775808):=by omega
 simp [this]
theorem conv_u8 {n:Int} (h0:0≤n) (h1:n≤255):aconv NC.P 5 3 (.int .u8 n)=some (.int .i64 n):=by
 have e:aconv NC.P 5 3 (.int .u8 n)=some (.int .i64 (IntKind.wrap .i64 n)):=by kernel_rfl
 rw [e,wrap_in h0 (by omega)]
theorem i23:((2:Int) < 3)=True:=by simp
theorem i22:((2:Int) < 2)=False:=by simp
def Even (sz:Nat) (rows:List (List AV)):Prop:=∀ r ∈ rows,r.length=sz
theorem Even.map {α:Type} {sz:Nat} {f:α→List AV} (hf:∀ x,(f x).length=sz) (l:List α):Even sz (l.map f):=by
 intro r hr
 obtain ⟨x,_,rfl⟩:=List.mem_map.1 hr
 exact hf x
theorem chunks_flat {sz:Nat}:∀ {rows:List (List AV)},Even sz rows→chunks sz rows.length rows.flatten=some rows
 | [],_=>rfl
 | r::rs,h=>by
   have hr:=h r (by simp)
   have hd:(r++rs.flatten).drop sz=rs.flatten:=by rw [← hr,List.drop_left]
   have ht:(r++rs.flatten).take sz=r:=by rw [← hr,List.take_left]
   have hle:sz≤(r++rs.flatten).length:=by simp;omega
   rw [List.length_cons,List.flatten_cons]
   unfold chunks
   rw [if_pos hle,hd,ht,chunks_flat fun x hx=>h x (by simp [hx])]
end Go.Sim

/-
Ends of switches; where a switch lies on a line.
-/
namespace Go.Sim
open Go Go.Proofs
set_option maxRecDepth 100000
set_option maxHeartbeats 8000000
theorem evalO_str0 {C:Cfg} {T:TT AV}:evalO C T (.const (.string { data:=#[] }))=some (.str []):=rfl
attribute [go_sem] evalO_str0
theorem ab259 (a c:List Nat) (b d:Int):abuild NC.P 259 [(0,.agg [.str a,.int .i64 b]),(1,.agg [.str c,.int .i64 d])]=some (.agg [.str a,.int .i64 b,.str c,.int .i64 d]):=by kernel_rfl
theorem ab137 (a c:List Nat) (b d:Int):abuild NC.P 137 [(0,.agg [.str a,.int .i64 b]),(1,.agg [.str c,.int .i64 d])]=some (.agg [.str a,.int .i64 b,.str c,.int .i64 d]):=by kernel_rfl
attribute [go_sem] ab259 ab137
end Go.Sim

/-
Texts: parts of strings, integers: the library's and the program's functions.
-/
namespace Go.Sim
open Go Go.Proofs
set_option maxRecDepth 100000
set_option maxHeartbeats 4000000
/-! ### Slices of strings; constants -/
theorem asl_lo {s:List Nat} {i:Nat} (hi:i≤s.length):aslice NC.P 9 (.str s) (some (.int .i64 (i:Int))) none none=some (.str (s.drop i)):=by
 unfold aslice
 simp only [un_9,boundOf,natOf_cast]
 rw [if_pos (by omega)]
 simp
theorem asl_hi {s:List Nat} {i:Nat} (hi:i≤s.length):aslice NC.P 9 (.str s) none (some (.int .i64 (i:Int))) none=some (.str (s.take i)):=by
 unfold aslice
 simp only [un_9,boundOf,natOf_cast]
 rw [if_pos (by omega)]
 simp
theorem asl_both {s:List Nat} {i j:Nat} (hi:i≤j) (hj:j≤s.length):aslice NC.P 9 (.str s) (some (.int .i64 (i:Int))) (some (.int .i64 (j:Int))) none=some (.str ((s.take j).drop i)):=by
 unfold aslice
 simp only [un_9,boundOf,natOf_cast]
 rw [if_pos (by omega)]
 simp only
 rw [if_pos (by omega)]
theorem kLF {C:Cfg} {T:TT AV}:evalO C T (.const (.string { data:=#[10] }))=some (.str [10]):=rfl
theorem kSP {C:Cfg} {T:TT AV}:evalO C T (.const (.string { data:=#[32] }))=some (.str [32]):=rfl
attribute [go_sem] kLF kSP
theorem op_mkSlice {C:Cfg} {rec:Rec} {fid lo:Nat} {T:TT AV} {H:Heap} {K:AV→Heap→Prop} {d:Option Tmp} {t:TypeId} {p:String} {af:Array Edge} {gd:Option (Nat × Bool)} (t':TypeId) (l c:Operand) :
 VO (aop C rec fid lo ⟨d,.makeSlice t' l c,t,p,af,gd⟩ T H) K=AO (evalO C T l) fun x=>AO (evalO C T c) fun y=>VO (amakeSlice C.P H t' x y) K:=by
 simp only [aop]
 cases evalO C T l with
 | none=>rfl
 | some x=>cases evalO C T c<;>rfl
/-! ### CutSuffix -/
def endsB (s:List Nat):Bool:=!decide (s.length < 1) && beqL (s.drop (s.length - 1)) [10]
noncomputable def PPF254:FuncId→Option (List AV→Option AV):=fun _=>none
theorem primsF254:PrimsOk NC PPF254:=primsOk_none
theorem c254 (s:List Nat) (hp:s.length≤maxRows):∀ lo H,CallOk NC lo 254 [.str s,.str [10]] H (.bool (endsB s)) H:=by
 refine contract saneNC primsF254 (fn:=Tryz.f254) (by kernel_rfl) Tryz.func254 rfl rfl (by rfl) (by first | rfl | (split<;>first | rfl | (split<;>rfl))) ?_
 rcases Classical.propComplete (s.length < 1) with q | q
 · have hE:endsB s=false:=by unfold endsB;simp [q]
   rw [hE]
   simp only [go_sem,reduceIte,reduceEqDiff,reduceAdd,reduceMul,reduceSub,reduceLeDiff,reduceLT,Nat.reduceBEq,reduceCtorEq,q]
 · have hq:¬ (s.length < 1):=by rw [q];exact id
   have hw:wrapq .i64 (Int.sub (s.length:Int) ((1:Nat):Int))=((s.length - 1:Nat):Int):=wrap_pred (k:=s.length) (n:=s.length) (by omega) (Nat.le_refl _) hp
   have sl:=asl_lo (s:=s) (i:=s.length - 1) (by omega)
   have hE:endsB s=beqL (s.drop (s.length - 1)) [10]:=by unfold endsB;simp [hq]
   rw [hE]
   simp only [go_sem,reduceIte,reduceEqDiff,reduceAdd,reduceMul,reduceSub,reduceLeDiff,reduceLT,Nat.reduceBEq,reduceCtorEq,q,hw,sl]
noncomputable def p254:List AV→Option AV:=primOf (α:=(List Nat)) (fun x=>[.str x,.str [10]]) (fun x=>x.length≤maxRows) (fun x=>.bool (endsB x))
theorem pok254:∀ args v,p254 args=some v → ∀ lo H,CallOk NC lo 254 args H v H:=by
 intro args v h
 obtain ⟨x,rfl,hp,rfl⟩:=primOf_inv h
 exact c254 x hp
theorem pe254 (s:List Nat) (hp:s.length≤maxRows):p254 [.str s,.str [10]]=some (.bool (endsB s)):=primOf_enc (α:=(List Nat)) (enc:=fun x=>[.str x,.str [10]]) (pre:=fun x=>x.length≤maxRows) (spec:=fun x=>.bool (endsB x)) (by intro x y h;(simp only [List.cons.injEq,AV.agg.injEq,AV.str.injEq,AV.int.injEq,AV.ps.injEq,AV.bool.injEq,Net.cells_iff,Ln.row_iff,Pc.row_iff,Mv.row_iff,lns_iff,pcs_iff,mvs_iff,true_and,and_true] at h;first | simpa only [Prod.ext_iff] using h | simpa only [Prod.ext_iff,and_assoc] using h)) s hp
noncomputable def PPF214:FuncId→Option (List AV→Option AV):=addPrim 254 p254 (fun _=>none)
theorem primsF214:PrimsOk NC PPF214:=primsOk_add (primsOk_none) (by kernel_rfl) (by kernel_rfl) pok254
theorem enF214_254:En PPF214 254 p254:=enter_prim (by rfl) (by kernel_rfl)
attribute [go_sem ↓] enF214_254
theorem c214 (s:List Nat) (hp:s.length≤maxRows):∀ lo H,CallOk NC lo 214 [.str s,.str [10]] H (.tup [.str (if endsB s then s.take (s.length - 1) else s),.bool (endsB s)]) H:=by
 refine contract saneNC primsF214 (fn:=Tryz.f214) (by kernel_rfl) Tryz.func214 rfl rfl (by rfl) (by first | rfl | (split<;>first | rfl | (split<;>rfl))) ?_
 have e254:=pe254 s hp
 cases hE:endsB s with
 | false =>
   rw [hE] at e254
   simp only [go_sem,reduceIte,reduceEqDiff,reduceAdd,reduceMul,reduceSub,reduceLeDiff,reduceLT,Nat.reduceBEq,reduceCtorEq,e254]
 | true =>
   rw [hE] at e254
   have hq:¬ (s.length < 1):=by
    intro h;unfold endsB at hE;simp [h] at hE
   have hw:wrapq .i64 (Int.sub (s.length:Int) ((1:Nat):Int))=((s.length - 1:Nat):Int):=wrap_pred (k:=s.length) (n:=s.length) (by omega) (Nat.le_refl _) hp
   have sl:=asl_hi (s:=s) (i:=s.length - 1) (by omega)
   simp only [go_sem,reduceIte,reduceEqDiff,reduceAdd,reduceMul,reduceSub,reduceLeDiff,reduceLT,Nat.reduceBEq,reduceCtorEq,e254,hw,sl]
noncomputable def p214:List AV→Option AV:=primOf (α:=(List Nat)) (fun x=>[.str x,.str [10]]) (fun x=>x.length≤maxRows) (fun x=>.tup [.str (if endsB x then x.take (x.length - 1) else x),.bool (endsB x)])
theorem pok214:∀ args v,p214 args=some v → ∀ lo H,CallOk NC lo 214 args H v H:=by
 intro args v h
 obtain ⟨x,rfl,hp,rfl⟩:=primOf_inv h
 exact c214 x hp
theorem pe214 (s:List Nat) (hp:s.length≤maxRows):p214 [.str s,.str [10]]=some (.tup [.str (if endsB s then s.take (s.length - 1) else s),.bool (endsB s)]):=primOf_enc (α:=(List Nat)) (enc:=fun x=>[.str x,.str [10]]) (pre:=fun x=>x.length≤maxRows) (spec:=fun x=>.tup [.str (if endsB x then x.take (x.length - 1) else x),.bool (endsB x)]) (by intro x y h;(simp only [List.cons.injEq,AV.agg.injEq,AV.str.injEq,AV.int.injEq,AV.ps.injEq,AV.bool.injEq,Net.cells_iff,Ln.row_iff,Pc.row_iff,Mv.row_iff,lns_iff,pcs_iff,mvs_iff,true_and,and_true] at h;first | simpa only [Prod.ext_iff] using h | simpa only [Prod.ext_iff,and_assoc] using h)) s hp
noncomputable def PPF165:FuncId→Option (List AV→Option AV):=addPrim 214 p214 (fun _=>none)
theorem primsF165:PrimsOk NC PPF165:=primsOk_add (primsOk_none) (by kernel_rfl) (by kernel_rfl) pok214
theorem enF165_214:En PPF165 214 p214:=enter_prim (by rfl) (by kernel_rfl)
attribute [go_sem ↓] enF165_214
theorem c165 (s:List Nat) (hp:s.length≤maxRows):∀ lo H,CallOk NC lo 165 [.str s,.str [10]] H (.tup [.str (if endsB s then s.take (s.length - 1) else s),.bool (endsB s)]) H:=by
 refine contract saneNC primsF165 (fn:=Tryz.f165) (by kernel_rfl) Tryz.func165 rfl rfl (by rfl) (by first | rfl | (split<;>first | rfl | (split<;>rfl))) ?_
 have e214:=pe214 s hp
 simp only [go_sem,reduceIte,reduceEqDiff,reduceAdd,reduceMul,reduceSub,reduceLeDiff,reduceLT,Nat.reduceBEq,reduceCtorEq,e214]
noncomputable def p165:List AV→Option AV:=primOf (α:=(List Nat)) (fun x=>[.str x,.str [10]]) (fun x=>x.length≤maxRows) (fun x=>.tup [.str (if endsB x then x.take (x.length - 1) else x),.bool (endsB x)])
theorem pok165:∀ args v,p165 args=some v → ∀ lo H,CallOk NC lo 165 args H v H:=by
 intro args v h
 obtain ⟨x,rfl,hp,rfl⟩:=primOf_inv h
 exact c165 x hp
theorem pe165 (s:List Nat) (hp:s.length≤maxRows):p165 [.str s,.str [10]]=some (.tup [.str (if endsB s then s.take (s.length - 1) else s),.bool (endsB s)]):=primOf_enc (α:=(List Nat)) (enc:=fun x=>[.str x,.str [10]]) (pre:=fun x=>x.length≤maxRows) (spec:=fun x=>.tup [.str (if endsB x then x.take (x.length - 1) else x),.bool (endsB x)]) (by intro x y h;(simp only [List.cons.injEq,AV.agg.injEq,AV.str.injEq,AV.int.injEq,AV.ps.injEq,AV.bool.injEq,Net.cells_iff,Ln.row_iff,Pc.row_iff,Mv.row_iff,lns_iff,pcs_iff,mvs_iff,true_and,and_true] at h;first | simpa only [Prod.ext_iff] using h | simpa only [Prod.ext_iff,and_assoc] using h)) s hp
/-! ### Split -/
theorem strRows_iff (a b:List (List Nat)):a.map strRow=b.map strRow ↔ a=b:=⟨fun h=>map_inj strRow_inj h,fun h=>by rw [h]⟩
def strF (l:List (List Nat)):List AV:=l.map AV.str
theorem strF_flat (l:List (List Nat)):(l.map strRow).flatten=strF l:=by
 induction l with
 | nil=>rfl
 | cons a r ih=>simp only [List.map_cons,List.flatten_cons,ih];rfl
theorem mk160 (H:Heap) {N:Nat} (h:N≤maxRows):amakeSlice NC.P H 160 (.int .i64 (N:Nat)) (.int .i64 (N:Nat))=some (.rs H.n 0 N 1 (some N),H.push (.cells (strF (List.replicate N [])) 9)):=by
 have e1:elemOf NC.P 160=some 9:=by kernel_rfl
 have e2:szOf NC.P 9=some 1:=by kernel_rfl
 have e3:bytesOf NC.P 9=some 16:=by kernel_rfl
 have e4:zeroOf NC.P 9=some (.str []):=by kernel_rfl
 have hb:16 * N≤140737488355328:=by unfold maxRows at h;omega
 have hf:(List.replicate N (AV.str []).cells).flatten=strF (List.replicate N []):=by
  unfold strF
  rw [List.map_replicate]
  induction N with
  | zero=>rfl
  | succ n ih=>simp only [List.replicate_succ,List.flatten_cons,AV.cells];rw [← ih (by omega) (by omega)];rfl
 unfold amakeSlice
 rw [e1]
 simp only [e2,e3,e4]
 rw [hf,if_pos (by simp [hb,h,AV.cells])]
theorem strF_over {l:List (List Nat)} {k:Nat} (w:List Nat) (hk:k < l.length):over (strF l) k [.str w]=strF (l.set k w):=by
 unfold over strF
 rw [List.map_set]
 have:k < (l.map AV.str).length:=by simpa using hk
 rw [List.set_eq_take_append_cons_drop,if_pos this]
 simp
theorem deepC_str (d:Nat) (H:Heap):∀ l:List (List Nat),deepC (deep (d+1) H) (strF l)=some (strF l)
 | []=>rfl
 | w::r=>by
   have ih:=deepC_str d H r
   show (match deep (d+1) H (.str w) with
   | some x=>match deepC (deep (d+1) H) (strF r) with
     | some l=>some (x::l)
     | none=>none
   | none=>none)=_
   rw [ih];rfl
theorem deep_strs {H:Heap} {id:Nat} {l:List (List Nat)} {e:TypeId} {cap:Option Nat} (h:H.get id=.cells (strF l) e) (d:Nat):deep (d+2) H (.rs id 0 l.length 1 cap)=some (.ps .unk (l.map strRow)):=by
 have h1:readCells H (.ptr id 0) (l.length * 1)=some (strF l):=by
  unfold readCells
  simp only [h,blkCells]
  unfold sub?
  have hl:(strF l).length=l.length:=by unfold strF;simp
  rw [if_pos (by omega),List.drop_zero,List.take_of_length_le (by omega)]
 have h2:chunks 1 l.length (strF l)=some (l.map strRow):=by
  have:=chunks_flat (sz:=1) (rows:=l.map strRow) (Even.map strRow_len l)
  rw [List.length_map,strF_flat] at this
  exact this
 unfold deep
 simp only [h1,deepC_str,h2]
noncomputable def PPF215:FuncId→Option (List AV→Option AV):=addPrim 257 p257 (addPrim 256 p256 (fun _=>none))
theorem primsF215:PrimsOk NC PPF215:=primsOk_add (primsOk_add (primsOk_none) (by kernel_rfl) (by kernel_rfl) pok256) (by kernel_rfl) (by kernel_rfl) pok257
theorem enF215_256:En PPF215 256 p256:=enter_prim (by rfl) (by kernel_rfl)
theorem enF215_257:En PPF215 257 p257:=enter_prim (by rfl) (by kernel_rfl)
attribute [go_sem ↓] enF215_256 enF215_257
theorem c215 (s:List Nat) (c:Nat) (hl:s.length+1≤maxRows):∀ lo H,CallOk NC lo 215 [.str s,.str [c],.int .i64 0,.int .i64 (-1)] H (.ps .unk ((splitL c s).map strRow)) H:=by
 refine contractV saneNC primsF215 (fn:=Tryz.f215) 3 (by kernel_rfl) Tryz.func215 rfl rfl (by rfl) ?_
 have hcl:=cntC_le c s
 have z1:((-1:Int)=0)=False:=by simp
 have z2:((-1:Int) < 0)=True:=by simp
 have hne:beqL [c] []=false:=rfl
 have hN:wrapq .i64 (Int.add ((cntC c s:Nat):Int) 1)=((cntC c s+1:Nat):Int):=wrap_nat (n:=cntC c s+1) (by unfold maxRows at hl;omega)
 have hL:wrapq .i64 (Int.add ((s.length:Nat):Int) 1)=((s.length+1:Nat):Int):=wrap_nat (n:=s.length+1) (by unfold maxRows at hl;omega)
 have hmin:minI ((cntC c s+1:Nat):Int) ((s.length+1:Nat):Int)=((cntC c s+1:Nat):Int):=by unfold minI;rw [if_neg (by omega)]
 have hmk:=mk160 (N:=cntC c s+1)
 have hmk:=fun H=>hmk H (by omega)
 have hP:wrapq .i64 (Int.sub ((cntC c s+1:Nat):Int) 1)=((cntC c s:Nat):Int):=by
  have:=wrap_pred (k:=cntC c s+1) (n:=maxRows) (by omega) (by omega) (Nat.le_refl _)
  simpa using this
 simp only [go_sem,reduceIte,reduceEqDiff,reduceAdd,reduceMul,reduceSub,reduceLeDiff,reduceLT,Nat.reduceBEq,reduceCtorEq,z1,z2,hne,e256,hN,hL,hmin,op_mkSlice,hmk,hP]
 refine W_for (fun k T H M=>M=[]∧getT T 1=.str [c]∧getT T 2=.int .i64 0∧getT T 3=i64 (cntC c s:Nat)∧getT T 9=.rs 0 0 (cntC c s+1) 1 (some (cntC c s+1))∧getT T 10=i64 k∧0 < H.n ∧
  ∃ (done:List (List Nat)) (rest:List Nat),getT T 0=.str rest∧done.length=k∧splitL c s=done++splitL c rest∧rest.length≤s.length∧H.get 0=.cells (strF (done++List.replicate (cntC c s+1 - k) [])) 9) (cntC c s) ?_ ?_ ?_
 · simp only [go_sem,reduceIte,reduceEqDiff,reduceAdd,reduceMul,reduceSub,reduceLeDiff,reduceLT,Nat.reduceBEq,reduceCtorEq]
   exact ⟨[],s,rfl,rfl,rfl,Nat.le_refl _,rfl⟩
 · rintro k T H M hk ⟨rfl,g1,g2,g3,g9,g10,hn,done,rest,g0,hd,hs,hr,h0⟩
   have hcr:cntC c rest=cntC c s - k:=by
    have h1:=splitL_len c s
    rw [hs,List.length_append,hd,splitL_len] at h1
    omega
   rcases idxL_cases c rest with ⟨h1,h2⟩ | ⟨m,h1,h2,h3,h4⟩
   · rw [cntC_none h2] at hcr;omega
   have hmn:((m:Int) < 0)=False:=by simp
   have hw:=wrap_succ (k:=k) (n:=cntC c s) hk (by omega)
   have w0:wrapq .i64 (Int.add (m:Int) 0)=(m:Int):=by
    have:Int.add (m:Int) 0=((m:Nat):Int):=Int.add_zero _
    rw [this];exact wrap_nat (by unfold maxRows at hl;omega)
   have w1:wrapq .i64 (Int.add (m:Int) ((1:Nat):Int))=((m+1:Nat):Int):=wrap_nat (n:=m+1) (by unfold maxRows at hl;omega)
   have sl1:=asl_hi (s:=rest) (i:=m) (by omega)
   have sl2:=asl_lo (s:=rest) (i:=m+1) (by omega)
   have c1:(k < cntC c s+1)=True:=by simp only [eq_iff_iff,iff_true];omega
   have hlen:(strF (done++List.replicate (cntC c s+1 - k) [])).length=cntC c s+1:=by unfold strF;simp;omega
   have c2:(k+1≤(strF (done++List.replicate (cntC c s+1 - k) [])).length)=True:=by rw [hlen];simp only [eq_iff_iff,iff_true];omega
   have hov:over (strF (done++List.replicate (cntC c s+1 - k) [])) k [.str (rest.take m)]=strF ((done++[rest.take m])++List.replicate (cntC c s+1 - (k+1)) []):=by
    rw [strF_over _ (by simp;omega)]
    have e:cntC c s+1 - k=cntC c s+1 - (k+1)+1:=by omega
    rw [e,List.replicate_succ,← hd]
    simp
   generalize hCE:strF (done++List.replicate (cntC c s+1 - k) [])=CE at h0 c2 hov
   unfold over at hov
   simp only [List.length_cons,List.length_nil] at hov
   simp only [go_sem,reduceIte,reduceEqDiff,reduceAdd,reduceMul,reduceSub,reduceLeDiff,reduceLT,Nat.reduceBEq,reduceCtorEq,g0,g1,g2,g3,g9,g10,hk,e257,h1,hmn,hw,w0,w1,sl1,sl2,c1,h0,c2,hov,Nat.mul_one]
   refine ⟨hn,done++[rest.take m],rest.drop (m+1),rfl,by simp [hd], ?_,by simp;omega,rfl⟩
   rw [hs,splitL_at h3 h4];simp
 · rintro T H M ⟨rfl,g1,g2,g3,g9,g10,hn,done,rest,g0,hd,hs,hr,h0⟩
   have hcr:cntC c rest=0:=by
    have h1:=splitL_len c s
    rw [hs,List.length_append,hd,splitL_len] at h1
    omega
   have hrest:splitL c rest=[rest]:=by
    rcases idxL_cases c rest with ⟨h1,h2⟩ | ⟨m,h1,h2,h3,h4⟩
    · exact splitL_none h2
    · rw [cntC_at h3 h4] at hcr;omega
   have hlen:(strF (done++List.replicate (cntC c s+1 - cntC c s) [])).length=cntC c s+1:=by unfold strF;simp;omega
   have c1:(cntC c s < cntC c s+1)=True:=by simp
   have c2:(cntC c s+1≤(strF (done++List.replicate (cntC c s+1 - cntC c s) [])).length)=True:=by rw [hlen];simp
   have hov:over (strF (done++List.replicate (cntC c s+1 - cntC c s) [])) (cntC c s) [.str rest]=strF (splitL c s):=by
    rw [strF_over _ (by simp;omega),hs,hrest]
    have e:cntC c s+1 - cntC c s=0+1:=by omega
    rw [e,List.replicate_succ,← hd]
    simp
   have hw:wrapq .i64 (Int.add ((cntC c s:Nat):Int) 1)=((cntC c s+1:Nat):Int):=hN
   have hsl:aslice NC.P 160 (.rs 0 0 (cntC c s+1) 1 (some (cntC c s+1))) none (some (.int .i64 ((cntC c s+1:Nat):Int))) none=some (.rs 0 0 (cntC c s+1) 1 (some (cntC c s+1))):=by
    have u1:NC.P.underlying 160=some (.slice 9):=by kernel_rfl
    have u2:szOf NC.P 9=some 1:=by kernel_rfl
    unfold aslice
    simp only [u1,u2,boundOf,natOf_cast]
    simp
   generalize hCE:strF (done++List.replicate (cntC c s+1 - cntC c s) [])=CE at h0 c2 hov
   unfold over at hov
   simp only [List.length_cons,List.length_nil] at hov
   simp only [go_sem,reduceIte,reduceEqDiff,reduceAdd,reduceMul,reduceSub,reduceLeDiff,reduceLT,Nat.reduceBEq,reduceCtorEq,g0,g1,g2,g3,g9,g10,Nat.lt_irrefl,c1,h0,c2,hov,hw,hsl,Nat.mul_one]
   have:=deep_strs (H:=H.set 0 (.cells (strF (splitL c s)) 9)) (id:=0) (l:=splitL c s) (e:=9) (cap:=some (cntC c s+1)) (by rw [Heap.get_set,if_pos rfl]) 1
   rw [splitL_len] at this
   exact this
end Go.Sim

/-
Texts: the plain law: a line of a text, by the words that are taken one after the other.
-/
namespace Go.Sim
open Go Go.Proofs
abbrev Wd:Type:=List Nat
def sLine:Wd:=[108,105,110,101]
def sPiece:Wd:=[112,105,101,99,101]
def sSwitch:Wd:=[115,119,105,116,99,104]
def sStructure:Wd:=[115,116,114,117,99,116,117,114,101]
def sUp:Wd:=[117,112]
def sDown:Wd:=[100,111,119,110]
def sFirst:Wd:=[102,105,114,115,116]
def sLast:Wd:=[108,97,115,116]
/-! ### What a line adds -/
def Net.addLine (n:Net) (s:Wd):Net:={ n with lines:=n.lines++[⟨s,[]⟩] }
def addPc (p:Pc):List Ln→List Ln
 | []=>[]
 | [l]=>[⟨l.name,l.ps++[p]⟩]
 | l::r=>l::addPc p r
def Net.addPiece (n:Net) (p:Pc):Net:={ n with lines:=addPc p n.lines }
def Net.addSwitch (n:Net) (s:Sw):Net:={ n with sws:=n.sws++[s] }
def Net.addStruct (n:Net) (s:Stc):Net:={ n with sts:=n.sts++[s] }
theorem addPc_snoc (p:Pc) (l:Ln):∀ ls:List Ln,addPc p (ls++[l])=ls++[⟨l.name,l.ps++[p]⟩]
 | []=>rfl
 | a::r=>by
   have ih:=addPc_snoc p l r
   cases hr:r++[l] with
   | nil=>simp at hr
   | cons b s =>
     show addPc p (a::(r++[l]))=_
     rw [hr]
     show a::addPc p (b::s)=_
     rw [← hr,ih];rfl
theorem addPc_length (p:Pc):∀ ls:List Ln,(addPc p ls).length=ls.length
 | []=>rfl
 | [_]=>rfl
 | a::b::r=>by
   show (a::addPc p (b::r)).length=_
   rw [List.length_cons,addPc_length p (b::r)];rfl
def lineF (n:Net) (w:List Wd):Option (Net × Int):=match w with
 | [h,a]=>if h=sLine∧a ≠ [] then some (n.addLine a,0) else none
 | [h,a,b,c]=>if h=sPiece∧(intF a).2=true∧(intF b).2=true∧(c=sUp∨c=sDown)∧n.lines ≠ [] then some (n.addPiece ⟨(intF a).1,(intF b).1,decide (c=sDown)⟩,0) else none
 | [h,a,b,c,d,e] =>
   if h=sSwitch∧a ≠ []∧b ≠ []∧(intF c).2=true∧d ≠ []∧(e=sFirst∨e=sLast) then some (n.addSwitch ⟨a,b,(intF c).1,d,decide (e=sLast)⟩,1)
   else if h=sStructure∧a ≠ []∧b ≠ []∧c ≠ []∧(intF d).2=true∧(intF e).2=true then some (n.addStruct ⟨a,b,c,(intF d).1,(intF e).1⟩,2)
   else none
 | _=>none
/-! ### Words that are taken -/
structure Tk where
 ws:List Wd
 wrong:Bool
def Tk.word (t:Tk):Wd × Tk:=match t.ws with
 | []=>([],⟨[],true⟩)
 | w::r=>if w=[] then ([],⟨[],true⟩) else (w,⟨r,t.wrong⟩)
def Tk.num (t:Tk):Int × Tk:=((intP t.word.1).1,⟨t.word.2.ws,t.word.2.wrong || !(intP t.word.1).2⟩)
def Tk.one (a b:Wd) (t:Tk):Bool × Tk:=(beqL t.word.1 b,⟨t.word.2.ws,t.word.2.wrong || (!beqL t.word.1 a && !beqL t.word.1 b)⟩)
def kindW (h:Wd):Option Nat:=if h=sLine then some 0 else if h=sPiece then some 1 else if h=sSwitch then some 2 else if h=sStructure then some 3 else none
def readT (n:Net) (t:Tk):Nat→Net × Tk
 | 0=>(n.addLine t.word.1,t.word.2)
 | 1 =>
   let a:=t.num
   let b:=a.2.num
   let c:=b.2.one sUp sDown
   if n.lines=[] then (n,⟨c.2.ws,true⟩) else (n.addPiece ⟨a.1,b.1,c.1⟩,c.2)
 | 2 =>
   let a:=t.word
   let b:=a.2.word
   let c:=b.2.num
   let d:=c.2.word
   let e:=d.2.one sFirst sLast
   (n.addSwitch ⟨a.1,b.1,c.1,d.1,e.1⟩,e.2)
 | _ =>
   let a:=t.word
   let b:=a.2.word
   let c:=b.2.word
   let d:=c.2.num
   let e:=d.2.num
   (n.addStruct ⟨a.1,b.1,c.1,d.1,e.1⟩,e.2)
def kindOf (k:Nat):Int:=if k=2 then 1 else if k=3 then 2 else 0
def finT (x:Net × Tk) (k:Int):Option (Net × Int):=if x.2.wrong=true∨x.2.ws ≠ [] then none else some (x.1,k)
def lineT (n:Net) (w:List Wd):Option (Net × Int):=match kindW (Tk.word ⟨w,false⟩).1 with
 | none=>none
 | some k=>finT (readT n (Tk.word ⟨w,false⟩).2 k) (kindOf k)
theorem beqL_dec (a b:Wd):beqL a b=decide (a=b):=by
 rw [beqL_eq,Bool.eq_iff_iff]
 simp
theorem Tk.word_ok {w:Wd} (h:w ≠ []) (r:List Wd) (b:Bool):Tk.word ⟨w::r,b⟩=(w,⟨r,b⟩):=by
 unfold Tk.word;simp [h]
theorem intF_ne {s:Wd} (h:(intF s).2=true):s ≠ []:=fun e=>by rw [e] at h;cases h
theorem Tk.word_wrong {t:Tk} (h:t.wrong=true):t.word.2.wrong=true:=by
 obtain ⟨ws,b⟩:=t
 simp only at h;subst h
 unfold Tk.word
 cases ws with
 | nil=>rfl
 | cons w r =>
   simp only
   split<;>rfl
theorem Tk.num_wrong {t:Tk} (h:t.wrong=true):t.num.2.wrong=true:=by
 show (t.word.2.wrong || _)=true
 rw [Tk.word_wrong h];rfl
theorem Tk.one_wrong {t:Tk} {a b:Wd} (h:t.wrong=true):(t.one a b).2.wrong=true:=by
 show (t.word.2.wrong || _)=true
 rw [Tk.word_wrong h];rfl
theorem Tk.word_right {t:Tk} (h:t.word.2.wrong=false):∃ w r,t.ws=w::r∧w ≠ []∧t.wrong=false∧t.word=(w,⟨r,false⟩):=by
 obtain ⟨ws,b⟩:=t
 unfold Tk.word at h ⊢
 cases ws with
 | nil=>cases h
 | cons w r =>
   by_cases hw:w=[]
   · simp only [hw,if_true] at h;cases h
   · simp only [hw,if_false] at h ⊢
     subst h
     exact ⟨w,r,rfl,hw,rfl,rfl⟩
theorem Tk.num_right {t:Tk} (h:t.num.2.wrong=false):∃ w r,t.ws=w::r∧(intF w).2=true∧t.wrong=false∧t.num=((intF w).1,⟨r,false⟩):=by
 have h':(t.word.2.wrong || !(intP t.word.1).2)=false:=h
 rw [Bool.or_eq_false_iff,intP_snd] at h'
 obtain ⟨w,r,h1,h2,h3,h4⟩:=Tk.word_right h'.1
 have h5:(intF w).2=true:=by
  have:=h'.2
  rw [h4] at this
  simpa using this
 refine ⟨w,r,h1,h5,h3, ?_⟩
 unfold Tk.num
 rw [h4]
 simp [intP_ok h5,h5]
theorem Tk.one_right {t:Tk} {a b:Wd} (h:(t.one a b).2.wrong=false):∃ w r,t.ws=w::r∧w ≠ []∧(w=a∨w=b)∧t.wrong=false∧t.one a b=(decide (w=b),⟨r,false⟩):=by
 have h':(t.word.2.wrong || (!beqL t.word.1 a && !beqL t.word.1 b))=false:=h
 rw [Bool.or_eq_false_iff] at h'
 obtain ⟨w,r,h1,h2,h3,h4⟩:=Tk.word_right h'.1
 have h5:=h'.2
 rw [h4] at h5
 simp only [beqL_dec] at h5
 have h6:w=a∨w=b:=by
  by_cases h1:w=a
  · exact .inl h1
  · by_cases h2:w=b
    · exact .inr h2
    · simp [h1,h2] at h5
 refine ⟨w,r,h1,h2,h6,h3, ?_⟩
 unfold Tk.one
 rw [h4]
 simp only [beqL_dec]
 rcases h6 with h6 | h6<;>simp [h6]
theorem finT_iff {x:Net × Tk} {k:Int} {y:Net × Int}:finT x k=some y ↔ x.2.wrong=false∧x.2.ws=[]∧(x.1,k)=y:=by
 unfold finT
 cases h:x.2.wrong with
 | true=>simp
 | false =>
   cases hw:x.2.ws with
   | nil=>simp
   | cons a b=>simp
theorem lineT_iff (n:Net) (w:List Wd) (y:Net × Int):lineT n w=some y ↔ lineF n w=some y:=by
 constructor
 · intro h
   unfold lineT at h
   split at h
   · cases h
   rename_i k hk
   obtain ⟨h1,h2,rfl⟩:=finT_iff.1 h
   clear h
   -- the head
   have hh:(Tk.word ⟨w,false⟩).2.wrong=false:=by
    cases hq:(Tk.word ⟨w,false⟩).2.wrong with
    | false=>rfl
    | true =>
      exfalso
      have:(readT n (Tk.word ⟨w,false⟩).2 k).2.wrong=true:=by
       unfold readT
       split
       · exact Tk.word_wrong hq
       · simp only
         split
         · rfl
         · exact Tk.one_wrong (Tk.num_wrong (Tk.num_wrong hq))
       · exact Tk.one_wrong (Tk.word_wrong (Tk.num_wrong (Tk.word_wrong (Tk.word_wrong hq))))
       · exact Tk.num_wrong (Tk.num_wrong (Tk.word_wrong (Tk.word_wrong (Tk.word_wrong hq))))
      rw [this] at h1;cases h1
   obtain ⟨hd,r,e1,e2,_,e3⟩:=Tk.word_right hh
   simp only at e1
   rw [e3] at hk h1 h2
   rw [e3]
   simp only at hk h1 h2 ⊢
   subst e1
   unfold kindW at hk
   split at hk
   · rename_i hl
     cases hk
     have h1:(Tk.word ⟨r,false⟩).2.wrong=false:=h1
     obtain ⟨a,r2,f1,f2,_,f3⟩:=Tk.word_right h1
     simp only at f1
     subst f1
     have h2:(Tk.word ⟨a::r2,false⟩).2.ws=[]:=h2
     rw [f3] at h2
     simp only at h2
     subst h2
     show lineF n [hd,a]=some (n.addLine (Tk.word ⟨[a],false⟩).1,0)
     rw [f3]
     unfold lineF
     simp [hl,f2]
   · split at hk
     · rename_i hl
       cases hk
       have hz:n.lines ≠ []:=fun e=>by
        have:(readT n ⟨r,false⟩ 1).2.wrong=true:=by unfold readT;simp [e]
        rw [this] at h1;cases h1
       have er:readT n ⟨r,false⟩ 1=(n.addPiece ⟨(Tk.num ⟨r,false⟩).1,(Tk.num ⟨r,false⟩).2.num.1,((Tk.num ⟨r,false⟩).2.num.2.one sUp sDown).1⟩,((Tk.num ⟨r,false⟩).2.num.2.one sUp sDown).2):=by unfold readT;simp [hz]
       rw [er] at h1 h2 ⊢
       simp only at h1 h2 ⊢
       obtain ⟨c,r3,g1,g2,g3,g4,g5⟩:=Tk.one_right h1
       obtain ⟨b,r2,k1,k2,k3,k4⟩:=Tk.num_right g4
       obtain ⟨a,r1,m1,m2,_,m4⟩:=Tk.num_right k3
       simp only at m1
       subst m1
       rw [m4] at k1 k4
       simp only at k1
       subst k1
       rw [m4] at g1 g5 h2 ⊢
       rw [k4] at g1 g5 h2 ⊢
       simp only at g1
       subst g1
       rw [g5] at h2 ⊢
       simp only at h2
       subst h2
       unfold lineF
       simp [hl,m2,k2,g3,hz,kindOf]
     · split at hk
       · rename_i _ _ hl
         cases hk
         have er:readT n ⟨r,false⟩ 2=(n.addSwitch ⟨(Tk.word ⟨r,false⟩).1,(Tk.word ⟨r,false⟩).2.word.1,(Tk.word ⟨r,false⟩).2.word.2.num.1,(Tk.word ⟨r,false⟩).2.word.2.num.2.word.1,((Tk.word ⟨r,false⟩).2.word.2.num.2.word.2.one sFirst sLast).1⟩,((Tk.word ⟨r,false⟩).2.word.2.num.2.word.2.one sFirst sLast).2):=rfl
         rw [er] at h1 h2 ⊢
         simp only at h1 h2 ⊢
         obtain ⟨e,r5,a1,a2,a3,a4,a5⟩:=Tk.one_right h1
         obtain ⟨d,r4,b1,b2,b4,b5⟩:=Tk.word_right a4
         obtain ⟨c,r3,c1,c2,c4,c5⟩:=Tk.num_right b4
         obtain ⟨b,r2,d1,d2,d4,d5⟩:=Tk.word_right c4
         obtain ⟨a,r1,f1,f2,_,f5⟩:=Tk.word_right d4
         simp only at f1
         subst f1
         rw [f5] at d1 d5
         simp only at d1;subst d1
         rw [f5,d5] at c1 c5
         simp only at c1;subst c1
         rw [f5,d5,c5] at b1 b5
         simp only at b1;subst b1
         rw [f5,d5,c5,b5] at a1 a5
         simp only at a1;subst a1
         rw [f5,d5,c5,b5,a5] at h2
         simp only at h2;subst h2
         rw [f5,d5,c5,b5,a5]
         unfold lineF
         have n1:hd ≠ sStructure:=by rw [hl];decide
         simp [hl,f2,d2,c2,b2,a3,kindOf]
       · split at hk
         · rename_i n1 n2 n3 hl
           cases hk
           have er:readT n ⟨r,false⟩ 3=(n.addStruct ⟨(Tk.word ⟨r,false⟩).1,(Tk.word ⟨r,false⟩).2.word.1,(Tk.word ⟨r,false⟩).2.word.2.word.1,(Tk.word ⟨r,false⟩).2.word.2.word.2.num.1,(Tk.word ⟨r,false⟩).2.word.2.word.2.num.2.num.1⟩,(Tk.word ⟨r,false⟩).2.word.2.word.2.num.2.num.2):=rfl
           rw [er] at h1 h2 ⊢
           simp only at h1 h2 ⊢
           obtain ⟨e,r5,a1,a2,a4,a5⟩:=Tk.num_right h1
           obtain ⟨d,r4,b1,b2,b4,b5⟩:=Tk.num_right a4
           obtain ⟨c,r3,c1,c2,c4,c5⟩:=Tk.word_right b4
           obtain ⟨b,r2,d1,d2,d4,d5⟩:=Tk.word_right c4
           obtain ⟨a,r1,f1,f2,_,f5⟩:=Tk.word_right d4
           simp only at f1
           subst f1
           rw [f5] at d1 d5
           simp only at d1;subst d1
           rw [f5,d5] at c1 c5
           simp only at c1;subst c1
           rw [f5,d5,c5] at b1 b5
           simp only at b1;subst b1
           rw [f5,d5,c5,b5] at a1 a5
           simp only at a1;subst a1
           rw [f5,d5,c5,b5,a5] at h2
           simp only at h2;subst h2
           rw [f5,d5,c5,b5,a5]
           unfold lineF
           have hd':¬ (sStructure=sSwitch):=by decide
           simp [hd',hl,f2,d2,c2,b2,a2,kindOf]
         · cases hk
 · intro h
   unfold lineF at h
   split at h
   · rename_i hd a
     split at h
     · rename_i hc
       cases h
       obtain ⟨rfl,h2⟩:=hc
       unfold lineT
       rw [Tk.word_ok (by decide)]
       simp only [show kindW sLine=some 0 from rfl]
       refine finT_iff.2 ?_
       unfold readT
       rw [Tk.word_ok h2]
       exact ⟨rfl,rfl,rfl⟩
     · cases h
   · rename_i hd a b c
     split at h
     · rename_i hc
       cases h
       obtain ⟨rfl,h2,h3,h4,h5⟩:=hc
       unfold lineT
       rw [Tk.word_ok (by decide)]
       simp only [show kindW sPiece=some 1 from rfl]
       refine finT_iff.2 ?_
       have hc0:c ≠ []:=by rcases h4 with rfl | rfl<;>decide
       unfold readT Tk.num Tk.one
       simp only [Tk.word_ok (intF_ne h2),Tk.word_ok (intF_ne h3),Tk.word_ok hc0,intP_ok h2,intP_ok h3,h2,h3,h5,if_false,beqL_dec]
       rcases h4 with rfl | rfl<;>simp [kindOf]
     · cases h
   · rename_i hd a b c d e
     split at h
     · rename_i hc
       cases h
       obtain ⟨rfl,h2,h3,h4,h5,h6⟩:=hc
       unfold lineT
       rw [Tk.word_ok (by decide)]
       simp only [show kindW sSwitch=some 2 from rfl]
       refine finT_iff.2 ?_
       have he0:e ≠ []:=by rcases h6 with rfl | rfl<;>decide
       unfold readT Tk.num Tk.one
       simp only [Tk.word_ok h2,Tk.word_ok h3,Tk.word_ok (intF_ne h4),Tk.word_ok h5,Tk.word_ok he0,intP_ok h4,h4,beqL_dec]
       rcases h6 with rfl | rfl<;>simp [kindOf]
     · split at h
       · rename_i _ hc
         cases h
         obtain ⟨rfl,h2,h3,h4,h5,h6⟩:=hc
         unfold lineT
         rw [Tk.word_ok (by decide)]
         simp only [show kindW sStructure=some 3 from rfl]
         refine finT_iff.2 ?_
         unfold readT Tk.num
         simp only [Tk.word_ok h2,Tk.word_ok h3,Tk.word_ok h4,Tk.word_ok (intF_ne h5),Tk.word_ok (intF_ne h6),intP_ok h5,intP_ok h6,h5,h6]
         simp [kindOf]
       · cases h
   · cases h
theorem lineT_eq (n:Net) (w:List Wd):lineT n w=lineF n w:=by
 cases h:lineF n w with
 | some y=>exact (lineT_iff n w y).2 h
 | none =>
   cases h':lineT n w with
   | none=>rfl
   | some y=>rw [(lineT_iff n w y).1 h'] at h;cases h
/-! ### The reference's way of reading a line -/
def wAt (w:List Wd) (i:Nat):Wd:=w.getD i []
def filledB (w:List Wd):Bool:=w.all fun x=>!beqL x []
def parsedF (n:Net) (w:List Wd):Net × Int × Bool :=
 if filledB w=false then (n,0,false)
 else if wAt w 0=sLine∧w.length=2 then (n.addLine (wAt w 1),0,true)
 else if (wAt w 0=sPiece∧w.length=4)∧n.lines ≠ [] then (n.addPiece ⟨(intF (wAt w 1)).1,(intF (wAt w 2)).1,decide (wAt w 3=sDown)⟩,0,((intF (wAt w 1)).2 && (intF (wAt w 2)).2) && (decide (wAt w 3=sUp) || decide (wAt w 3=sDown)))
 else if wAt w 0=sSwitch∧w.length=6 then (n.addSwitch ⟨wAt w 1,wAt w 2,(intF (wAt w 3)).1,wAt w 4,decide (wAt w 5=sLast)⟩,1,(intF (wAt w 3)).2 && (decide (wAt w 5=sFirst) || decide (wAt w 5=sLast)))
 else if wAt w 0=sStructure∧w.length=6 then (n.addStruct ⟨wAt w 1,wAt w 2,wAt w 3,(intF (wAt w 4)).1,(intF (wAt w 5)).1⟩,2,(intF (wAt w 4)).2 && (intF (wAt w 5)).2)
 else (n,0,false)
theorem filledB_iff {w:List Wd}:filledB w=true ↔ ∀ x ∈ w,x ≠ []:=by
 unfold filledB
 simp only [List.all_eq_true,beqL_dec,Bool.not_eq_true',decide_eq_false_iff_not,ne_eq]
theorem parsedF_line (n:Net) (w:List Wd):lineF n w=if (parsedF n w).2.2=true then some ((parsedF n w).1,(parsedF n w).2.1) else none:=by
 cases hf:filledB w with
 | false =>
   have e:parsedF n w=(n,0,false):=by unfold parsedF;rw [if_pos hf]
   rw [e]
   simp only [Bool.false_eq_true,if_false]
   cases h:lineF n w with
   | none=>rfl
   | some y =>
     exfalso
     have:filledB w=true:=by
      rw [filledB_iff]
      unfold lineF at h
      split at h
      · split at h
        · rename_i hc;obtain ⟨rfl,h2⟩:=hc
          intro x hx
          simp only [List.mem_cons,List.not_mem_nil,or_false] at hx
          rcases hx with rfl | rfl
          · decide
          · exact h2
        · cases h
      · split at h
        · rename_i hc;obtain ⟨rfl,h2,h3,h4,_⟩:=hc
          intro x hx
          simp only [List.mem_cons,List.not_mem_nil,or_false] at hx
          rcases hx with rfl | rfl | rfl | rfl
          · decide
          · exact intF_ne h2
          · exact intF_ne h3
          · rcases h4 with rfl | rfl<;>decide
        · cases h
      · split at h
        · rename_i hc;obtain ⟨rfl,h2,h3,h4,h5,h6⟩:=hc
          intro x hx
          simp only [List.mem_cons,List.not_mem_nil,or_false] at hx
          rcases hx with rfl | rfl | rfl | rfl | rfl | rfl
          · decide
          · exact h2
          · exact h3
          · exact intF_ne h4
          · exact h5
          · rcases h6 with rfl | rfl<;>decide
        · split at h
          · rename_i hc;obtain ⟨rfl,h2,h3,h4,h5,h6⟩:=hc
            intro x hx
            simp only [List.mem_cons,List.not_mem_nil,or_false] at hx
            rcases hx with rfl | rfl | rfl | rfl | rfl | rfl
            · decide
            · exact h2
            · exact h3
            · exact h4
            · exact intF_ne h5
            · exact intF_ne h6
          · cases h
      · cases h
     rw [hf] at this;cases this
 | true =>
   have hne:=filledB_iff.1 hf
   have e0:¬ (filledB w=false):=by rw [hf];decide
   unfold parsedF
   rw [if_neg e0]
   clear e0
   match w,hne with
   | [],_=>simp [lineF,wAt,sLine,sPiece,sSwitch,sStructure]
   | [a],_=>simp [lineF,wAt]
   | [a,b],hne =>
     have h2:b ≠ []:=hne b (by simp)
     by_cases h:a=sLine<;>simp [lineF,wAt,h,h2]
   | [a,b,c],_=>simp [lineF,wAt]
   | [a,b,c,d],_ =>
     by_cases h:a=sPiece
     · have h':a ≠ sLine:=by rw [h];decide
       by_cases hl:n.lines=[]
       · simp [lineF,wAt,h,hl]
       · by_cases i1:(intF b).2=true<;>by_cases i2:(intF c).2=true<;>by_cases i3:d=sUp<;>by_cases i4:d=sDown<;>simp [lineF,wAt,h,hl,i1,i2,i3,i4]
     · simp [lineF,wAt,h]
   | [a,b,c,d,e],_=>simp [lineF,wAt]
   | [a,b,c,d,e,f],hne =>
     have h2:b ≠ []:=hne b (by simp)
     have h3:c ≠ []:=hne c (by simp)
     have h4:d ≠ []:=hne d (by simp)
     have h5:e ≠ []:=hne e (by simp)
     by_cases h:a=sSwitch
     · have h':¬ (sSwitch=sStructure):=by decide
       by_cases i1:(intF d).2=true<;>by_cases i3:f=sFirst<;>by_cases i4:f=sLast<;>simp [lineF,wAt,h,h',h2,h3,h4,h5,i1,i3,i4]
     · by_cases h6:a=sStructure
       · have h':¬ (sStructure=sSwitch):=by decide
         by_cases i1:(intF e).2=true<;>by_cases i3:(intF f).2=true<;>simp [lineF,wAt,h6,h',h2,h3,h4,h5,i1,i3]
       · simp [lineF,wAt,h,h6]
   | a::b::c::d::e::f::g::r,_=>simp [lineF,wAt]
/-! ### A text -/
def zNet:Net:=⟨[],[],[]⟩
end Go.Sim

/-
Texts: the plain law: integers are read as they were written, and written as they were read.
-/
namespace Go.Sim
open Go Go.Proofs
theorem numF_snoc:∀ (a:Wd) (c:Nat) (n:Int),numF (a++[c]) n=10 * numF a n+((c:Int) - 48)
 | [],_,_=>rfl
 | _::r,c,n=>numF_snoc r c _
def itoaN (f n:Nat):Wd:=(digs f n).reverse
theorem itoaN_succ (f n:Nat):itoaN (f+1) n=if n < 10 then [48+n] else itoaN f (n / 10)++[48+n % 10]:=by
 unfold itoaN
 show (cond (Nat.blt n 10) [48+n] ((48+n % 10)::digs f (n / 10))).reverse=_
 by_cases h:n < 10
 · have:Nat.blt n 10=true:=by rw [Nat.blt_eq];exact h
   rw [this,if_pos h];rfl
 · have:Nat.blt n 10=false:=by
    rw [Bool.eq_false_iff];intro h';rw [Nat.blt_eq] at h';exact h h'
   rw [this,if_neg h]
   simp
theorem itoaL_nat (n:Nat):itoaL (n:Int)=itoaN 20 n:=rfl
theorem digB_nat {d:Nat} (h:d < 10):digB ((48+d:Nat):Int)=true:=by
 rw [digB_iff];omega
theorem digsB_snoc (a:Wd) (c:Nat):digsB (a++[c])=(digsB a && digB (c:Int)):=by
 unfold digsB;simp
structure IsNum (w:Wd) (n:Nat):Prop where
 num:numF w 0=(n:Int)
 dig:digsB w=true
 ne:w ≠ []
 lead:n ≠ 0→w[0]? ≠ some 48
 one:n < 10→w.length=1
 len:∀ k,1≤k→n < 10 ^ k→w.length≤k
theorem itoaN_ok:∀ (f n:Nat),n < 10 ^ (f+1)→IsNum (itoaN (f+1) n) n
 | f,n,h=>by
   rw [itoaN_succ]
   by_cases h1:n < 10
   · rw [if_pos h1]
     refine ⟨?_, ?_,by simp,fun h0 => ?_,fun _=>rfl,fun k hk _=>by simpa using hk⟩
     · show 10 * 0+(((48+n:Nat):Int) - 48)=n
       omega
     · have:=digB_nat h1
       unfold digsB
       simp only [List.all_cons,List.all_nil,Bool.and_true]
       exact this
     · simp only [List.getElem?_cons_zero,ne_eq,Option.some.injEq]
       omega
   · rw [if_neg h1]
     obtain ⟨f,rfl⟩:∃ f',f=f'+1:=⟨f - 1,by
      cases f with
      | zero=>simp at h;omega
      | succ f=>simp⟩
     have ih:=itoaN_ok f (n / 10) (by rw [Nat.pow_succ] at h;omega)
     have hd:n % 10 < 10:=Nat.mod_lt _ (by decide)
     refine ⟨?_, ?_,by simp,fun _ => ?_,fun h=>absurd h h1,fun k hk hlt => ?_⟩
     · rw [numF_snoc,ih.num];omega
     · rw [digsB_snoc,ih.dig,digB_nat hd];rfl
     · have:=ih.lead (by omega)
       cases hi:itoaN (f+1) (n / 10) with
       | nil=>exact absurd hi ih.ne
       | cons a r=>rw [hi] at this;simpa using this
     · rw [List.length_append,List.length_singleton]
       obtain ⟨k,rfl⟩:∃ k',k=k'+1:=⟨k - 1,by omega⟩
       rcases Nat.eq_zero_or_pos k with rfl | hk0
       · simp at hlt;omega
       · have:=ih.len k hk0 (by rw [Nat.pow_succ] at hlt;omega)
         omega
end Go.Sim

/-
Texts: integers, by the program and by the reference; parts of strings, by the reference.
-/
-- INJ strRows_iff Int.ofNat_inj
namespace Go.Sim
open Go Go.Proofs
set_option maxRecDepth 100000
set_option maxHeartbeats 8000000
/-! ### Integers -/
theorem wrap_i32 {x:Int} (h1:0≤x) (h2:x≤2147483647):wrapq .i32 x=x:=by
 have:inK .i32 x=true:=by
  cases x with
  | ofNat n=>simp only [inK,kmax,Nat.ble_eq];simp at h2;omega
  | negSucc n=>omega
 unfold wrapq
 rw [this];rfl
theorem wrap_u8 {x:Int} (h1:0≤x) (h2:x≤255):wrapq .u8 x=x:=by
 have:inK .u8 x=true:=by
  cases x with
  | ofNat n=>simp only [inK,kmax,Nat.ble_eq];simp at h2;omega
  | negSucc n=>omega
 unfold wrapq
 rw [this];rfl
theorem conv_i32 {n:Int} (h0:0≤n) (h1:n≤2147483647):aconv NC.P 21 3 (.int .i32 n)=some (.int .i64 n):=by
 have e:aconv NC.P 21 3 (.int .i32 n)=some (.int .i64 (IntKind.wrap .i64 n)):=by kernel_rfl
 rw [e,wrap_in h0 (by omega)]
theorem digsB_take {s:List Nat} {k c:Nat} (h:s[k]? = some c):digsB (s.take (k+1))=(digsB (s.take k) && digB (c:Int)):=by
 rw [List.take_add_one,h]
 exact digsB_snoc _ _
theorem numF_take {s:List Nat} {k c:Nat} (h:s[k]? = some c):numF (s.take (k+1)) 0=10 * numF (s.take k) 0+((c:Int) - 48):=by
 rw [List.take_add_one,h]
 exact numF_snoc _ _ _
theorem digsB_not {s:List Nat} {k c:Nat} (h:s[k]? = some c) (hd:digB (c:Int)=false):digsB s=false:=by
 unfold digsB
 rw [List.all_eq_false]
 exact ⟨c,List.mem_of_getElem? h,by simp [hd]⟩
theorem num_small {s:List Nat} {k:Nat} (hd:digsB (s.take k)=true) (hk:k≤9):0≤numF (s.take k) 0∧numF (s.take k) 0 < 1000000000:=by
 have:=numF_bound (s.take k) 0 0 hd (Int.le_refl _) (by simp)
 refine ⟨this.1,Int.lt_of_lt_of_le this.2 ?_⟩
 have hl:(s.take k).length≤9:=by rw [List.length_take];omega
 have:(10:Int) ^ (0+(s.take k).length)≤10 ^ 9:=by
  have h1:(10:Nat) ^ (0+(s.take k).length)≤10 ^ 9:=Nat.pow_le_pow_right (by decide) (by omega)
  exact_mod_cast h1
 omega
noncomputable def PPF258:FuncId→Option (List AV→Option AV):=fun _=>none
theorem primsF258:PrimsOk NC PPF258:=primsOk_none
theorem c258 (s:List Nat) (hp:s.length≤maxRows):∀ lo H,CallOk NC lo 258 [.str s] H (.tup [i64 (intP s).1,.bool (intP s).2]) H:=by
 refine contract saneNC primsF258 (fn:=Tryz.f258) (by kernel_rfl) Tryz.func258 rfl rfl (by rfl) (by first | rfl | (split<;>first | rfl | (split<;>rfl))) ?_
 rcases Classical.propComplete ((9:Int) < s.length) with q9 | q9
 · have hq:=of_eq_true q9
   have hI:intP s=(0,false):=by
    unfold intP
    rw [if_neg]
    intro h;omega
   rw [hI]
   simp only [go_sem,reduceIte,reduceEqDiff,reduceAdd,reduceMul,reduceSub,reduceLeDiff,reduceLT,Nat.reduceBEq,reduceCtorEq]
   refine W_for (fun k T H M=>k=0∧M=[]∧getT T 0=.str s∧getT T 8=.ptr 0 0∧H.get 0=.sit s k) s.length ?_ ?_ ?_
   · simp only [go_sem,reduceIte,reduceEqDiff,reduceAdd,reduceMul,reduceSub,reduceLeDiff,reduceLT,Nat.reduceBEq,reduceCtorEq]
   · rintro k T H M hk ⟨rfl,rfl,g0,g8,gH⟩
     rcases Classical.propComplete (((adecode s 0).1:Int) < 48) with r1 | r1<;>rcases Classical.propComplete ((57:Int) < (adecode s 0).1) with r2 | r2<;>simp only [go_sem,reduceIte,reduceEqDiff,reduceAdd,reduceMul,reduceSub,reduceLeDiff,reduceLT,Nat.reduceBEq,reduceCtorEq,g0,g8,gH,hk,r1,r2,q9]
   · rintro T H M ⟨h,_⟩;omega
 have hq:s.length≤9:=by
  have:¬ ((9:Int) < s.length):=by rw [q9];exact id
  omega
 simp only [go_sem,reduceIte,reduceEqDiff,reduceAdd,reduceMul,reduceSub,reduceLeDiff,reduceLT,Nat.reduceBEq,reduceCtorEq]
 refine W_for (fun k T H M=>M=[]∧getT T 0=.str s∧getT T 8=.ptr 0 0∧H.get 0=.sit s k∧getT T 4=.int .i64 (numF (s.take k) 0)∧digsB (s.take k)=true) s.length ?_ ?_ ?_
 · simp only [go_sem,reduceIte,reduceEqDiff,reduceAdd,reduceMul,reduceSub,reduceLeDiff,reduceLT,Nat.reduceBEq,reduceCtorEq];exact ⟨rfl,rfl⟩
 · rintro k T H M hk ⟨rfl,g0,g8,gH,g4,hd⟩
   obtain ⟨c,hc⟩:∃ c,s[k]? = some c:=⟨s[k],by simp⟩
   have hdt:=digsB_take hc
   have hnt:=numF_take hc
   have hns:=num_small hd (by omega)
   rw [hd] at hdt
   rw [hnt,hdt]
   generalize numF (s.take k) 0=N at g4 hns ⊢
   have no:digB (c:Int)=false→intP s=(0,false):=fun h=>by
    unfold intP
    rw [if_neg]
    intro h';rw [digsB_not hc h] at h';cases h'.1
   by_cases hasc:c < 128
   · have hde:=dec_ascii hc hasc
     rcases Classical.propComplete ((c:Int) < 48) with r1 | r1
     · rw [no (by unfold digB;simp [r1])]
       simp only [go_sem,reduceIte,reduceEqDiff,reduceAdd,reduceMul,reduceSub,reduceLeDiff,reduceLT,Nat.reduceBEq,reduceCtorEq,g0,g8,gH,hk,hde,r1]
     rcases Classical.propComplete ((57:Int) < (c:Int)) with r2 | r2
     · rw [no (by unfold digB;simp [r2])]
       simp only [go_sem,reduceIte,reduceEqDiff,reduceAdd,reduceMul,reduceSub,reduceLeDiff,reduceLT,Nat.reduceBEq,reduceCtorEq,g0,g8,gH,hk,hde,r1,r2]
     have hdg:digB (c:Int)=true:=by unfold digB;simp [r1,r2]
     have hb:=(digB_iff _).1 hdg
     have w1:wrapq .i64 (Int.mul 10 N)=10 * N:=wrapq_i64 (by show _≤10 * N;omega) (by show 10 * N≤_;omega)
     have w2:wrapq .i32 (Int.sub (c:Int) 48)=(c:Int) - 48:=wrap_i32 (by show _≤(c:Int) - 48;omega) (by show (c:Int) - 48≤_;omega)
     have w3:=conv_i32 (n:=(c:Int) - 48) (by omega) (by omega)
     have w4:wrapq .i64 (Int.add (10 * N) ((c:Int) - 48))=10 * N+((c:Int) - 48):=wrapq_i64 (by show _≤10 * N+((c:Int) - 48);omega) (by show 10 * N+((c:Int) - 48)≤_;omega)
     simp only [go_sem,reduceIte,reduceEqDiff,reduceAdd,reduceMul,reduceSub,reduceLeDiff,reduceLT,Nat.reduceBEq,reduceCtorEq,g0,g4,g8,gH,hk,hde,r1,r2,q9,w1,w2,w3,w4,hdg]
   · have hde:=dec_high hc hasc
     have r1:(((adecode s k).1:Int) < 48)=False:=by simp only [eq_iff_iff,iff_false];omega
     have r2:((57:Int) < ((adecode s k).1:Int))=True:=by simp only [eq_iff_iff,iff_true];omega
     rw [no (digB_high (by omega))]
     simp only [go_sem,reduceIte,reduceEqDiff,reduceAdd,reduceMul,reduceSub,reduceLeDiff,reduceLT,Nat.reduceBEq,reduceCtorEq,g0,g8,gH,hk,r1,r2]
 · rintro T H M ⟨rfl,g0,g8,gH,g4,hd⟩
   rw [List.take_length] at g4 hd
   have hI:intP s=(numF s 0,decide (s ≠ []) && (decide (s.length=1) || decide (s[0]? ≠ some 48))):=by unfold intP;rw [if_pos ⟨hd,hq⟩]
   rw [hI]
   clear hI hd q9
   generalize numF s 0=N at g4 ⊢
   by_cases hs0:s=[]
   · subst hs0
     have h1:beqL ([]:List Nat) []=true:=rfl
     simp only [go_sem,reduceIte,reduceEqDiff,reduceAdd,reduceMul,reduceSub,reduceLeDiff,reduceLT,Nat.reduceBEq,reduceCtorEq,g0,g8,gH,g4,Nat.lt_irrefl,h1]
     simp
   · have h1:beqL s []=false:=by rw [beqL_eq];simpa using hs0
     have hp':0 < s.length:=List.length_pos_iff.2 hs0
     obtain ⟨c,hc⟩:∃ c,s[0]? = some c:=⟨s[0],by simp⟩
     rcases Classical.propComplete ((s.length:Int)=1) with q1 | q1
     · have e1:s.length=1:=by have:=of_eq_true q1;omega
       simp only [go_sem,reduceIte,reduceEqDiff,reduceAdd,reduceMul,reduceSub,reduceLeDiff,reduceLT,Nat.reduceBEq,reduceCtorEq,g0,g8,gH,g4,Nat.lt_irrefl,h1,q1]
       simp [hs0,e1]
     · have e1:¬ (s.length=1):=by intro h;rw [h] at q1;simp at q1
       rcases Classical.propComplete ((c:Int)=48) with q2 | q2
       · have hc48:c=48:=by have:=of_eq_true q2;omega
         simp only [go_sem,reduceIte,reduceEqDiff,reduceAdd,reduceMul,reduceSub,reduceLeDiff,reduceLT,Nat.reduceBEq,reduceCtorEq,g0,g8,gH,g4,Nat.lt_irrefl,h1,q1,hp',hc,q2]
         simp [hs0,e1,hc48]
       · have hc48:c ≠ 48:=by intro h;rw [h] at q2;simp at q2
         simp only [go_sem,reduceIte,reduceEqDiff,reduceAdd,reduceMul,reduceSub,reduceLeDiff,reduceLT,Nat.reduceBEq,reduceCtorEq,g0,g8,gH,g4,Nat.lt_irrefl,h1,q1,hp',hc,q2]
         simp [hs0,e1,hc48]
noncomputable def p258:List AV→Option AV:=primOf (α:=(List Nat)) (fun x=>[.str x]) (fun x=>x.length≤maxRows) (fun x=>.tup [i64 (intP x).1,.bool (intP x).2])
theorem pok258:∀ args v,p258 args=some v → ∀ lo H,CallOk NC lo 258 args H v H:=by
 intro args v h
 obtain ⟨x,rfl,hp,rfl⟩:=primOf_inv h
 exact c258 x hp
theorem pe258 (s:List Nat) (hp:s.length≤maxRows):p258 [.str s]=some (.tup [.int .i64 (intP s).1,.bool (intP s).2]):=primOf_enc (α:=(List Nat)) (enc:=fun x=>[.str x]) (pre:=fun x=>x.length≤maxRows) (spec:=fun x=>.tup [i64 (intP x).1,.bool (intP x).2]) (by intro x y h;(simp only [List.cons.injEq,AV.agg.injEq,AV.str.injEq,AV.int.injEq,AV.ps.injEq,AV.bool.injEq,Net.cells_iff,Ln.row_iff,Pc.row_iff,Mv.row_iff,lns_iff,pcs_iff,mvs_iff,strRows_iff,Int.ofNat_inj,true_and,and_true] at h;first | simpa only [Prod.ext_iff] using h | simpa only [Prod.ext_iff,and_assoc] using h)) s hp
noncomputable def PPF224:FuncId→Option (List AV→Option AV):=addPrim 190 p190 (fun _=>none)
theorem primsF224:PrimsOk NC PPF224:=primsOk_add (primsOk_none) (by kernel_rfl) (by kernel_rfl) pok190
theorem enF224_190:En PPF224 190 p190:=enter_prim (by rfl) (by kernel_rfl)
attribute [go_sem ↓] enF224_190
theorem c224 (s:List Nat) (hp:s.length≤maxRows):∀ lo H,CallOk NC lo 224 [.str s] H (.tup [i64 (intF s).1,.bool (intF s).2]) H:=by
 refine contract saneNC primsF224 (fn:=Tryz.f224) (by kernel_rfl) Tryz.func224 rfl rfl (by rfl) (by first | rfl | (split<;>first | rfl | (split<;>rfl))) ?_
 have bad:∀ {x:Int × Bool},x=(0,false)→intF s=x→intF s=(0,false):=fun h h'=>h'.trans h
 rcases Classical.propComplete ((s.length:Int)=0) with q0 | q0
 · have h0:s=[]:=List.length_eq_zero_iff.1 (by have:=of_eq_true q0;omega)
   subst h0
   simp only [go_sem,reduceIte,reduceEqDiff,reduceAdd,reduceMul,reduceSub,reduceLeDiff,reduceLT,Nat.reduceBEq,reduceCtorEq]
   rfl
 have hpos:0 < s.length:=by
  rcases Nat.eq_zero_or_pos s.length with h | h
  · rw [h] at q0;simp at q0
  · exact h
 have hne:s ≠ []:=fun h=>by rw [h] at hpos;simp at hpos
 rcases Classical.propComplete ((9:Int) < s.length) with q9 | q9
 · have hI:intF s=(0,false):=by
    unfold intF
    rw [if_neg]
    intro h;have:=of_eq_true q9;omega
   rw [hI]
   simp only [go_sem,reduceIte,reduceEqDiff,reduceAdd,reduceMul,reduceSub,reduceLeDiff,reduceLT,Nat.reduceBEq,reduceCtorEq,q0,q9]
 have hq:s.length≤9:=by
  have:¬ ((9:Int) < s.length):=by rw [q9];exact id
  omega
 obtain ⟨c0,hc0⟩:∃ c,s[0]? = some c:=⟨s[0],by simp⟩
 have main:(s.length=1∨s[0]? ≠ some 48)→W (NC.withPrims PPF224) 0 224 false Tryz.f224.body.get! (argsT [.str s] 0 .leaf) .empty [] (bodyPost (NC.withPrims PPF224) [.tmp 2,.tmp 3] fun v' _=>v'.strip=.tup [i64 (intF s).1,.bool (intF s).2])→True:=fun _ _=>trivial
 clear main bad
 rcases Classical.propComplete ((1:Int) < s.length) with q1 | q1<;>rcases Classical.propComplete ((c0:Int)=48) with q2 | q2
 · have hI:intF s=(0,false):=by
    unfold intF
    rw [if_neg]
    intro h
    have h1:=of_eq_true q1
    have h2:c0=48:=by have:=of_eq_true q2;omega
    rcases h.2.2.2 with h | h
    · omega
    · rw [hc0,h2] at h;exact h rfl
   rw [hI]
   simp only [go_sem,reduceIte,reduceEqDiff,reduceAdd,reduceMul,reduceSub,reduceLeDiff,reduceLT,Nat.reduceBEq,reduceCtorEq,q0,q9,q1,hpos,hc0,q2]
 all_goals
  have hz:s.length=1∨s[0]? ≠ some 48:=by
   rw [hc0]
   first
   | (refine .inr fun h => ?_
      cases h
      simp at q2
      done)
   | (refine .inl ?_
      have:¬ ((1:Int) < s.length):=by rw [q1];exact id
      omega)
  simp only [go_sem,reduceIte,reduceEqDiff,reduceAdd,reduceMul,reduceSub,reduceLeDiff,reduceLT,Nat.reduceBEq,reduceCtorEq,q0,q9,q1,hpos,hc0,q2]
  clear q1 q2
  refine W_for (fun k T H M=>M=[]∧getT T 0=.str s∧getT T 5=i64 k∧getT T 4=.int .i64 (numF (s.take k) 0)∧digsB (s.take k)=true) s.length ?_ ?_ ?_
  · simp only [go_sem,reduceIte,reduceEqDiff,reduceAdd,reduceMul,reduceSub,reduceLeDiff,reduceLT,Nat.reduceBEq,reduceCtorEq];exact ⟨rfl,rfl⟩
  · rintro k T H M hk ⟨rfl,g0,g5,g4,hd⟩
    obtain ⟨c,hc⟩:∃ c,s[k]? = some c:=⟨s[k],by simp⟩
    have hdt:=digsB_take hc
    have hnt:=numF_take hc
    have hns:=num_small hd (by omega)
    have hw:=wrap_succ hk hp
    rw [hd] at hdt
    rw [hnt,hdt]
    generalize numF (s.take k) 0=N at g4 hns ⊢
    have e190:=e190 (c:Int)
    cases hdg:digB (c:Int) with
    | false =>
      have hI:intF s=(0,false):=by
       unfold intF
       rw [if_neg]
       intro h';rw [digsB_not hc hdg] at h';cases h'.2.2.1
      rw [hI]
      rw [hdg] at e190
      simp only [go_sem,reduceIte,reduceEqDiff,reduceAdd,reduceMul,reduceSub,reduceLeDiff,reduceLT,Nat.reduceBEq,reduceCtorEq,g0,g5,g4,hk,hc,e190]
    | true =>
      rw [hdg] at e190
      have hb:=(digB_iff _).1 hdg
      have w1:wrapq .i64 (Int.mul 10 N)=10 * N:=wrapq_i64 (by show _≤10 * N;omega) (by show 10 * N≤_;omega)
      have w2:wrapq .u8 (Int.sub (c:Int) 48)=(c:Int) - 48:=wrap_u8 (by show _≤(c:Int) - 48;omega) (by show (c:Int) - 48≤_;omega)
      have w3:=conv_u8 (n:=(c:Int) - 48) (by omega) (by omega)
      have w4:wrapq .i64 (Int.add (10 * N) ((c:Int) - 48))=10 * N+((c:Int) - 48):=wrapq_i64 (by show _≤10 * N+((c:Int) - 48);omega) (by show 10 * N+((c:Int) - 48)≤_;omega)
      simp only [go_sem,reduceIte,reduceEqDiff,reduceAdd,reduceMul,reduceSub,reduceLeDiff,reduceLT,Nat.reduceBEq,reduceCtorEq,g0,g5,g4,hk,hc,e190,w1,w2,w3,w4,hw]
  · rintro T H M ⟨rfl,g0,g5,g4,hd⟩
    rw [List.take_length] at g4 hd
    have hI:intF s=(numF s 0,true):=by unfold intF;rw [if_pos ⟨hne,hq,hd,hz⟩]
    rw [hI]
    simp only [go_sem,reduceIte,reduceEqDiff,reduceAdd,reduceMul,reduceSub,reduceLeDiff,reduceLT,Nat.reduceBEq,reduceCtorEq,g0,g5,g4,Nat.lt_irrefl]
noncomputable def p224:List AV→Option AV:=primOf (α:=(List Nat)) (fun x=>[.str x]) (fun x=>x.length≤maxRows) (fun x=>.tup [i64 (intF x).1,.bool (intF x).2])
theorem pok224:∀ args v,p224 args=some v → ∀ lo H,CallOk NC lo 224 args H v H:=by
 intro args v h
 obtain ⟨x,rfl,hp,rfl⟩:=primOf_inv h
 exact c224 x hp
theorem pe224 (s:List Nat) (hp:s.length≤maxRows):p224 [.str s]=some (.tup [.int .i64 (intF s).1,.bool (intF s).2]):=primOf_enc (α:=(List Nat)) (enc:=fun x=>[.str x]) (pre:=fun x=>x.length≤maxRows) (spec:=fun x=>.tup [i64 (intF x).1,.bool (intF x).2]) (by intro x y h;(simp only [List.cons.injEq,AV.agg.injEq,AV.str.injEq,AV.int.injEq,AV.ps.injEq,AV.bool.injEq,Net.cells_iff,Ln.row_iff,Pc.row_iff,Mv.row_iff,lns_iff,pcs_iff,mvs_iff,strRows_iff,Int.ofNat_inj,true_and,and_true] at h;first | simpa only [Prod.ext_iff] using h | simpa only [Prod.ext_iff,and_assoc] using h)) s hp
/-! ### Parts of strings -/
noncomputable def p215:List AV→Option AV:=primOf (α:=List Nat × Nat) (fun x=>[.str x.1,.str [x.2],.int .i64 0,.int .i64 (-1)]) (fun x=>x.1.length+1≤maxRows) (fun x=>.ps .unk ((splitL x.2 x.1).map strRow))
theorem pok215:∀ args v,p215 args=some v → ∀ lo H,CallOk NC lo 215 args H v H:=by
 intro args v h
 obtain ⟨x,rfl,hp,rfl⟩:=primOf_inv h
 clear h
 revert x
 intro x hp;exact c215 x.1 x.2 hp
theorem pe215 (x:List Nat × Nat) (hp:(fun x=>x.1.length+1≤maxRows) x):p215 ((fun x=>[.str x.1,.str [x.2],.int .i64 0,.int .i64 (-1)]) x)=some ((fun x=>.ps .unk ((splitL x.2 x.1).map strRow)) x):=primOf_enc (by intro x y h;simpa [Prod.ext_iff] using h) x hp
noncomputable def PPF166:FuncId→Option (List AV→Option AV):=addPrim 215 p215 (fun _=>none)
theorem primsF166:PrimsOk NC PPF166:=primsOk_add (primsOk_none) (by kernel_rfl) (by kernel_rfl) pok215
theorem enF166_215:En PPF166 215 p215:=enter_prim (by rfl) (by kernel_rfl)
attribute [go_sem ↓] enF166_215
theorem c166 (s:List Nat) (c:Nat) (hp:s.length+1≤maxRows):∀ lo H,CallOk NC lo 166 [.str s,.str [c]] H (.ps .unk ((splitL c s).map strRow)) H:=by
 refine contract saneNC primsF166 (fn:=Tryz.f166) (by kernel_rfl) Tryz.func166 rfl rfl (by rfl) (by first | rfl | (split<;>first | rfl | (split<;>rfl))) ?_
 have e215:p215 [.str s,.str [c],.int .i64 0,.int .i64 (-1)]=_:=pe215 (s,c) hp
 simp only [go_sem,reduceIte,reduceEqDiff,reduceAdd,reduceMul,reduceSub,reduceLeDiff,reduceLT,Nat.reduceBEq,reduceCtorEq,e215]
noncomputable def p166:List AV→Option AV:=primOf (α:=(List Nat) × (Nat)) (fun x=>[.str x.1,.str [x.2]]) (fun x=>x.1.length+1≤maxRows) (fun x=>.ps .unk ((splitL x.2 x.1).map strRow))
theorem pok166:∀ args v,p166 args=some v → ∀ lo H,CallOk NC lo 166 args H v H:=by
 intro args v h
 obtain ⟨x,rfl,hp,rfl⟩:=primOf_inv h
 exact c166 x.1 x.2 hp
theorem pe166 (s:List Nat) (c:Nat) (hp:s.length+1≤maxRows):p166 [.str s,.str [c]]=some (.ps .unk ((splitL c s).map strRow)):=primOf_enc (α:=(List Nat) × (Nat)) (enc:=fun x=>[.str x.1,.str [x.2]]) (pre:=fun x=>x.1.length+1≤maxRows) (spec:=fun x=>.ps .unk ((splitL x.2 x.1).map strRow)) (by intro x y h;(simp only [List.cons.injEq,AV.agg.injEq,AV.str.injEq,AV.int.injEq,AV.ps.injEq,AV.bool.injEq,Net.cells_iff,Ln.row_iff,Pc.row_iff,Mv.row_iff,lns_iff,pcs_iff,mvs_iff,strRows_iff,Int.ofNat_inj,true_and,and_true] at h;first | simpa only [Prod.ext_iff] using h | simpa only [Prod.ext_iff,and_assoc] using h)) (s,c) hp
noncomputable def PPF93:FuncId→Option (List AV→Option AV):=fun _=>none
theorem primsF93:PrimsOk NC PPF93:=primsOk_none
theorem c93 (s:List Nat) (c:Nat) (hp:s.length+1≤maxRows):∀ lo H,CallOk NC lo 93 [.str s,.int .u8 c] H (.ps .unk ((splitL c s).map strRow)) H:=by
 refine contract saneNC primsF93 (fn:=Tryz.f93) (by kernel_rfl) Tryz.func93 rfl rfl (by rfl) (by first | rfl | (split<;>first | rfl | (split<;>rfl))) ?_
 simp only [go_sem,reduceIte,reduceEqDiff,reduceAdd,reduceMul,reduceSub,reduceLeDiff,reduceLT,Nat.reduceBEq,reduceCtorEq]
 refine W_for (fun k T H M=>M=[]∧getT T 0=.str s∧getT T 1=.int .u8 c∧getT T 7=i64 k ∧ ∃ (fr:Nat) (done:List (List Nat)) (t:Tok),getT T 6=i64 fr∧fr≤k∧done.length≤k∧getT T 5=.ps t (done.map strRow)∧App H t (done.map strRow) 1 9∧splitL c s=done++splitA c ((s.take k).drop fr) (s.drop k)) s.length ?_ ?_ ?_
 · simp only [go_sem,reduceIte,reduceEqDiff,reduceAdd,reduceMul,reduceSub,reduceLeDiff,reduceLT,Nat.reduceBEq,reduceCtorEq]
   exact ⟨0,[],.nil,rfl,Nat.le_refl _,Nat.le_refl _,rfl,.inl ⟨rfl,rfl⟩,rfl⟩
 · rintro k T H M hk ⟨rfl,g0,g1,g7,fr,done,t,g6,hfk,hdl,g5,hA,hs⟩
   obtain ⟨x,hx⟩:∃ c,s[k]? = some c:=⟨s[k],by simp⟩
   have hw:=wrap_succ (k:=k) (n:=maxRows) (by omega) (Nat.le_refl _)
   have sl:=asl_both (s:=s) (i:=fr) (j:=k) hfk (by omega)
   rw [drop_at hx,splitA_cons] at hs
   rcases Classical.propComplete ((x:Int)=(c:Int)) with q | q
   · have hxc:x=c:=by have:=of_eq_true q;omega
     rw [if_pos hxc] at hs
     obtain ⟨t',H1,ha,hB,hn1,hc1,_⟩:=app_any (H:=H) hA (r:=strRow ((s.take k).drop fr)) (by simp;omega) rfl (by decide) (rows_all strRow_len _)
     have hmap:done.map strRow++[(strRow ((s.take k).drop fr)).map AV.strip0]=(done++[(s.take k).drop fr]).map strRow:=by simp [strRow,AV.strip0]
     rw [hmap] at ha hB
     generalize (s.take k).drop fr=cur at sl ha hB hs
     simp only [strRow] at ha
     simp only [go_sem,reduceIte,reduceEqDiff,reduceAdd,reduceMul,reduceSub,reduceLeDiff,reduceLT,Nat.reduceBEq,reduceCtorEq,g0,g1,g5,g6,g7,hk,hx,q,sl,hw,appO,ha]
     refine ⟨k+1,done++[cur],t',rfl,Nat.le_refl _,by simp;omega,rfl,hB, ?_⟩
     rw [hs]
     have:(s.take (k+1)).drop (k+1)=[]:=List.drop_eq_nil_of_le (by rw [List.length_take];omega)
     rw [this];simp
   · have hxc:¬ (x=c):=by intro h;rw [h] at q;simp at q
     rw [if_neg hxc] at hs
     simp only [go_sem,reduceIte,reduceEqDiff,reduceAdd,reduceMul,reduceSub,reduceLeDiff,reduceLT,Nat.reduceBEq,reduceCtorEq,g0,g1,g5,g6,g7,hk,hx,q,hw]
     refine ⟨fr,done,t,rfl,by omega,by omega,rfl,hA, ?_⟩
     rw [hs,List.take_add_one,hx]
     congr 2
     rw [List.drop_append_of_le_length (by rw [List.length_take];omega)];rfl
 · rintro T H M ⟨rfl,g0,g1,g7,fr,done,t,g6,hfk,hdl,g5,hA,hs⟩
   have sl:=asl_lo (s:=s) (i:=fr) hfk
   rw [List.take_length,List.drop_length] at hs
   have hs:splitL c s=done++[s.drop fr]:=hs
   obtain ⟨t',H1,ha,hB,hn1,hc1,_⟩:=app_any (H:=H) hA (r:=strRow (s.drop fr)) (by simp;omega) rfl (by decide) (rows_all strRow_len _)
   have hmap:done.map strRow++[(strRow (s.drop fr)).map AV.strip0]=(splitL c s).map strRow:=by rw [hs];simp [strRow,AV.strip0]
   rw [hmap] at ha
   simp only [strRow] at ha
   simp only [go_sem,reduceIte,reduceEqDiff,reduceAdd,reduceMul,reduceSub,reduceLeDiff,reduceLT,Nat.reduceBEq,reduceCtorEq,g0,g1,g5,g6,g7,Nat.lt_irrefl,sl,appO,ha]
noncomputable def p93:List AV→Option AV:=primOf (α:=(List Nat) × (Nat)) (fun x=>[.str x.1,.int .u8 x.2]) (fun x=>x.1.length+1≤maxRows) (fun x=>.ps .unk ((splitL x.2 x.1).map strRow))
theorem pok93:∀ args v,p93 args=some v → ∀ lo H,CallOk NC lo 93 args H v H:=by
 intro args v h
 obtain ⟨x,rfl,hp,rfl⟩:=primOf_inv h
 exact c93 x.1 x.2 hp
theorem pe93 (s:List Nat) (c:Nat) (hp:s.length+1≤maxRows):p93 [.str s,.int .u8 c]=some (.ps .unk ((splitL c s).map strRow)):=primOf_enc (α:=(List Nat) × (Nat)) (enc:=fun x=>[.str x.1,.int .u8 x.2]) (pre:=fun x=>x.1.length+1≤maxRows) (spec:=fun x=>.ps .unk ((splitL x.2 x.1).map strRow)) (by intro x y h;(simp only [List.cons.injEq,AV.agg.injEq,AV.str.injEq,AV.int.injEq,AV.ps.injEq,AV.bool.injEq,Net.cells_iff,Ln.row_iff,Pc.row_iff,Mv.row_iff,lns_iff,pcs_iff,mvs_iff,strRows_iff,Int.ofNat_inj,true_and,and_true] at h;first | simpa only [Prod.ext_iff] using h | simpa only [Prod.ext_iff,and_assoc] using h)) (s,c) hp
theorem e93_10 (s:List Nat) (h:s.length+1≤maxRows):p93 [.str s,.int .u8 10]=some (.ps .unk ((splitL 10 s).map strRow)):=pe93 s 10 h
theorem e93_32 (s:List Nat) (h:s.length+1≤maxRows):p93 [.str s,.int .u8 32]=some (.ps .unk ((splitL 32 s).map strRow)):=pe93 s 32 h
noncomputable def PPF223:FuncId→Option (List AV→Option AV):=fun _=>none
theorem primsF223:PrimsOk NC PPF223:=primsOk_none
theorem c223 (w:List (List Nat)) (hp:w.length≤maxRows):∀ lo H,CallOk NC lo 223 [.ps .unk (w.map strRow)] H (.bool (filledB w)) H:=by
 refine contract saneNC primsF223 (fn:=Tryz.f223) (by kernel_rfl) Tryz.func223 rfl rfl (by rfl) (by first | rfl | (split<;>first | rfl | (split<;>rfl))) ?_
 simp only [go_sem,reduceIte,reduceEqDiff,reduceAdd,reduceMul,reduceSub,reduceLeDiff,reduceLT,Nat.reduceBEq,reduceCtorEq]
 refine W_for (fun k T H M=>M=[]∧getT T 0=.ps .unk (w.map strRow)∧getT T 3=i64 k∧filledB w=filledB (w.drop k)) w.length ?_ ?_ ?_
 · simp only [go_sem,reduceIte,reduceEqDiff,reduceAdd,reduceMul,reduceSub,reduceLeDiff,reduceLT,Nat.reduceBEq,reduceCtorEq];try rfl
 · rintro k T H M hk ⟨rfl,g0,g3,hf⟩
   obtain ⟨x,hx⟩:∃ p,w[k]? = some p:=⟨w[k],by simp⟩
   have hr:=map_at (f:=strRow) hx
   have hw:=wrap_succ hk hp
   have hfd:filledB (w.drop k)=(!beqL x [] && filledB (w.drop (k+1))):=by rw [drop_at hx];first | done | rfl
   rw [hf,hfd]
   simp only [strRow] at hr
   cases hb:beqL x []<;>simp only [go_sem,reduceIte,reduceEqDiff,reduceAdd,reduceMul,reduceSub,reduceLeDiff,reduceLT,Nat.reduceBEq,reduceCtorEq,g0,g3,List.length_map,hk,hr,hw,hb]
 · rintro T H M ⟨rfl,g0,g3,hf⟩
   rw [hf,List.drop_length]
   simp only [go_sem,reduceIte,reduceEqDiff,reduceAdd,reduceMul,reduceSub,reduceLeDiff,reduceLT,Nat.reduceBEq,reduceCtorEq,g0,g3,List.length_map,Nat.lt_irrefl,filledB,List.all_nil]
noncomputable def p223:List AV→Option AV:=primOf (α:=(List (List Nat))) (fun x=>[.ps .unk (x.map strRow)]) (fun x=>x.length≤maxRows) (fun x=>.bool (filledB x))
theorem pok223:∀ args v,p223 args=some v → ∀ lo H,CallOk NC lo 223 args H v H:=by
 intro args v h
 obtain ⟨x,rfl,hp,rfl⟩:=primOf_inv h
 exact c223 x hp
theorem pe223 (w:List (List Nat)) (hp:w.length≤maxRows):p223 [.ps .unk (w.map strRow)]=some (.bool (filledB w)):=primOf_enc (α:=(List (List Nat))) (enc:=fun x=>[.ps .unk (x.map strRow)]) (pre:=fun x=>x.length≤maxRows) (spec:=fun x=>.bool (filledB x)) (by intro x y h;(simp only [List.cons.injEq,AV.agg.injEq,AV.str.injEq,AV.int.injEq,AV.ps.injEq,AV.bool.injEq,Net.cells_iff,Ln.row_iff,Pc.row_iff,Mv.row_iff,lns_iff,pcs_iff,mvs_iff,strRows_iff,Int.ofNat_inj,true_and,and_true] at h;first | simpa only [Prod.ext_iff] using h | simpa only [Prod.ext_iff,and_assoc] using h)) w hp
end Go.Sim

/-
Texts: the network told to the reference; networks compared.
-/
-- INJ and_self
namespace Go.Sim
open Go Go.Proofs
set_option maxRecDepth 100000
set_option maxHeartbeats 8000000
/-! ### The network told to the reference -/
noncomputable def PPF92:FuncId→Option (List AV→Option AV):=fun _=>none
theorem primsF92:PrimsOk NC PPF92:=primsOk_none
theorem c92 (n:Net) (hp:n.fits∧n.sws.length≤maxRows∧n.sts.length≤maxRows):∀ lo H,CallOk NC lo 92 [.agg n.cells] H (.agg n.cells) H:=by
 refine contract saneNC primsF92 (fn:=Tryz.f92) (by kernel_rfl) Tryz.func92 rfl rfl (by rfl) (by first | rfl | (split<;>first | rfl | (split<;>rfl))) ?_
 obtain ⟨hn,hs,ht⟩:=hp
 simp only [go_sem,reduceIte,reduceEqDiff,reduceAdd,reduceMul,reduceSub,reduceLeDiff,reduceLT,Nat.reduceBEq,reduceCtorEq,Net.cells]
 refine W_for (fun k T H M=>M=[]∧getT T 1=.ptr 0 0∧getT T 2=.ptr 1 0∧getT T 3=.ptr 2 0∧getT T 14=.ps .unk (n.lines.map Ln.row)∧getT T 15=i64 (n.lines.length:Nat)∧getT T 16=i64 k∧H.get 0=.cells n.cells 40∧H.get 1=.cells [.ps .nil [],.ps .nil [],.ps .nil []] 26∧2 < H.n ∧ ∃ t,H.get 2=.cells [.ps t ((n.lines.take k).map Ln.row),.ps .nil [],.ps .nil []] 26∧App H t ((n.lines.take k).map Ln.row) 2 56) n.lines.length ?_ ?_ ?_
 · simp only [go_sem,reduceIte,reduceEqDiff,reduceAdd,reduceMul,reduceSub,reduceLeDiff,reduceLT,Nat.reduceBEq,reduceCtorEq,Net.cells,List.length_map];exact ⟨.nil,by simp,.inl ⟨rfl,rfl⟩⟩
 · rintro k T H M hk ⟨rfl,g1,g2,g3,g14,g15,g16,h0,h1,hh,t,h2,hA⟩
   obtain ⟨l,hp⟩:∃ p,n.lines[k]? = some p:=⟨n.lines[k],by simp⟩
   have hfit:=hn.2 l (List.mem_of_getElem? hp)
   have hr:=map_at (f:=Ln.row) hp
   have hw:=wrap_succ hk hn.1
   have htk:=take_map (f:=Ln.row) hp
   simp only [Ln.row] at hr
   have b0:(0=H.n)=False:=by simp;omega
   have b1:(1=H.n)=False:=by simp;omega
   have b2:(2=H.n)=False:=by simp;omega
   have b3:(H.n=H.n+1)=False:=by simp
   have b4:(0=H.n+1)=False:=by simp
   have b5:(1=H.n+1)=False:=by simp;omega
   have b6:(2=H.n+1)=False:=by simp;omega
   simp only [go_sem,reduceIte,reduceEqDiff,reduceAdd,reduceMul,reduceSub,reduceLeDiff,reduceLT,Nat.reduceBEq,reduceCtorEq,g1,g2,g3,g14,g15,g16,h0,h1,h2,b0,b1,b2,b3,b4,b5,b6,List.length_map,hk,hr]
   refine W_for (fun k2 T' H' M=>M=[]∧getT T' 1=.ptr 0 0∧getT T' 2=.ptr 1 0∧getT T' 3=.ptr 2 0∧getT T' 14=.ps .unk (n.lines.map Ln.row)∧getT T' 15=i64 (n.lines.length:Nat)∧getT T' 16=i64 k∧getT T' 6=.ptr (H.n+1) 0∧getT T' 24=.ps .unk (l.ps.map Pc.row)∧getT T' 25=i64 (l.ps.length:Nat)∧getT T' 26=i64 k2∧H'.get 0=.cells n.cells 40∧H'.get 1=.cells [.ps .nil [],.ps .nil [],.ps .nil []] 26∧H.n+1 < H'.n∧(∃ t,H'.get 2=.cells [.ps t ((n.lines.take k).map Ln.row),.ps .nil [],.ps .nil []] 26∧App H' t ((n.lines.take k).map Ln.row) 2 56) ∧
    ∃ u,H'.get (H.n+1)=.cells [.str l.name,.ps u ((l.ps.take k2).map Pc.row)] 56∧App H' u ((l.ps.take k2).map Pc.row) 3 97) l.ps.length ?_ ?_ ?_
   · simp only [go_sem,reduceIte,reduceEqDiff,reduceAdd,reduceMul,reduceSub,reduceLeDiff,reduceLT,Nat.reduceBEq,reduceCtorEq,g1,g2,g3,g14,g15,g16,h0,h1,h2,b0,b1,b2,b3,b4,b5,b6,Net.cells,List.length_map]
     refine ⟨⟨t,rfl, ?_⟩,.nil,by simp,.inl ⟨rfl,rfl⟩⟩
     exact (hA.fresh _ _ rfl).fresh _ _ rfl
   · rintro k2 T' H' M hk2 ⟨rfl,i1,i2,i3,i14,i15,i16,i6,i24,i25,i26,j0,j1,jh,⟨t',j2,jA⟩,u,ju,jB⟩
     obtain ⟨p,hpp⟩:∃ p,l.ps[k2]? = some p:=⟨l.ps[k2],by simp⟩
     have hpr:=map_at (f:=Pc.row) hpp
     have hw2:=wrap_succ hk2 hfit
     have htk2:=take_map (f:=Pc.row) hpp
     obtain ⟨pl,pq,pb⟩:=p
     simp only [Pc.row] at hpr
     have d0:(0=H'.n)=False:=by simp;omega
     have d1:(1=H'.n)=False:=by simp;omega
     have d2:(2=H'.n)=False:=by simp;omega
     have d3:(H.n+1=H'.n)=False:=by simp;omega
     obtain ⟨u',H1,ha,hB',hn1,hc1,ho1⟩:=app_any (H:=(H'.push (.cells [.int .i64 0,.int .i64 0,.bool false] 200)).set H'.n (.cells [.int .i64 pl,.int .i64 pq,.bool pb] 200)) (jB.fresh _ _ rfl) (r:=[.int .i64 pl,.int .i64 pq,.bool pb]) (by simp;omega) rfl (by decide) (rows_all Pc.row_len _)
     have x1:=hc1 (H.n+1) [.str l.name,.ps u ((l.ps.take k2).map Pc.row)] 56 (by simp;omega) (by rw [Heap.get_set,if_neg (by omega),Heap.get_push,if_neg (by omega)];exact ju)
     have x0:=hc1 0 _ _ (by simp) (by rw [Heap.get_set,if_neg (by omega),Heap.get_push,if_neg (by omega)];exact j0)
     have x01:=hc1 1 _ _ (by simp;omega) (by rw [Heap.get_set,if_neg (by omega),Heap.get_push,if_neg (by omega)];exact j1)
     have x2:=hc1 2 _ _ (by simp;omega) (by rw [Heap.get_set,if_neg (by omega),Heap.get_push,if_neg (by omega)];exact j2)
     have xA:=ho1 _ _ 2 56 (by decide) (jA.fresh (.cells [.int .i64 0,.int .i64 0,.bool false] 200) (.cells [.int .i64 pl,.int .i64 pq,.bool pb] 200) rfl)
     simp only [Heap.n_set,Heap.n_push] at hn1
     simp only [go_sem,reduceIte,reduceEqDiff,reduceAdd,reduceMul,reduceSub,reduceLeDiff,reduceLT,Nat.reduceBEq,reduceCtorEq,i1,i2,i3,i14,i15,i16,i6,i24,i25,i26,d0,d1,d2,d3,b4,b5,b6,ju,List.length_map,hk2,hpr,hw2,appO,isIntT_slice,rowsIn,ha,x1,x0,x01,x2,strip_ps]
     rw [htk2]
     exact ⟨by omega,⟨t',rfl,xA.set _ (by rw [x1];simp)⟩,u',rfl,hB'.set _ (by rw [x1];simp)⟩
   · rintro T' H' M ⟨rfl,i1,i2,i3,i14,i15,i16,i6,i24,i25,i26,j0,j1,jh,⟨t',j2,jA⟩,u,ju,jB⟩
     rw [List.take_length] at ju jB
     obtain ⟨t2,H1,ha,hB',hn1,hc1,ho1⟩:=app_any jA (r:=[.str l.name,.ps .unk (l.ps.map Pc.row)]) (by simp;have:=hn.1;omega) rfl (by decide) (rows_all Ln.row_len _)
     have x0:=hc1 0 _ _ (by omega) j0
     have x01:=hc1 1 _ _ (by omega) j1
     have x2:=hc1 2 _ _ (by omega) j2
     simp only [go_sem,reduceIte,reduceEqDiff,reduceAdd,reduceMul,reduceSub,reduceLeDiff,reduceLT,Nat.reduceBEq,reduceCtorEq,i1,i2,i3,i14,i15,i16,i6,i24,i25,i26,ju,j2,List.length_map,Nat.lt_irrefl,appO,isIntT_slice,rowsIn,ha,x0,x01,x2,strip_ps,hw]
     rw [htk]
     exact ⟨by omega,t2,rfl,hB'.set _ (by rw [x2];simp)⟩
 rintro T H M ⟨rfl,g1,g2,g3,g14,g15,g16,h0,h1,hh,t,h2,hA⟩
 rw [List.take_length] at h2 hA
 simp only [go_sem,reduceIte,reduceEqDiff,reduceAdd,reduceMul,reduceSub,reduceLeDiff,reduceLT,Nat.reduceBEq,reduceCtorEq,g1,g2,g3,g14,g15,g16,h0,h1,h2,Net.cells,List.length_map,Nat.lt_irrefl]
 refine W_for (fun k T H M=>M=[]∧getT T 1=.ptr 0 0∧getT T 2=.ptr 1 0∧getT T 3=.ptr 2 0∧getT T 45=.ps .unk (n.sws.map Sw.row)∧getT T 46=i64 (n.sws.length:Nat)∧getT T 47=i64 k∧H.get 0=.cells n.cells 40∧H.get 1=.cells [.ps .nil [],.ps .nil [],.ps .nil []] 26∧2 < H.n ∧ ∃ u,H.get 2=.cells [.ps t (n.lines.map Ln.row),.ps u ((n.sws.take k).map Sw.row),.ps .nil []] 26∧App H u ((n.sws.take k).map Sw.row) 5 191) n.sws.length ?_ ?_ ?_
 · simp only [go_sem,reduceIte,reduceEqDiff,reduceAdd,reduceMul,reduceSub,reduceLeDiff,reduceLT,Nat.reduceBEq,reduceCtorEq,g1,g2,g3,h0,h1,h2,Net.cells,List.length_map];exact ⟨hh,.nil,by simp,.inl ⟨rfl,rfl⟩⟩
 · rintro k T H M hk ⟨rfl,g1,g2,g3,g14,g15,g16,h0,h1,hh,u,h2,hA⟩
   obtain ⟨l,hp⟩:∃ p,n.sws[k]? = some p:=⟨n.sws[k],by simp⟩
   have hr:=map_at (f:=Sw.row) hp
   have hw:=wrap_succ hk hs
   have htk:=take_map (f:=Sw.row) hp
   simp only [Sw.row] at hr
   have b0:(0=H.n)=False:=by simp;omega
   have b1:(1=H.n)=False:=by simp;omega
   have b2:(2=H.n)=False:=by simp;omega
   obtain ⟨u',H1,ha,hB',hn1,hc1,ho1⟩:=app_any (H:=(H.push (.cells [.str [],.str [],.int .i64 0,.str [],.bool false] 201)).set H.n (.cells [.str l.name,.str l.line,.int .i64 l.metre,.str l.other,.bool l.last] 201)) (hA.fresh _ _ rfl) (r:=[.str l.name,.str l.line,.int .i64 l.metre,.str l.other,.bool l.last]) (by simp;omega) rfl (by decide) (rows_all Sw.row_len _)
   have x0:=hc1 0 _ _ (by simp) (by rw [Heap.get_set,if_neg (by omega),Heap.get_push,if_neg (by omega)];exact h0)
   have x01:=hc1 1 _ _ (by simp;omega) (by rw [Heap.get_set,if_neg (by omega),Heap.get_push,if_neg (by omega)];exact h1)
   have x2:=hc1 2 _ _ (by simp;omega) (by rw [Heap.get_set,if_neg (by omega),Heap.get_push,if_neg (by omega)];exact h2)
   simp only [Heap.n_set,Heap.n_push] at hn1
   simp only [go_sem,reduceIte,reduceEqDiff,reduceAdd,reduceMul,reduceSub,reduceLeDiff,reduceLT,Nat.reduceBEq,reduceCtorEq,g1,g2,g3,g14,g15,g16,h0,h1,h2,b0,b1,b2,List.length_map,hk,hr,hw,appO,isIntT_slice,rowsIn,ha,x0,x01,x2]
   rw [htk]
   exact ⟨by omega,u',rfl,hB'.set _ (by rw [x2];simp)⟩
 rintro T H M ⟨rfl,g1,g2,g3,g14,g15,g16,h0,h1,hh,u,h2,hA⟩
 rw [List.take_length] at h2 hA
 simp only [go_sem,reduceIte,reduceEqDiff,reduceAdd,reduceMul,reduceSub,reduceLeDiff,reduceLT,Nat.reduceBEq,reduceCtorEq,g1,g2,g3,g14,g15,g16,h0,h1,h2,Net.cells,List.length_map,Nat.lt_irrefl]
 refine W_for (fun k T H M=>M=[]∧getT T 1=.ptr 0 0∧getT T 2=.ptr 1 0∧getT T 3=.ptr 2 0∧getT T 59=.ps .unk (n.sts.map Stc.row)∧getT T 60=i64 (n.sts.length:Nat)∧getT T 61=i64 k∧H.get 0=.cells n.cells 40∧H.get 1=.cells [.ps .nil [],.ps .nil [],.ps .nil []] 26∧2 < H.n ∧ ∃ v,H.get 2=.cells [.ps t (n.lines.map Ln.row),.ps u (n.sws.map Sw.row),.ps v ((n.sts.take k).map Stc.row)] 26∧App H v ((n.sts.take k).map Stc.row) 5 193) n.sts.length ?_ ?_ ?_
 · simp only [go_sem,reduceIte,reduceEqDiff,reduceAdd,reduceMul,reduceSub,reduceLeDiff,reduceLT,Nat.reduceBEq,reduceCtorEq,g1,g2,g3,h0,h1,h2,Net.cells,List.length_map];exact ⟨hh,.nil,by simp,.inl ⟨rfl,rfl⟩⟩
 · rintro k T H M hk ⟨rfl,g1,g2,g3,g14,g15,g16,h0,h1,hh,v,h2,hA⟩
   obtain ⟨l,hp⟩:∃ p,n.sts[k]? = some p:=⟨n.sts[k],by simp⟩
   have hr:=map_at (f:=Stc.row) hp
   have hw:=wrap_succ hk ht
   have htk:=take_map (f:=Stc.row) hp
   simp only [Stc.row] at hr
   have b0:(0=H.n)=False:=by simp;omega
   have b1:(1=H.n)=False:=by simp;omega
   have b2:(2=H.n)=False:=by simp;omega
   obtain ⟨u',H1,ha,hB',hn1,hc1,ho1⟩:=app_any (H:=(H.push (.cells [.str [],.str [],.str [],.int .i64 0,.int .i64 0] 202)).set H.n (.cells [.str l.name,.str l.kind,.str l.line,.int .i64 l.fr,.int .i64 l.till] 202)) (hA.fresh _ _ rfl) (r:=[.str l.name,.str l.kind,.str l.line,.int .i64 l.fr,.int .i64 l.till]) (by simp;omega) rfl (by decide) (rows_all Stc.row_len _)
   have x0:=hc1 0 _ _ (by simp) (by rw [Heap.get_set,if_neg (by omega),Heap.get_push,if_neg (by omega)];exact h0)
   have x01:=hc1 1 _ _ (by simp;omega) (by rw [Heap.get_set,if_neg (by omega),Heap.get_push,if_neg (by omega)];exact h1)
   have x2:=hc1 2 _ _ (by simp;omega) (by rw [Heap.get_set,if_neg (by omega),Heap.get_push,if_neg (by omega)];exact h2)
   simp only [Heap.n_set,Heap.n_push] at hn1
   simp only [go_sem,reduceIte,reduceEqDiff,reduceAdd,reduceMul,reduceSub,reduceLeDiff,reduceLT,Nat.reduceBEq,reduceCtorEq,g1,g2,g3,g14,g15,g16,h0,h1,h2,b0,b1,b2,List.length_map,hk,hr,hw,appO,isIntT_slice,rowsIn,ha,x0,x01,x2]
   rw [htk]
   exact ⟨by omega,u',rfl,hB'.set _ (by rw [x2];simp)⟩
 rintro T H M ⟨rfl,g1,g2,g3,g14,g15,g16,h0,h1,hh,v,h2,hA⟩
 rw [List.take_length] at h2 hA
 simp only [go_sem,reduceIte,reduceEqDiff,reduceAdd,reduceMul,reduceSub,reduceLeDiff,reduceLT,Nat.reduceBEq,reduceCtorEq,g1,g2,g3,g14,g15,g16,h0,h1,h2,Net.cells,List.length_map,Nat.lt_irrefl]
noncomputable def p92:List AV→Option AV:=primOf (α:=(Net)) (fun x=>[.agg x.cells]) (fun x=>x.fits∧x.sws.length≤maxRows∧x.sts.length≤maxRows) (fun x=>.agg x.cells)
theorem pok92:∀ args v,p92 args=some v → ∀ lo H,CallOk NC lo 92 args H v H:=by
 intro args v h
 obtain ⟨x,rfl,hp,rfl⟩:=primOf_inv h
 exact c92 x hp
theorem pe92 (n:Net) (hp:n.fits∧n.sws.length≤maxRows∧n.sts.length≤maxRows):p92 [.agg n.cells]=some (.agg n.cells):=primOf_enc (α:=(Net)) (enc:=fun x=>[.agg x.cells]) (pre:=fun x=>x.fits∧x.sws.length≤maxRows∧x.sts.length≤maxRows) (spec:=fun x=>.agg x.cells) (by intro x y h;(simp only [List.cons.injEq,AV.agg.injEq,AV.str.injEq,AV.int.injEq,AV.ps.injEq,AV.bool.injEq,Net.cells_iff,Ln.row_iff,Pc.row_iff,Mv.row_iff,lns_iff,pcs_iff,mvs_iff,and_self,true_and,and_true] at h;first | simpa only [Prod.ext_iff] using h | simpa only [Prod.ext_iff,and_assoc] using h)) n hp
/-! ### Networks compared -/
def andO (x y:Option Bool):Option Bool:=match x with
 | some true=>y
 | some false=>some false
 | none=>none
theorem aeq97_self (a b:Int) (c:Bool):aeqT NC.P 100 97 (.agg [.int .i64 a,.int .i64 b,.bool c]) (.agg [.int .i64 a,.int .i64 b,.bool c])=some true:=by
 have h:aeqT NC.P 100 97 (.agg [.int .i64 a,.int .i64 b,.bool c]) (.agg [.int .i64 a,.int .i64 b,.bool c])=andO (some (eqI a a)) (andO (some (eqI b b)) (andO (some (c == c)) (some true))):=by kernel_rfl
 rw [h,eqI_self,eqI_self,beq_self_eq_true];rfl
theorem aeq191_self (a b d:List Nat) (c:Int) (e:Bool):aeqT NC.P 100 191 (.agg [.str a,.str b,.int .i64 c,.str d,.bool e]) (.agg [.str a,.str b,.int .i64 c,.str d,.bool e])=some true:=by
 have h:aeqT NC.P 100 191 (.agg [.str a,.str b,.int .i64 c,.str d,.bool e]) (.agg [.str a,.str b,.int .i64 c,.str d,.bool e])=andO (some (beqL a a)) (andO (some (beqL b b)) (andO (some (eqI c c)) (andO (some (beqL d d)) (andO (some (e == e)) (some true))))):=by kernel_rfl
 rw [h,beqL_self,beqL_self,eqI_self,beqL_self,beq_self_eq_true];rfl
theorem aeq193_self (a b d:List Nat) (c e:Int):aeqT NC.P 100 193 (.agg [.str a,.str b,.str d,.int .i64 c,.int .i64 e]) (.agg [.str a,.str b,.str d,.int .i64 c,.int .i64 e])=some true:=by
 have h:aeqT NC.P 100 193 (.agg [.str a,.str b,.str d,.int .i64 c,.int .i64 e]) (.agg [.str a,.str b,.str d,.int .i64 c,.int .i64 e])=andO (some (beqL a a)) (andO (some (beqL b b)) (andO (some (beqL d d)) (andO (andO (some (eqI c c)) (andO (some (eqI e e)) (some true))) (some true)))):=by kernel_rfl
 rw [h,beqL_self,beqL_self,beqL_self,eqI_self,eqI_self];rfl
theorem ety97:eqType NC.P 100 97=true:=by kernel_rfl
theorem ety191:eqType NC.P 100 191=true:=by kernel_rfl
theorem ety193:eqType NC.P 100 193=true:=by kernel_rfl
noncomputable def PPF91:FuncId→Option (List AV→Option AV):=fun _=>none
theorem primsF91:PrimsOk NC PPF91:=primsOk_none
theorem c91 (n:Net) (hp:n.fits∧n.sws.length≤maxRows∧n.sts.length≤maxRows):∀ lo H,CallOk NC lo 91 [.agg n.cells,.agg n.cells] H (.bool true) H:=by
 refine contract saneNC primsF91 (fn:=Tryz.f91) (by kernel_rfl) Tryz.func91 rfl rfl (by rfl) (by first | rfl | (split<;>first | rfl | (split<;>rfl))) ?_
 obtain ⟨hn,hs,ht⟩:=hp
 simp only [go_sem,reduceIte,reduceEqDiff,reduceAdd,reduceMul,reduceSub,reduceLeDiff,reduceLT,Nat.reduceBEq,reduceCtorEq,Net.cells,List.length_map]
 refine W_for (fun k T H M=>M=[]∧getT T 2=.ptr 0 0∧getT T 3=.ptr 1 0∧getT T 5=i64 k∧H.get 0=.cells n.cells 26∧H.get 1=.cells n.cells 26) n.lines.length ?_ ?_ ?_
 · simp only [go_sem,reduceIte,reduceEqDiff,reduceAdd,reduceMul,reduceSub,reduceLeDiff,reduceLT,Nat.reduceBEq,reduceCtorEq,Net.cells]
 · rintro k T H M hk ⟨rfl,g2,g3,g5,h0,h1⟩
   obtain ⟨l,hp⟩:∃ p,n.lines[k]? = some p:=⟨n.lines[k],by simp⟩
   have hfit:=hn.2 l (List.mem_of_getElem? hp)
   have hr:=map_at (f:=Ln.row) hp
   have hw:=wrap_succ hk hn.1
   simp only [Ln.row] at hr
   simp only [Net.cells] at h0 h1
   simp only [go_sem,reduceIte,reduceEqDiff,reduceAdd,reduceMul,reduceSub,reduceLeDiff,reduceLT,Nat.reduceBEq,reduceCtorEq,g2,g3,g5,h0,h1,List.length_map,hk,hr,beqL_self]
   refine W_for (fun k2 T' H' M=>M=[]∧H'=H∧getT T' 2=.ptr 0 0∧getT T' 3=.ptr 1 0∧getT T' 5=i64 k∧getT T' 6=i64 k2) l.ps.length ?_ ?_ ?_
   · simp only [go_sem,reduceIte,reduceEqDiff,reduceAdd,reduceMul,reduceSub,reduceLeDiff,reduceLT,Nat.reduceBEq,reduceCtorEq,g2,g3,g5]
   · rintro k2 T' H' M hk2 ⟨rfl,rfl,i2,i3,i5,i6⟩
     obtain ⟨p,hpp⟩:∃ p,l.ps[k2]? = some p:=⟨l.ps[k2],by simp⟩
     have hpr:=map_at (f:=Pc.row) hpp
     have hw2:=wrap_succ hk2 hfit
     obtain ⟨pl,pq,pb⟩:=p
     simp only [Pc.row,i64] at hpr
     simp only [go_sem,reduceIte,reduceEqDiff,reduceAdd,reduceMul,reduceSub,reduceLeDiff,reduceLT,Nat.reduceBEq,reduceCtorEq,i2,i3,i5,i6,h0,h1,List.length_map,hk,hr,hk2,hpr,hw2,ety97,aeq97_self]
   · rintro T' H' M ⟨rfl,rfl,i2,i3,i5,i6⟩
     simp only [go_sem,reduceIte,reduceEqDiff,reduceAdd,reduceMul,reduceSub,reduceLeDiff,reduceLT,Nat.reduceBEq,reduceCtorEq,i2,i3,i5,i6,h0,h1,List.length_map,hk,hr,Nat.lt_irrefl,hw,Net.cells]
 rintro T H M ⟨rfl,g2,g3,g5,h0,h1⟩
 simp only [Net.cells] at h0 h1
 simp only [go_sem,reduceIte,reduceEqDiff,reduceAdd,reduceMul,reduceSub,reduceLeDiff,reduceLT,Nat.reduceBEq,reduceCtorEq,g2,g3,g5,h0,h1,List.length_map,Nat.lt_irrefl]
 refine W_for (fun k T' H' M=>M=[]∧H'=H∧getT T' 2=.ptr 0 0∧getT T' 3=.ptr 1 0∧getT T' 7=i64 k) n.sws.length ?_ ?_ ?_
 · simp only [go_sem,reduceIte,reduceEqDiff,reduceAdd,reduceMul,reduceSub,reduceLeDiff,reduceLT,Nat.reduceBEq,reduceCtorEq,g2,g3]
 · rintro k T' H' M hk ⟨rfl,rfl,i2,i3,i7⟩
   obtain ⟨l,hp⟩:∃ p,n.sws[k]? = some p:=⟨n.sws[k],by simp⟩
   have hr:=map_at (f:=Sw.row) hp
   have hw:=wrap_succ hk hs
   obtain ⟨l1,l2,l3,l4,l5⟩:=l
   simp only [Sw.row,i64] at hr
   simp only [go_sem,reduceIte,reduceEqDiff,reduceAdd,reduceMul,reduceSub,reduceLeDiff,reduceLT,Nat.reduceBEq,reduceCtorEq,i2,i3,i7,h0,h1,List.length_map,hk,hr,hw,ety191,aeq191_self]
 rintro T' H' M ⟨rfl,rfl,i2,i3,i7⟩
 simp only [go_sem,reduceIte,reduceEqDiff,reduceAdd,reduceMul,reduceSub,reduceLeDiff,reduceLT,Nat.reduceBEq,reduceCtorEq,i2,i3,i7,h0,h1,List.length_map,Nat.lt_irrefl]
 refine W_for (fun k T2 H2 M=>M=[]∧H2=H'∧getT T2 2=.ptr 0 0∧getT T2 3=.ptr 1 0∧getT T2 8=i64 k) n.sts.length ?_ ?_ ?_
 · simp only [go_sem,reduceIte,reduceEqDiff,reduceAdd,reduceMul,reduceSub,reduceLeDiff,reduceLT,Nat.reduceBEq,reduceCtorEq,i2,i3]
 · rintro k T2 H2 M hk ⟨rfl,rfl,j2,j3,j8⟩
   obtain ⟨l,hp⟩:∃ p,n.sts[k]? = some p:=⟨n.sts[k],by simp⟩
   have hr:=map_at (f:=Stc.row) hp
   have hw:=wrap_succ hk ht
   obtain ⟨l1,l2,l3,l4,l5⟩:=l
   simp only [Stc.row,i64] at hr
   simp only [go_sem,reduceIte,reduceEqDiff,reduceAdd,reduceMul,reduceSub,reduceLeDiff,reduceLT,Nat.reduceBEq,reduceCtorEq,j2,j3,j8,h0,h1,List.length_map,hk,hr,hw,ety193,aeq193_self]
 rintro T2 H2 M ⟨rfl,rfl,j2,j3,j8⟩
 simp only [go_sem,reduceIte,reduceEqDiff,reduceAdd,reduceMul,reduceSub,reduceLeDiff,reduceLT,Nat.reduceBEq,reduceCtorEq,j2,j3,j8,h0,h1,List.length_map,Nat.lt_irrefl]
noncomputable def p91:List AV→Option AV:=primOf (α:=(Net)) (fun x=>[.agg x.cells,.agg x.cells]) (fun x=>x.fits∧x.sws.length≤maxRows∧x.sts.length≤maxRows) (fun x=>.bool true)
theorem pok91:∀ args v,p91 args=some v → ∀ lo H,CallOk NC lo 91 args H v H:=by
 intro args v h
 obtain ⟨x,rfl,hp,rfl⟩:=primOf_inv h
 exact c91 x hp
theorem pe91 (n:Net) (hp:n.fits∧n.sws.length≤maxRows∧n.sts.length≤maxRows):p91 [.agg n.cells,.agg n.cells]=some (.bool true):=primOf_enc (α:=(Net)) (enc:=fun x=>[.agg x.cells,.agg x.cells]) (pre:=fun x=>x.fits∧x.sws.length≤maxRows∧x.sts.length≤maxRows) (spec:=fun x=>.bool true) (by intro x y h;(simp only [List.cons.injEq,AV.agg.injEq,AV.str.injEq,AV.int.injEq,AV.ps.injEq,AV.bool.injEq,Net.cells_iff,Ln.row_iff,Pc.row_iff,Mv.row_iff,lns_iff,pcs_iff,mvs_iff,and_self,true_and,and_true] at h;first | simpa only [Prod.ext_iff] using h | simpa only [Prod.ext_iff,and_assoc] using h)) n hp
end Go.Sim

/-
Pointers that are not nil.
-/
namespace Go.Sim
open Go Go.Proofs
/-! ### Pointers that are not nil -/
def nilO (v:AV) (K:AV→Prop) (_t:Tag K:=⟨⟩):Prop:=match v with
 | .ptr id off=>K (.ptr id off)
 | .pptr cs=>K (.pptr cs)
 | .fn f a b=>K (.fn f a b)
 | .yld l=>K (.yld l)
 | _=>False
theorem nilO_ptr (id off:Nat) (K:AV→Prop):nilO (.ptr id off) K=K (.ptr id off):=rfl
theorem op_nil {C:Cfg} {rec:Rec} {fid lo:Nat} {T:TT AV} {H:Heap} {K:AV→Heap→Prop} {d:Option Tmp} {t:TypeId} {p:String} {af:Array Edge} {gd:Option (Nat × Bool)} (x:Operand):VO (aop C rec fid lo ⟨d,.nilCheck x,t,p,af,gd⟩ T H) K=AO (evalO C T x) fun v=>nilO v fun v=>K v H:=by
 simp only [aop]
 cases evalO C T x with
 | none=>rfl
 | some v=>cases v<;>rfl
theorem evalO_nili {C:Cfg} {T:TT AV}:evalO C T (.const .nilIface)=some .nili:=rfl
attribute [go_sem ↓] op_nil nilO_ptr
attribute [go_sem] evalO_nili
end Go.Sim

/-
Texts: the plain law: what is printed is parsed, what is parsed is printed.
-/
namespace Go.Sim
open Go Go.Proofs
/-! ### Lines of a text -/
def goG (n:Net) (k:Int) (i:Nat):List Wd→Net × Int × Option Nat
 | []=>(n,k,none)
 | l::r=>match lineF n (splitL 32 l) with
   | none=>(n,k,some i)
   | some (n',k')=>if k' < k then (n,k,some i) else goG n' k' (i+1) r
theorem goG_cons (n:Net) (k:Int) (i:Nat) (l:Wd) (r:List Wd):goG n k i (l::r)=match lineF n (splitL 32 l) with
 | none=>(n,k,some i)
 | some (n',k')=>if k' < k then (n,k,some i) else goG n' k' (i+1) r:=rfl
def pcTx (p:Pc):Wd:=joinC 32 [sPiece,itoaL p.len,itoaL p.post,if p.back then sDown else sUp]
def lnTx (l:Ln):List Wd:=joinC 32 [sLine,l.name]::l.ps.map pcTx
def swTx (s:Sw):Wd:=joinC 32 [sSwitch,s.name,s.line,itoaL s.metre,s.other,if s.last then sLast else sFirst]
def stTx (s:Stc):Wd:=joinC 32 [sStructure,s.name,s.kind,s.line,itoaL s.fr,itoaL s.till]
def txLines (n:Net):List Wd:=n.lines.flatMap lnTx++n.sws.map swTx++n.sts.map stTx
def printF (n:Net):Wd:=(txLines n).flatMap fun l=>l++[10]
def numOk (x:Int):Prop:=0≤x∧x < 1000000000
structure PrOk (n:Net):Prop where
 line:∀ l ∈ n.lines,nameB l.name=true ∧ ∀ p ∈ l.ps,numOk p.len∧numOk p.post
 sw:∀ s ∈ n.sws,nameB s.name=true∧nameB s.line=true∧numOk s.metre∧nameB s.other=true
 st:∀ s ∈ n.sts,nameB s.name=true∧nameB s.kind=true∧nameB s.line=true∧numOk s.fr∧numOk s.till
theorem join_lines:∀ (L:List Wd) (e:Wd),joinC 10 (L++[e])=L.flatMap (fun l=>l++[10])++e
 | [],e=>rfl
 | l::L,e=>by
   have ih:=join_lines L e
   cases hL:L++[e] with
   | nil=>simp at hL
   | cons b r =>
     rw [List.cons_append,hL]
     show l++10::joinC 10 (b::r)=_
     rw [← hL,ih];simp
def lastW (l:List Wd):Wd:=l.getLast?.getD []
theorem split_snoc (c:Nat) (s:Wd):splitL c s=(splitL c s).dropLast++[lastW (splitL c s)]:=by
 have h:splitL c s ≠ []:=fun e=>by have:=splitL_len c s;rw [e] at this;simp at this
 unfold lastW
 rw [List.getLast?_eq_some_getLast h]
 exact (List.dropLast_concat_getLast h).symm
theorem text_lines (s:Wd):s=(splitL 10 s).dropLast.flatMap (fun l=>l++[10])++lastW (splitL 10 s):=by
 have h:=join_splitL 10 s
 rw [split_snoc,join_lines] at h
 exact h.symm
end Go.Sim

/-
Short forms: parts of moves, their order, composed moves.
-/
namespace Go.Sim
open Go Go.Proofs
set_option maxRecDepth 100000
set_option maxHeartbeats 8000000
theorem ety4:eqType NC.P 100 4=true:=by kernel_rfl
theorem aeq4 (a b:Bool):aeqT NC.P 100 4 (.bool a) (.bool b)=some (a == b):=by cases a<;>cases b<;>kernel_rfl
theorem beq_tt:(true == true)=true:=rfl
theorem beq_tf:(true == false)=false:=rfl
theorem beq_ft:(false == true)=false:=rfl
theorem beq_ff:(false == false)=true:=rfl
attribute [go_sem] ety4 aeq4 beq_tt beq_tf beq_ft beq_ff
end Go.Sim

/-
The plain law of ways: walks over switches, what is cut out of them, and their order.
-/
namespace Go.Sim
structure Leg where
 line:List Nat
 fr:Int
 to:Int
abbrev Pt:Type:=List Nat × Int
section
variable (E:Nat→Bool→Pt) (N:Nat)
end
section
variable (ix:List Nat→Int)
variable {S:List Nat→Prop} (inj:∀ s t,S s→S t→ix s=ix t→s=t)
include inj
end
section
variable (ix:List Nat→Int)
variable {S:List Nat→Prop} (inj:∀ s t,S s→S t→ix s=ix t→s=t)
include inj
end
end Go.Sim

/-
Further facts on the types and the regions of this program (2).
-/
namespace Go.Sim
open Go Go.Proofs
theorem bs_26 (parts:List (Nat × AV)):abuild NC.P 26 parts=match afill (fun i=>fplace 26 i) [.ps .nil [],.ps .nil [],.ps .nil []] parts with
 | some cs=>some (.agg cs)
 | none=>none:=by kernel_rfl
theorem fp_26_0:fplace 26 0=some (0,1):=by kernel_rfl
theorem fp_26_1:fplace 26 1=some (1,1):=by kernel_rfl
theorem fp_26_2:fplace 26 2=some (2,1):=by kernel_rfl
theorem un_399:NC.P.underlying 399=some (.array 20 361):=by kernel_rfl
theorem sz_361:szOf NC.P 361=some 1:=by kernel_rfl
theorem ag_361:aggOf NC.P 361=some false:=by kernel_rfl
theorem ze_400:zeroOf NC.P 400=some (.agg [.int .u8 0,.int .u8 0,.int .u8 0,.int .u8 0,.int .u8 0,.int .u8 0,.int .u8 0,.int .u8 0,.int .u8 0,.int .u8 0,.int .u8 0,.int .u8 0,.int .u8 0,.int .u8 0,.int .u8 0,.int .u8 0,.int .u8 0,.int .u8 0,.int .u8 0,.int .u8 0,.int .u8 0,.int .u8 0,.int .u8 0,.int .u8 0,.int .u8 0,.int .u8 0,.int .u8 0,.int .u8 0,.int .u8 0,.int .u8 0,.int .u8 0,.int .u8 0,.int .u8 0,.int .u8 0,.int .u8 0,.int .u8 0,.int .u8 0,.int .u8 0,.int .u8 0,.int .u8 0,.int .u8 0,.int .u8 0,.int .u8 0,.int .u8 0,.int .u8 0,.int .u8 0,.int .u8 0,.int .u8 0,.int .u8 0,.int .u8 0,.int .u8 0,.int .u8 0,.int .u8 0,.int .u8 0,.int .u8 0,.int .u8 0,.int .u8 0,.int .u8 0,.int .u8 0,.int .u8 0,.int .u8 0,.int .u8 0,.int .u8 0,.int .u8 0,.int .u8 0]):=by kernel_rfl
theorem un_400:NC.P.underlying 400=some (.array 65 5):=by kernel_rfl
theorem un_402:NC.P.underlying 402=some (.array 256 5):=by kernel_rfl
theorem un_405:NC.P.underlying 405=some (.array 16 404):=by kernel_rfl
theorem sz_404:szOf NC.P 404=some 2:=by kernel_rfl
theorem ag_404:aggOf NC.P 404=some true:=by kernel_rfl
theorem ze_404:zeroOf NC.P 404=some (.agg [.int .u8 0,.int .u8 0]):=by kernel_rfl
theorem fa_404_0 (id off:Nat):afieldAddr NC.P 404 (.ptr id off) 0=some (.ptr id (off+0)):=by kernel_rfl
theorem fb_404_0 (cs:List AV):afieldAddr NC.P 404 (.pptr cs) 0=some (.pptr (cs.drop 0)):=by kernel_rfl
theorem fa_404_1 (id off:Nat):afieldAddr NC.P 404 (.ptr id off) 1=some (.ptr id (off+1)):=by kernel_rfl
theorem fb_404_1 (cs:List AV):afieldAddr NC.P 404 (.pptr cs) 1=some (.pptr (cs.drop 1)):=by kernel_rfl
attribute [go_sem] bs_26 fp_26_0 fp_26_1 fp_26_2 un_399 sz_361 ag_361 ze_400 un_400 un_402 un_405 sz_404
attribute [go_sem] ag_404 ze_404 fa_404_0 fb_404_0 fa_404_1 fb_404_1
end Go.Sim

/-
Ways: data; lengths of legs; how routes compare, by the program.
-/
-- INJ Leg.row_iff lgs_iff
namespace Go.Sim
open Go Go.Proofs
set_option maxRecDepth 100000
set_option maxHeartbeats 16000000
def Leg.row (l:Leg):List AV:=[.str l.line,i64 l.fr,i64 l.to]
variable {P:FuncId→Option (List AV→Option AV)}
end Go.Sim

/-
Ways: the best routes to all ends, by the program.
-/
-- INJ Leg.row_iff lgs_iff
namespace Go.Sim
open Go Go.Proofs
set_option maxRecDepth 100000
set_option maxHeartbeats 64000000
variable {P:FuncId→Option (List AV→Option AV)}
/-! ### Sums are small -/
def inR (x:Int):Prop:=0≤x∧x≤800000
end Go.Sim

/-
Ways: what a valid network holds to.
-/
namespace Go.Sim
open Go Go.Proofs
set_option maxRecDepth 100000
set_option maxHeartbeats 4000000
theorem firstI_mem0:∀ {es:List Int},firstI es=0 → ∀ e ∈ es,e=0
 | [],_,e,he=>by cases he
 | x::r,h,e,he=>by
   have h':(if x=0 then firstI r else x)=0:=h
   by_cases hx:x=0
   · rw [if_pos hx] at h'
     rcases List.mem_cons.1 he with rfl | he
     · exact hx
     · exact firstI_mem0 h' e he
   · rw [if_neg hx] at h';exact absurd h' hx
theorem allR_mem0 {f:Nat→Int} {n:Nat} (h:allR f n=0):∀ i,i < n→f i=0:=fun i hi=>firstI_mem0 h _ (List.mem_map.2 ⟨i,List.mem_range.2 hi,rfl⟩)
theorem when_zero {b:Bool} {e:Int} (he:e ≠ 0) (h:whenI b e=0):b=false:=by
 cases b with
 | false=>rfl
 | true=>exact absurd h he
theorem netP_parts {n:Net} (h:netP n=0):linesP n.lines=0∧switchesP n=0:=by
 unfold netP at h
 by_cases hl:linesP n.lines=0
 · rw [if_pos hl] at h
   exact ⟨hl,firstI_mem0 h _ (by simp)⟩
 · rw [if_neg hl] at h;exact absurd h hl
theorem line_zero {ls:List Ln} (h:linesP ls=0):∀ i l,ls[i]? = some l→dupP ((ls.take i).map Ln.name) l.name=false∧0 < l.ps.length∧l.ps.length≤8 ∧ ∀ p ∈ l.ps,1≤p.len∧p.len≤100000:=by
 intro i l hl
 unfold linesP at h
 split at h
 · cases h
 have hi:=(List.getElem?_eq_some_iff.1 hl).1
 have h1:=allR_mem0 h i hi
 unfold lineP at h1
 rw [hl] at h1
 simp only [] at h1
 split at h1
 · rename_i h2
   have z:=firstI_mem0 h2
   have z1:=when_zero (by decide) (z _ (List.mem_cons_of_mem _ (List.mem_cons_self ..)))
   have z2:=when_zero (by decide) (z _ (List.mem_cons_of_mem _ (List.mem_cons_of_mem _ (List.mem_cons_self ..))))
   have z3:=when_zero (by decide) (z _ (List.mem_cons_of_mem _ (List.mem_cons_of_mem _ (List.mem_cons_of_mem _ (List.mem_cons_self ..)))))
   simp only [decide_eq_false_iff_not] at z2 z3
   refine ⟨z1,by omega,by omega,fun p hp => ?_⟩
   have z4:=firstI_mem0 (firstI_mem0 h1 _ (List.mem_map.2 ⟨p,hp,rfl⟩)) (rangeI p.len 1 100000) (by simp)
   have z5:=when_zero (by decide) z4
   simp only [Bool.or_eq_false_iff,decide_eq_false_iff_not] at z5
   omega
 · rename_i h2;exact absurd h1 h2
theorem sumW_le:∀ {ps:List Pc} {s:Int},(∀ p ∈ ps,1≤p.len∧p.len≤100000)→0≤s→s+100000 * ps.length≤800000→s+ps.length≤sumW ps s∧sumW ps s≤800000
 | [],s,_,_,_=>by simp [sumW];omega
 | p::r,s,h,h0,h8=>by
   have hp:=h p (by simp)
   have hc:((p::r).length:Int)=(r.length:Int)+1:=by simp
   rw [hc] at h8 ⊢
   have e:wrapq .i64 (Int.add s p.len)=s+p.len:=wrapq_i64 (by show _≤s+p.len;omega) (by show s+p.len≤_;omega)
   show _≤sumW r (wrapq .i64 (Int.add s p.len))∧sumW r (wrapq .i64 (Int.add s p.len))≤_
   rw [e]
   have:=sumW_le (ps:=r) (s:=s+p.len) (fun q hq=>h q (by simp [hq])) (by omega) (by omega)
   omega
theorem lnB_some {ls:List Ln} {s:List Nat} (h:lnB ls s=true):∃ i l,findL ls s=some i∧ls[i]? = some l∧l ∈ ls∧lnOf ls s=l:=by
 unfold lnB at h
 cases hf:findL ls s with
 | none=>rw [hf] at h;cases h
 | some i =>
   obtain ⟨l,h1,h2,h3⟩:=findL_at hf
   refine ⟨i,l,rfl,h1,h3, ?_⟩
   unfold lnOf
   rw [hf]
   simp [h1]
theorem len_in {n:Net} (h:netP n=0) {s:List Nat} (hb:lnB n.lines s=true):1≤sumW (lnOf n.lines s).ps 0∧sumW (lnOf n.lines s).ps 0≤800000:=by
 obtain ⟨i,l,h1,h2,h3,h4⟩:=lnB_some hb
 rw [h4]
 obtain ⟨_,z2,z3,z4⟩:=line_zero (netP_parts h).1 i l h2
 have:=sumW_le (ps:=l.ps) (s:=0) z4 (by omega) (by omega)
 omega
theorem has_in {n:Net} (h:netP n=0) {s:List Nat} {m:Int} (hb:lnB n.lines s=true) (hm:hasB (lnOf n.lines s) m=true):inR m:=by
 have:=len_in h hb
 unfold hasB at hm
 simp only [Bool.and_eq_true,Bool.not_eq_true',decide_eq_false_iff_not,decide_eq_true_eq] at hm
 exact ⟨by omega,by omega⟩
theorem sw_zero {n:Net} (h:netP n=0):∀ s ∈ n.sws,lnB n.lines s.line=true∧hasB (lnOf n.lines s.line) s.metre=true∧lnB n.lines s.other=true∧beqL s.line s.other=false:=by
 intro s hs
 obtain ⟨i,hi⟩:=List.getElem?_of_mem hs
 have h2:=(netP_parts h).2
 unfold switchesP at h2
 split at h2
 · cases h2
 have h1:=allR_mem0 h2 i (List.getElem?_eq_some_iff.1 hi).1
 unfold switchP at h1
 rw [hi] at h1
 simp only [] at h1
 have z:=firstI_mem0 h1
 have z1:=when_zero (by decide) (z (whenI (!lnB n.lines s.line) 10) (by simp))
 have z2:=when_zero (by decide) (z (whenI (!hasB (lnOf n.lines s.line) s.metre) 14) (by simp))
 have z3:=when_zero (by decide) (z (whenI (!lnB n.lines s.other) 10) (by simp))
 have z4:=when_zero (by decide) (z (whenI (beqL s.line s.other) 24) (by simp))
 simp only [Bool.not_eq_false'] at z1 z2 z3
 exact ⟨z1,z2,z3,z4⟩
end Go.Sim

/-
Texts: the plain law: a text as a whole.
-/
namespace Go.Sim
open Go Go.Proofs
theorem line_name {ls:List Ln} (h:linesP ls=0):∀ l ∈ ls,nameB l.name=true ∧ ∀ p ∈ l.ps,numOk p.len∧numOk p.post:=by
 intro l hmem
 obtain ⟨i,hl⟩:=List.getElem?_of_mem hmem
 unfold linesP at h
 split at h
 · cases h
 have hi:=(List.getElem?_eq_some_iff.1 hl).1
 have h1:=allR_mem0 h i hi
 unfold lineP at h1
 rw [hl] at h1
 simp only [] at h1
 split at h1
 · rename_i h2
   have z:=firstI_mem0 h2
   have z0:=when_zero (by decide) (z _ (List.mem_cons_self ..))
   simp only [Bool.not_eq_false'] at z0
   refine ⟨z0,fun p hp => ?_⟩
   have zz:=firstI_mem0 (firstI_mem0 h1 _ (List.mem_map.2 ⟨p,hp,rfl⟩))
   have z4:=when_zero (by decide) (zz (rangeI p.len 1 100000) (by simp))
   have z5:=when_zero (by decide) (zz (rangeI p.post 0 9999999) (by simp))
   simp only [Bool.or_eq_false_iff,decide_eq_false_iff_not] at z4 z5
   unfold numOk
   omega
 · rename_i h2;exact absurd h1 h2
theorem lnB_name {n:Net} (h:netP n=0) {s:Wd} (hb:lnB n.lines s=true):nameB s=true:=by
 unfold lnB at hb
 cases hf:findL n.lines s with
 | none=>rw [hf] at hb;cases hb
 | some i =>
   unfold findL at hf
   rw [List.findIdx?_eq_some_iff_getElem] at hf
   obtain ⟨hlt,h6,_⟩:=hf
   have e:=(beqL_iff _ _).1 h6
   rw [← e]
   exact (line_name (netP_parts h).1 _ (List.getElem_mem hlt)).1
theorem sw_name {n:Net} (h:netP n=0):∀ s ∈ n.sws,nameB s.name=true:=by
 intro s hs
 obtain ⟨i,hi⟩:=List.getElem?_of_mem hs
 have h2:=(netP_parts h).2
 unfold switchesP at h2
 split at h2
 · cases h2
 have h1:=allR_mem0 h2 i (List.getElem?_eq_some_iff.1 hi).1
 unfold switchP at h1
 rw [hi] at h1
 simp only [] at h1
 have z1:=when_zero (by decide) (firstI_mem0 h1 _ (List.mem_cons_self ..))
 simpa using z1
theorem st_part {n:Net} (h:netP n=0):∀ s ∈ n.sts,nameB s.name=true∧nameB s.kind=true∧lnB n.lines s.line=true∧spanB (lnOf n.lines s.line) s.fr s.till=false:=by
 intro s hs
 obtain ⟨i,hi⟩:=List.getElem?_of_mem hs
 have h2:structsP n=0:=by
  unfold netP at h
  by_cases hl:linesP n.lines=0
  · rw [if_pos hl] at h
    exact firstI_mem0 h _ (by simp)
  · rw [if_neg hl] at h;exact absurd h hl
 unfold structsP at h2
 split at h2
 · cases h2
 have h1:=allR_mem0 h2 i (List.getElem?_eq_some_iff.1 hi).1
 unfold structP at h1
 rw [hi] at h1
 simp only [] at h1
 have z:=firstI_mem0 h1
 have z1:=when_zero (by decide) (z _ (List.mem_cons_self ..))
 have z2:=when_zero (by decide) (z (whenI (!nameB s.kind) 13) (by simp))
 have z3:=when_zero (by decide) (z (whenI (!lnB n.lines s.line) 10) (by simp))
 have z4:=when_zero (by decide) (z (whenI (spanB (lnOf n.lines s.line) s.fr s.till) 14) (by simp))
 simp only [Bool.not_eq_false'] at z1 z2 z3
 exact ⟨z1,z2,z3,z4⟩
theorem prOk {n:Net} (h:netP n=0):PrOk n where
 line:=line_name (netP_parts h).1
 sw:=fun s hs=>by
  obtain ⟨z1,z2,z3,_⟩:=sw_zero h s hs
  have hr:=has_in h z1 z2
  unfold inR at hr
  exact ⟨sw_name h s hs,lnB_name h z1,⟨by omega,by omega⟩,lnB_name h z3⟩
 st:=fun s hs=>by
  obtain ⟨z1,z2,z3,z4⟩:=st_part h s hs
  have hl:=len_in h z3
  unfold spanB hasB at z4
  simp only [Bool.or_eq_false_iff,Bool.not_eq_false',Bool.and_eq_true,Bool.not_eq_true',decide_eq_false_iff_not,decide_eq_true_eq] at z4
  exact ⟨z1,z2,lnB_name h z3,⟨by omega,by omega⟩,⟨by omega,by omega⟩⟩
/-! ### Bytes -/
def byteW (w:Wd):Prop:=∀ c ∈ w,c < 256
theorem byte_join:∀ {ws:List Wd},(∀ w ∈ ws,byteW w)→byteW (joinC 32 ws)
 | [],_=>fun c hc=>by cases hc
 | [w],h=>h w (by simp)
 | w::v::r,h=>by
   have ih:=byte_join (ws:=v::r) (fun u hu=>h u (by simp [hu]))
   intro c hc
   have hc:c ∈ w++32::joinC 32 (v::r):=hc
   rcases List.mem_append.1 hc with hc | hc
   · exact h w (by simp) c hc
   · rcases List.mem_cons.1 hc with rfl | hc
     · decide
     · exact ih c hc
theorem byte_name {w:Wd} (h:nameB w=true):byteW w:=by
 cases w with
 | nil=>cases h
 | cons c r =>
   unfold nameB at h
   simp only [Bool.and_eq_true,decide_eq_true_eq,List.all_eq_true] at h
   obtain ⟨⟨_,h2⟩,h3⟩:=h
   have hi:∀ x:Nat,restB (x:Int)=true→x < 256:=by
    intro x hx
    unfold restB letB digB at hx
    simp only [Bool.or_eq_true,Bool.and_eq_true,Bool.not_eq_true',decide_eq_false_iff_not,decide_eq_true_eq] at hx
    omega
   intro x hx
   rcases List.mem_cons.1 hx with rfl | hx
   · exact hi _ (by unfold restB;rw [h2];rfl)
   · exact hi _ (h3 x hx)
theorem byte_itoa {n:Int} (h:numOk n):byteW (itoaL n):=by
 obtain ⟨m,rfl⟩:∃ m:Nat,n=(m:Int):=⟨n.toNat,by have:=h.1;omega⟩
 rw [itoaL_nat]
 have hn:=h.2
 have h:=itoaN_ok 19 m (by have:(1000000000:Nat)≤10 ^ (19+1):=by decide
                           omega)
 have hd:=h.dig
 unfold digsB at hd
 rw [List.all_eq_true] at hd
 intro c hc
 have:=(digB_iff _).1 (hd c hc)
 omega
theorem tx_byte {n:Net} (h:PrOk n):∀ l ∈ txLines n,byteW l:=by
 have lit:∀ w ∈ [sLine,sPiece,sSwitch,sStructure,sUp,sDown,sFirst,sLast],byteW w:=by
  intro w hw c hc
  simp only [List.mem_cons,List.not_mem_nil,or_false] at hw
  rcases hw with rfl | rfl | rfl | rfl | rfl | rfl | rfl | rfl<;>revert c hc<;>decide
 intro l hl
 unfold txLines at hl
 rw [List.mem_append,List.mem_append] at hl
 rcases hl with (hl | hl) | hl
 · obtain ⟨x,hx,hl⟩:=List.mem_flatMap.1 hl
   rcases List.mem_cons.1 hl with rfl | hl
   · refine byte_join fun w hw => ?_
     simp only [List.mem_cons,List.not_mem_nil,or_false] at hw
     rcases hw with rfl | rfl
     · exact lit _ (by simp)
     · exact byte_name (h.line x hx).1
   · obtain ⟨p,hp,rfl⟩:=List.mem_map.1 hl
     have hn:=(h.line x hx).2 p hp
     refine byte_join fun w hw => ?_
     simp only [List.mem_cons,List.not_mem_nil,or_false] at hw
     rcases hw with rfl | rfl | rfl | rfl
     · exact lit _ (by simp)
     · exact byte_itoa hn.1
     · exact byte_itoa hn.2
     · split<;>exact lit _ (by simp)
 · obtain ⟨x,hx,rfl⟩:=List.mem_map.1 hl
   have hs:=h.sw x hx
   refine byte_join fun w hw => ?_
   simp only [List.mem_cons,List.not_mem_nil,or_false] at hw
   rcases hw with rfl | rfl | rfl | rfl | rfl | rfl
   · exact lit _ (by simp)
   · exact byte_name hs.1
   · exact byte_name hs.2.1
   · exact byte_itoa hs.2.2.1
   · exact byte_name hs.2.2.2
   · split<;>exact lit _ (by simp)
 · obtain ⟨x,hx,rfl⟩:=List.mem_map.1 hl
   have hs:=h.st x hx
   refine byte_join fun w hw => ?_
   simp only [List.mem_cons,List.not_mem_nil,or_false] at hw
   rcases hw with rfl | rfl | rfl | rfl | rfl | rfl
   · exact lit _ (by simp)
   · exact byte_name hs.1
   · exact byte_name hs.2.1
   · exact byte_name hs.2.2.1
   · exact byte_itoa hs.2.2.2.1
   · exact byte_itoa hs.2.2.2.2
theorem printF_byte {n:Net} (h:PrOk n):∀ c ∈ printF n,c < 256:=by
 intro c hc
 unfold printF at hc
 obtain ⟨l,hl,hc⟩:=List.mem_flatMap.1 hc
 rcases List.mem_append.1 hc with hc | hc
 · exact tx_byte h l hl c hc
 · have:c=10:=by simpa using hc
   rw [this];decide
/-! ### A text as a whole -/
def partS (s:Wd):List Wd:=(splitL 10 s).dropLast
def parseF (s:Wd):Net × Int × Int :=
 if (4096:Int) < s.length then (zNet,0,26)
 else match (goG zNet 0 0 (partS s)).2.2 with
  | some i=>(zNet,(i:Int),25)
  | none=>if lastW (splitL 10 s) ≠ [] then (zNet,((partS s).length:Nat),25)
    else if netP (goG zNet 0 0 (partS s)).1=0 then ((goG zNet 0 0 (partS s)).1,0,0) else (zNet,((partS s).length:Nat),netP (goG zNet 0 0 (partS s)).1)
theorem partS_len (s:Wd):(splitL 10 s).length=(partS s).length+1:=by
 have:=splitL_len 10 s
 unfold partS
 rw [List.length_dropLast];omega
theorem txLines_length (n:Net):(txLines n).length=n.lines.length+(n.lines.map fun l=>l.ps.length).sum+n.sws.length+n.sts.length:=by
 unfold txLines
 rw [List.length_append,List.length_append,List.length_map,List.length_map]
 have:(n.lines.flatMap lnTx).length=n.lines.length+(n.lines.map fun l=>l.ps.length).sum:=by
  generalize n.lines=ls
  induction ls with
  | nil=>rfl
  | cons l r ih =>
    rw [List.flatMap_cons,List.length_append,ih]
    simp only [lnTx,List.length_cons,List.length_map,List.map_cons,List.sum_cons]
    omega
 omega
end Go.Sim

/-
Texts: printing, by the program.
-/
namespace Go.Sim
open Go Go.Proofs
set_option maxRecDepth 100000
set_option maxHeartbeats 16000000
variable {P:FuncId→Option (List AV→Option AV)}
/-! ### The library's functions -/
theorem en160 {lo:Nat} {rec:Rec} {args:List AV} {H:Heap} {K:AV→Heap→Prop}:VO (aenter (NC.withPrims P) rec lo 160 args H) K=AO (pJoin args) fun v=>K v H:=by
 refine enter_prim rfl ?_
 show (match NC.prim 160 with | some p=>some p | none=>P 160)=some pJoin
 have:NC.prim 160=some pJoin:=by kernel_rfl
 rw [this]
theorem en161 {lo:Nat} {rec:Rec} {args:List AV} {H:Heap} {K:AV→Heap→Prop}:VO (aenter (NC.withPrims P) rec lo 161 args H) K=AO (pItoa args) fun v=>K v H:=by
 refine enter_prim rfl ?_
 show (match NC.prim 161 with | some p=>some p | none=>P 161)=some pItoa
 have:NC.prim 161=some pItoa:=by kernel_rfl
 rw [this]
theorem enH {f:FuncId} {p:Nat→List AV→Heap→Option (AV × Heap)} (h1:NC.prim f=none) (h2:NC.hprim f=some p) (h:P f=none) {lo:Nat} {rec:Rec} {args:List AV} {H:Heap} {K:AV→Heap→Prop}:VO (aenter (NC.withPrims P) rec lo f args H) K=VO (p lo args H) K:=by
 have hm:(NC.withPrims P).memo f args=none:=rfl
 have hp:(NC.withPrims P).prim f=none:=by
  show (match NC.prim f with | some p=>some p | none=>P f)=none
  rw [h1];exact h
 have hh:(NC.withPrims P).hprim f=some p:=h2
 unfold aenter
 simp only [hm,hp,hh]
theorem en209 (h:P 209=none) {lo:Nat} {rec:Rec} {args:List AV} {H:Heap} {K:AV→Heap→Prop}:VO (aenter (NC.withPrims P) rec lo 209 args H) K=VO (hCopyCheck 272 lo args H) K:=enH (by kernel_rfl) (by kernel_rfl) h
theorem en163 (h:P 163=none) {lo:Nat} {rec:Rec} {args:List AV} {H:Heap} {K:AV→Heap→Prop}:VO (aenter (NC.withPrims P) rec lo 163 args H) K=VO (hString 272 5 lo args H) K:=enH (by kernel_rfl) (by kernel_rfl) h
theorem en158 {P:FuncId→Option (List AV→Option AV)} (hP:P 158=none) {lo:Nat} {args:List AV} {H:Heap} {K:AV→Heap→Prop}:VO (aenter (NC.withPrims P) (R (NC.withPrims P)) lo 158 args H) K=AO (R (NC.withPrims P) (.call lo 158 args H)) fun o=>K o.val o.s.H:=by
 refine enter_free rfl ?_ (by kernel_rfl) (by kernel_rfl) (by kernel_rfl)
 show (match NC.prim 158 with | some p=>some p | none=>P 158)=none
 rw [hP];kernel_rfl
theorem en159 {P:FuncId→Option (List AV→Option AV)} (hP:P 159=none) {lo:Nat} {args:List AV} {H:Heap} {K:AV→Heap→Prop}:VO (aenter (NC.withPrims P) (R (NC.withPrims P)) lo 159 args H) K=AO (R (NC.withPrims P) (.call lo 159 args H)) fun o=>K o.val o.s.H:=by
 refine enter_free rfl ?_ (by kernel_rfl) (by kernel_rfl) (by kernel_rfl)
 show (match NC.prim 159 with | some p=>some p | none=>P 159)=none
 rw [hP];kernel_rfl
theorem itoa_is {x:Int} (h:numOk x):pItoa [.int .i64 x]=some (.str (itoaL x)):=by
 unfold pItoa
 simp only
 rw [if_pos ⟨by have:=h.1;omega,by have:=h.2;omega⟩]
theorem strsOf_map:∀ l:List Wd,strsOf (l.map strRow)=some l
 | []=>rfl
 | w::r=>by
   show (match strsOf (r.map strRow) with
    | some l=>some (w::l)
    | none=>none)=_
   rw [strsOf_map r]
theorem joinL_eq32:∀ l:List Wd,joinL [32] l=joinC 32 l
 | []=>rfl
 | [w]=>by simp [joinL,joinC]
 | w::v::r=>by
   have ih:=joinL_eq32 (v::r)
   show w++(([32]++v)++((r.map ([32] ++ ·)).flatten))=w++32::joinC 32 (v::r)
   rw [← ih]
   simp [joinL]
theorem join_is {l:List Wd} (h1:(joinC 32 l).length≤maxRows) (h2:l.length≤maxRows):pJoin [.ps .unk (l.map strRow),.str [32]]=some (.str (joinC 32 l)):=by
 unfold pJoin
 simp only [strsOf_map]
 rw [joinL_eq32,if_pos ⟨h1,by simpa using h2⟩]
/-! ### The builder -/
def byR (s:Wd):List (List AV):=s.map fun n=>[AV.int .u8 (n:Nat)]
theorem byR_app (a b:Wd):byR (a++b)=byR a++byR b:=by simp [byR]
def Bld (H:Heap) (b:Nat) (s:Wd):Prop:=∃ a t,H.get b=.cells [a,.ps t (byR s)] 272∧(a=.nilp∨a=.ptr b 0)∧App H t (byR s) 1 5
theorem app_many {H:Heap} {t:Tok} {rows:List (List AV)} {sz:Nat} {e:TypeId} (h:App H t rows sz e) {rx:List (List AV)} (h0:rx ≠ []) (h1:rows.length+rx.length≤maxRows) (h2:rx.all pureRow=true) (h3:0 < sz) (h4:rows.all (fun r=>r.length=sz)=true) :
 ∃ t' H',appP 0 H sz e (.ps t rows) rx=some (.ps t' (rows++rx.map (List.map AV.strip0)),H')∧App H' t' (rows++rx.map (List.map AV.strip0)) sz e∧H.n≤H'.n∧(∀ i c u,i < H.n→H.get i=.cells c u→H'.get i=.cells c u):=by
 rcases h with ⟨rfl,rfl⟩ | ⟨j,rfl,h6,h7,h8⟩
 · refine ⟨.tok H.n,H.push (.row [] sz e),app_first h0 (by simpa using h1) h2 h3,.inr ⟨H.n,rfl,by simpa using h0,by simp,by rw [Heap.get_push,if_pos rfl]⟩,by simp,fun i c u hi hc => ?_⟩
   rw [Heap.get_push,if_neg (by omega)];exact hc
 · refine ⟨.tok H.n,(H.set j .dead).push (.row [] sz e),app_next h0 h1 h2 h3 h4 h8 (Nat.zero_le _) h6,.inr ⟨H.n,rfl,by simp [h6],by simp,by rw [Heap.get_push,if_pos (by simp)]⟩,by simp,fun i c u hi hc => ?_⟩
   rw [Heap.get_push,if_neg (by simp;omega),Heap.get_set,if_neg (fun he=>by rw [he,h8] at hc;cases hc)];exact hc
theorem un5n:isIntT .string=false:=rfl
theorem rows_str (H:Heap) (s:Wd):rowsIn H 1 (.str s)=some (byR s):=rfl
theorem byR_pure (s:Wd):(byR s).all pureRow=true:=by
 unfold byR
 rw [List.all_eq_true]
 intro r hr
 obtain ⟨x,_,rfl⟩:=List.mem_map.1 hr
 rfl
theorem byR_all (s:Wd):(byR s).all (fun r=>decide (r.length=1))=true:=by
 unfold byR
 rw [List.all_eq_true]
 intro r hr
 obtain ⟨x,_,rfl⟩:=List.mem_map.1 hr
 rfl
theorem byR_strip (s:Wd):(byR s).map (List.map AV.strip0)=byR s:=by
 unfold byR
 rw [List.map_map]
 rfl
theorem byR_len (s:Wd):(byR s).length=s.length:=by unfold byR;simp
theorem r159 (h209:P 209=none) {b:Nat} {H:Heap} {s x:Wd} (hbn:b < H.n) (hb:Bld H b s) (hx:x ≠ []) (hl:s.length+x.length≤maxRows):∃ v H',R (NC.withPrims P) (.call 0 159 [.ptr b 0,.str x] H)=some (.ofVal v H')∧Bld H' b (s++x)∧H.n≤H'.n∧(∀ i c u,i < H.n→i ≠ b→H.get i=.cells c u→H'.get i=.cells c u):=by
 refine R_of_body (C:=NC.withPrims P) (f:=159) (lo:=0) (args:=[.ptr b 0,.str x]) (H:=H) (fn:=Tryz.f159) (Q:=fun v H'=>Bld H' b (s++x)∧H.n≤H'.n∧(∀ i c u,i < H.n→i ≠ b→H.get i=.cells c u→H'.get i=.cells c u)) (by kernel_rfl) Tryz.func159 rfl rfl ?_
 obtain ⟨a,t,h1,h2,h3⟩:=hb
 obtain ⟨Hc,cc,c1,c2,c3,c4⟩:∃ Hc,hCopyCheck 272 0 [.ptr b 0] H=some (.tup [],Hc)∧Hc.get b=.cells [.ptr b 0,.ps t (byR s)] 272∧App Hc t (byR s) 1 5∧Hc.n=H.n ∧ ∀ i,i ≠ b→Hc.get i=H.get i:=by
  rcases h2 with rfl | rfl
  · refine ⟨H.set b (.cells [.ptr b 0,.ps t (byR s)] 272), ?_,by rw [Heap.get_set,if_pos rfl],h3.set _ (by rw [h1];simp),by simp,fun i hi=>by rw [Heap.get_set,if_neg hi]⟩
    unfold hCopyCheck
    simp [h1]
  · refine ⟨H, ?_,h1,h3,rfl,fun _ _=>rfl⟩
    unfold hCopyCheck
    simp [h1]
 obtain ⟨t',H1,ha,hA,hn1,hc1⟩:=app_many c2 (rx:=byR x) (by unfold byR;simpa using hx) (by rw [byR_len,byR_len];exact hl) (byR_pure x) (by decide) (byR_all s)
 rw [byR_strip,← byR_app] at ha hA
 have ha:appP 0 Hc 1 5 (.ps t (byR s)) (x.map fun (b:Nat)=>[AV.int .u8 (b:Int)])=_:=ha
 have g1:=hc1 b _ _ (by omega) c1
 have hxl:(x.length:Int)=(x.length:Int):=rfl
 simp only [go_sem,reduceIte,reduceEqDiff,reduceAdd,reduceMul,reduceSub,reduceLeDiff,reduceLT,Nat.reduceBEq,reduceCtorEq,en209 h209,cc,c1,appO,un5n,rows_str,ha,g1]
 refine ⟨⟨_,t',by rw [Heap.get_set,if_pos rfl],.inr rfl,hA.set _ (by rw [g1];simp)⟩,by omega,fun i c u hi hne hc => ?_⟩
 rw [if_neg hne]
 exact hc1 i c u (by omega) (by rw [c4 i hne];exact hc)
theorem r158 (h209:P 209=none) (h159:P 159=none) {b:Nat} {H:Heap} {s:Wd} {ws:List Wd} (hbn:b < H.n) (hb:Bld H b s) (hw:ws.length≤maxRows) (hl:s.length+((joinC 32 ws).length+1)≤maxRows):∃ v H',R (NC.withPrims P) (.call 0 158 [.ps .unk (ws.map strRow),.ptr b 0] H)=some (.ofVal v H')∧Bld H' b (s++(joinC 32 ws++[10]))∧H.n≤H'.n∧(∀ i c u,i < H.n→i ≠ b→H.get i=.cells c u→H'.get i=.cells c u):=by
 refine R_of_body (C:=NC.withPrims P) (f:=158) (lo:=0) (args:=[.ps .unk (ws.map strRow),.ptr b 0]) (H:=H) (fn:=Tryz.f158) (Q:=fun v H'=>Bld H' b (s++(joinC 32 ws++[10]))∧H.n≤H'.n∧(∀ i c u,i < H.n→i ≠ b→H.get i=.cells c u→H'.get i=.cells c u)) (by kernel_rfl) Tryz.func158 rfl rfl ?_
 have hj:=join_is (l:=ws) (by omega) hw
 obtain ⟨v,H',h1,h2,h3,h4⟩:=r159 (P:=P) h209 hbn hb (x:=joinC 32 ws++[10]) (by simp) (by simp;omega)
 have hadd:(joinC 32 ws).length+1≤9223372036854775807:=by unfold maxRows at hl;omega
 simp only [go_sem,reduceIte,reduceEqDiff,reduceAdd,reduceMul,reduceSub,reduceLeDiff,reduceLT,Nat.reduceBEq,reduceCtorEq,en160,hj,hadd,en159 h159,h1,ofVal_v,ofVal_H]
 exact ⟨h2,h3,h4⟩
/-! ### Words -/
noncomputable def PPF162:FuncId→Option (List AV→Option AV):=fun _=>none
theorem primsF162:PrimsOk NC PPF162:=primsOk_none
theorem c162 (a b:List Nat) (k:Bool):∀ lo H,CallOk NC lo 162 [.agg [.str a,.str b],.bool k] H (.str (if k then b else a)) H:=by
 refine contract saneNC primsF162 (fn:=Tryz.f162) (by kernel_rfl) Tryz.func162 rfl rfl (by rfl) (by first | rfl | (split<;>first | rfl | (split<;>rfl))) ?_
 cases k<;>simp only [go_sem,reduceIte,reduceEqDiff,reduceAdd,reduceMul,reduceSub,reduceLeDiff,reduceLT,Nat.reduceBEq,reduceCtorEq]
noncomputable def p162:List AV→Option AV:=primOf (α:=(List Nat) × (List Nat) × (Bool)) (fun x=>[.agg [.str x.1,.str x.2.1],.bool x.2.2]) (fun x=>True) (fun x=>.str (if x.2.2 then x.2.1 else x.1))
theorem pok162:∀ args v,p162 args=some v → ∀ lo H,CallOk NC lo 162 args H v H:=by
 intro args v h
 obtain ⟨x,rfl,hp,rfl⟩:=primOf_inv h
 exact c162 x.1 x.2.1 x.2.2
theorem pe162 (a b:List Nat) (k:Bool):p162 [.agg [.str a,.str b],.bool k]=some (.str (if k then b else a)):=primOf_enc (α:=(List Nat) × (List Nat) × (Bool)) (enc:=fun x=>[.agg [.str x.1,.str x.2.1],.bool x.2.2]) (pre:=fun x=>True) (spec:=fun x=>.str (if x.2.2 then x.2.1 else x.1)) (by intro x y h;(simp only [List.cons.injEq,AV.agg.injEq,AV.str.injEq,AV.int.injEq,AV.ps.injEq,AV.bool.injEq,Net.cells_iff,Ln.row_iff,Pc.row_iff,Mv.row_iff,lns_iff,pcs_iff,mvs_iff,true_and,and_true] at h;first | simpa only [Prod.ext_iff] using h | simpa only [Prod.ext_iff,and_assoc] using h)) (a,b,k) trivial
theorem kLine {C:Cfg} {T:TT AV}:evalO C T (.const (.string { data:=#[108,105,110,101] }))=some (.str sLine):=rfl
theorem kPiece {C:Cfg} {T:TT AV}:evalO C T (.const (.string { data:=#[112,105,101,99,101] }))=some (.str sPiece):=rfl
theorem kSwitch {C:Cfg} {T:TT AV}:evalO C T (.const (.string { data:=#[115,119,105,116,99,104] }))=some (.str sSwitch):=rfl
theorem kStructure {C:Cfg} {T:TT AV}:evalO C T (.const (.string { data:=#[115,116,114,117,99,116,117,114,101] }))=some (.str sStructure):=rfl
attribute [go_sem] kLine kPiece kSwitch kStructure
theorem glob0 {T:TT AV}:evalO (NC.withPrims P) T (.global 0)=some (.pptr [.str sUp,.str sDown]):=by kernel_rfl
theorem glob1 {T:TT AV}:evalO (NC.withPrims P) T (.global 1)=some (.pptr [.str sFirst,.str sLast]):=by kernel_rfl
attribute [go_sem] glob0 glob1
end Go.Sim

/-
Texts: Print, by the program.
-/
namespace Go.Sim
open Go Go.Proofs
set_option maxRecDepth 100000
set_option maxHeartbeats 64000000
def cat (L:List Wd):Wd:=L.flatMap fun l=>l++[10]
theorem cat_app (a b:List Wd):cat (a++b)=cat a++cat b:=by unfold cat;rw [List.flatMap_append]
theorem cat_one (l:Wd):cat [l]=l++[10]:=by unfold cat;simp
theorem cat_cons (x:Wd) (l:List Wd):cat (x::l)=(x++[10])++cat l:=rfl
theorem cat_sub {a b:List Wd} (h:a.Sublist b):(cat a).length≤(cat b).length:=by
 induction h with
 | slnil=>exact Nat.le_refl _
 | cons x _ ih =>
   rw [cat_cons,List.length_append];omega
 | cons_cons x _ ih =>
   simp only [cat_cons,List.length_append]
   omega
theorem take_flat {α β:Type} {f:α→List β} {l:List α} {k:Nat} {x:α} (h:l[k]? = some x):(l.take (k+1)).flatMap f=(l.take k).flatMap f++f x:=by
 rw [List.take_add_one,h,List.flatMap_append];simp
theorem take_flat_sub {α β:Type} (f:α→List β) (l:List α) (k:Nat):((l.take k).flatMap f).Sublist (l.flatMap f):=by
 conv=>rhs;rw [← List.take_append_drop k l]
 rw [List.flatMap_append]
 exact List.sublist_append_left _ _
noncomputable def PPF87:FuncId→Option (List AV→Option AV):=addPrim 162 p162 (addPrim 29 p29 (fun _=>none))
theorem primsF87:PrimsOk NC PPF87:=primsOk_add (primsOk_add (primsOk_none) (by kernel_rfl) (by kernel_rfl) pok29) (by kernel_rfl) (by kernel_rfl) pok162
theorem enF87_29:En PPF87 29 p29:=enter_prim (by rfl) (by kernel_rfl)
theorem enF87_162:En PPF87 162 p162:=enter_prim (by rfl) (by kernel_rfl)
attribute [go_sem ↓] enF87_29 enF87_162
theorem c87 (n:Net) (hn:n.Ok) (hlen:netP n=0→(printF n).length≤maxRows):∀ lo H,CallOk NC lo 87 [.agg n.cells] H (.tup [.str (if netP n=0 then printF n else []),i64 (netP n)]) H:=by
 refine contract saneNC primsF87 (fn:=Tryz.f87) (by kernel_rfl) Tryz.func87 rfl rfl (by rfl) rfl ?_
 have e29:=pe29 n hn
 simp only [Net.cells,i64] at e29
 rcases Classical.propComplete (netP n=0) with z | z
 case inr =>
  rw [if_neg (by rw [z];exact id)]
  simp only [go_sem,reduceIte,reduceEqDiff,reduceAdd,reduceMul,reduceSub,reduceLeDiff,reduceLT,Nat.reduceBEq,reduceCtorEq,Net.cells,e29,z]
 have hz:=of_eq_true z
 have hpr:=prOk hz
 have hlen:=hlen hz
 rw [if_pos hz]
 rw [hz] at e29 ⊢
 have h209:PPF87 209=none:=rfl
 have h159:PPF87 159=none:=rfl
 have h158:PPF87 158=none:=rfl
 have h163:PPF87 163=none:=rfl
 simp only [go_sem,reduceIte,reduceEqDiff,reduceAdd,reduceMul,reduceSub,reduceLeDiff,reduceLT,Nat.reduceBEq,reduceCtorEq,Net.cells,e29]
 refine W_for (fun k T H M=>M=[]∧getT T 1=.ptr 0 0∧getT T 5=.ptr 1 0∧getT T 6=.fn 158 [] [.ptr 1 0]∧getT T 22=.ps .unk (n.lines.map Ln.row)∧getT T 23=i64 (n.lines.length:Nat)∧getT T 24=i64 k∧1 < H.n∧H.get 0=.cells n.cells 40∧Bld H 1 (cat ((n.lines.take k).flatMap lnTx))) n.lines.length ?_ ?_ ?_
 · simp only [go_sem,reduceIte,reduceEqDiff,reduceAdd,reduceMul,reduceSub,reduceLeDiff,reduceLT,Nat.reduceBEq,reduceCtorEq,Net.cells,List.length_map]
   exact ⟨_,.nil,rfl,.inl rfl,.inl ⟨rfl,rfl⟩⟩
 · rintro k T H M hk ⟨rfl,g1,g5,g6,g22,g23,g24,hn1,h0,hB⟩
   obtain ⟨l,hp⟩:∃ p,n.lines[k]? = some p:=⟨n.lines[k],by simp⟩
   have hmem:=List.mem_of_getElem? hp
   have hfit:=(hn.line l hmem).2
   have hlp:=hpr.line l hmem
   have hr:=map_at (f:=Ln.row) hp
   have hw:=wrap_succ hk hn.lines
   have htk:=take_flat (f:=lnTx) hp
   have hsub:((n.lines.take k).flatMap lnTx++lnTx l).Sublist (txLines n):=by
    rw [← htk]
    unfold txLines
    exact ((take_flat_sub lnTx n.lines (k+1)).trans (List.sublist_append_left _ _)).trans (List.sublist_append_left _ _)
   have htot:=Nat.le_trans (cat_sub hsub) hlen
   generalize hS:(n.lines.take k).flatMap lnTx=S at hB htk htot
   have hB1:Bld ((H.push (.cells [.str [],.ps .nil []] 196)).set H.n (.cells l.row 196)) 1 (cat S):=by
    obtain ⟨a,t,b1,b2,b3⟩:=hB
    exact ⟨a,t,by rw [Heap.get_set,if_neg (by omega),Heap.get_push,if_neg (by omega)];exact b1,b2,b3.fresh _ _ rfl⟩
   have hhead:cat S++(joinC 32 [sLine,l.name]++[10])=cat (S++[joinC 32 [sLine,l.name]]):=by rw [cat_app,cat_one]
   have hlh:(cat (S++[joinC 32 [sLine,l.name]])).length≤maxRows:=by
    refine Nat.le_trans (cat_sub ?_) htot
    unfold lnTx
    exact List.Sublist.append (List.Sublist.refl _) ((List.nil_sublist _).cons_cons _)
   obtain ⟨v,H1,r1,hB2,hn2,hc1⟩:=r158 (P:=PPF87) h209 h159 (ws:=[sLine,l.name]) (by rw [Heap.n_set,Heap.n_push];omega) hB1 (by simp [maxRows]) (by rw [← hhead] at hlh;simpa using hlh)
   rw [hhead] at hB2
   have x0:=hc1 0 n.cells 40 (by rw [Heap.n_set,Heap.n_push];omega) (by decide) (by rw [Heap.get_set,if_neg (by omega),Heap.get_push,if_neg (by omega)];exact h0)
   have x1:=hc1 H.n l.row 196 (by simp) (by omega) (by rw [Heap.get_set,if_pos rfl])
   simp only [Heap.n_set,Heap.n_push] at hn2
   obtain ⟨ln,lp⟩:=l
   simp only [Ln.row] at hr x1 r1
   simp only at hlp hfit
   simp only [List.map_cons,List.map_nil,strRow] at r1
   simp only [go_sem,reduceIte,reduceEqDiff,reduceAdd,reduceMul,reduceSub,reduceLeDiff,reduceLT,Nat.reduceBEq,reduceCtorEq,g1,g5,g6,g22,g23,g24,List.length_map,hk,hr,en158 h158,r1,ofVal_v,ofVal_H,x1]
   clear hB hB1 r1 hlh
   refine W_for (fun k2 T' H' M=>M=[]∧getT T' 1=.ptr 0 0∧getT T' 5=.ptr 1 0∧getT T' 6=.fn 158 [] [.ptr 1 0]∧getT T' 22=.ps .unk (n.lines.map Ln.row)∧getT T' 23=i64 (n.lines.length:Nat)∧getT T' 24=i64 k∧getT T' 34=.ps .unk (lp.map Pc.row)∧getT T' 35=i64 (lp.length:Nat)∧getT T' 36=i64 k2∧1 < H'.n∧H'.get 0=.cells n.cells 40∧Bld H' 1 (cat (S++([joinC 32 [sLine,ln]]++(lp.take k2).map pcTx)))) lp.length ?_ ?_ ?_
   · simp only [go_sem,reduceIte,reduceEqDiff,reduceAdd,reduceMul,reduceSub,reduceLeDiff,reduceLT,Nat.reduceBEq,reduceCtorEq,List.length_map,g1,g5,g6,g22,g23,g24,x0]
     exact ⟨by omega,by simpa using hB2⟩
   · rintro k2 T' H' M hk2 ⟨rfl,i1,i5,i6,i22,i23,i24,i34,i35,i36,j1,j0,jB⟩
     obtain ⟨p,hpp⟩:∃ p,lp[k2]? = some p:=⟨lp[k2],by simp⟩
     have hpr2:=map_at (f:=Pc.row) hpp
     have hw2:=wrap_succ hk2 hfit
     have hnum:=hlp.2 p (List.mem_of_getElem? hpp)
     have ht2:(lp.take (k2+1)).map pcTx=(lp.take k2).map pcTx++[pcTx p]:=take_map hpp
     have hjB1:Bld ((H'.push (.cells [.int .i64 0,.int .i64 0,.bool false] 200)).set H'.n (.cells p.row 200)) 1 (cat (S++([joinC 32 [sLine,ln]]++(lp.take k2).map pcTx))):=by
      obtain ⟨a,t,b1,b2,b3⟩:=jB
      exact ⟨a,t,by rw [Heap.get_set,if_neg (by omega),Heap.get_push,if_neg (by omega)];exact b1,b2,b3.fresh _ _ rfl⟩
     have hone:cat (S++([joinC 32 [sLine,ln]]++(lp.take k2).map pcTx))++(pcTx p++[10])=cat (S++([joinC 32 [sLine,ln]]++(lp.take (k2+1)).map pcTx)):=by
      rw [ht2,← cat_one,← cat_app];simp
     have hlo:(cat (S++([joinC 32 [sLine,ln]]++(lp.take (k2+1)).map pcTx))).length≤maxRows:=by
      refine Nat.le_trans (cat_sub ?_) htot
      refine List.Sublist.append (List.Sublist.refl _) ?_
      show (joinC 32 [sLine,ln]::(lp.take (k2+1)).map pcTx).Sublist (joinC 32 [sLine,ln]::lp.map pcTx)
      exact ((List.take_sublist _ _).map _).cons_cons _
     rw [← hone] at hlo ⊢
     generalize cat (S++([joinC 32 [sLine,ln]]++(lp.take k2).map pcTx))=C0 at hjB1 hlo ⊢
     have hpt:pcTx p=joinC 32 [sPiece,itoaL p.len,itoaL p.post,if p.back then sDown else sUp]:=rfl
     rw [hpt] at hlo ⊢
     obtain ⟨v2,H2,r2,hB3,hn3,hc2⟩:=r158 (P:=PPF87) h209 h159 (ws:=[sPiece,itoaL p.len,itoaL p.post,if p.back then sDown else sUp]) (by simp;omega) hjB1 (by simp [maxRows]) (by simpa using hlo)
     have y0:=hc2 0 n.cells 40 (by simp) (by decide) (by rw [Heap.get_set,if_neg (by omega),Heap.get_push,if_neg (by omega)];exact j0)
     simp only [Heap.n_set,Heap.n_push] at hn3
     have ea:=itoa_is hnum.1
     have eb:=itoa_is hnum.2
     have e162:=pe162 sUp sDown p.back
     obtain ⟨pl,pq,pb⟩:=p
     simp only at ea eb e162 r2 hB3
     simp only [List.map_cons,List.map_nil,strRow,Pc.row,i64] at r2 hpr2
     simp only [go_sem,reduceIte,reduceEqDiff,reduceAdd,reduceMul,reduceSub,reduceLeDiff,reduceLT,Nat.reduceBEq,reduceCtorEq,i1,i5,i6,i22,i23,i24,i34,i35,i36,List.length_map,hk2,hpr2,hw2,en161,ea,eb,e162,en158 h158,r2,ofVal_v,ofVal_H,y0]
     exact ⟨by omega,hB3⟩
   · rintro T' H' M ⟨rfl,i1,i5,i6,i22,i23,i24,i34,i35,i36,j1,j0,jB⟩
     rw [List.take_length] at jB
     simp only [go_sem,reduceIte,reduceEqDiff,reduceAdd,reduceMul,reduceSub,reduceLeDiff,reduceLT,Nat.reduceBEq,reduceCtorEq,i1,i5,i6,i22,i23,i24,i34,i35,i36,List.length_map,Nat.lt_irrefl,hw,j0]
     refine ⟨j1, ?_⟩
     rw [htk]
     exact jB
 rintro T H M ⟨rfl,g1,g5,g6,g22,g23,g24,hn1,h0,hB⟩
 rw [List.take_length] at hB
 simp only [Net.cells] at h0
 simp only [go_sem,reduceIte,reduceEqDiff,reduceAdd,reduceMul,reduceSub,reduceLeDiff,reduceLT,Nat.reduceBEq,reduceCtorEq,g1,g5,g6,g22,g23,g24,h0,List.length_map,Nat.lt_irrefl]
 refine W_for (fun k T' H' M=>M=[]∧getT T' 1=.ptr 0 0∧getT T' 5=.ptr 1 0∧getT T' 6=.fn 158 [] [.ptr 1 0]∧getT T' 56=.ps .unk (n.sws.map Sw.row)∧getT T' 57=i64 (n.sws.length:Nat)∧getT T' 58=i64 k∧1 < H'.n∧H'.get 0=.cells n.cells 40∧Bld H' 1 (cat (n.lines.flatMap lnTx++(n.sws.take k).map swTx))) n.sws.length ?_ ?_ ?_
 · simp only [go_sem,reduceIte,reduceEqDiff,reduceAdd,reduceMul,reduceSub,reduceLeDiff,reduceLT,Nat.reduceBEq,reduceCtorEq,List.length_map,g1,g5,g6,h0,Net.cells]
   exact ⟨hn1,by simpa using hB⟩
 · clear hB g1 g5 g6 g22 g23 g24 h0 hn1
   rintro k T H M hk ⟨rfl,g1,g5,g6,g56,g57,g58,hn1,h0,hB⟩
   obtain ⟨s,hp⟩:∃ p,n.sws[k]? = some p:=⟨n.sws[k],by simp⟩
   have hsp:=hpr.sw s (List.mem_of_getElem? hp)
   have hr:=map_at (f:=Sw.row) hp
   have hw:=wrap_succ hk hn.sws
   have htk:(n.sws.take (k+1)).map swTx=(n.sws.take k).map swTx++[swTx s]:=take_map hp
   have hB1:Bld ((H.push (.cells [.str [],.str [],.int .i64 0,.str [],.bool false] 201)).set H.n (.cells s.row 201)) 1 (cat (n.lines.flatMap lnTx++(n.sws.take k).map swTx)):=by
    obtain ⟨a,t,b1,b2,b3⟩:=hB
    exact ⟨a,t,by rw [Heap.get_set,if_neg (by omega),Heap.get_push,if_neg (by omega)];exact b1,b2,b3.fresh _ _ rfl⟩
   have hone:cat (n.lines.flatMap lnTx++(n.sws.take k).map swTx)++(swTx s++[10])=cat (n.lines.flatMap lnTx++(n.sws.take (k+1)).map swTx):=by
    rw [htk,← cat_one,← cat_app];simp
   have hlo:(cat (n.lines.flatMap lnTx++(n.sws.take (k+1)).map swTx)).length≤maxRows:=by
    refine Nat.le_trans (cat_sub ?_) hlen
    unfold txLines
    exact (List.Sublist.append (List.Sublist.refl _) ((List.take_sublist _ _).map _)).trans (List.sublist_append_left _ _)
   rw [← hone] at hlo ⊢
   generalize cat (n.lines.flatMap lnTx++(n.sws.take k).map swTx)=C0 at hB1 hlo ⊢
   have hpt:swTx s=joinC 32 [sSwitch,s.name,s.line,itoaL s.metre,s.other,if s.last then sLast else sFirst]:=rfl
   rw [hpt] at hlo ⊢
   obtain ⟨v2,H2,r2,hB3,hn3,hc2⟩:=r158 (P:=PPF87) h209 h159 (ws:=[sSwitch,s.name,s.line,itoaL s.metre,s.other,if s.last then sLast else sFirst]) (by simp;omega) hB1 (by simp [maxRows]) (by simpa using hlo)
   have y0:=hc2 0 n.cells 40 (by simp) (by decide) (by rw [Heap.get_set,if_neg (by omega),Heap.get_push,if_neg (by omega)];exact h0)
   simp only [Heap.n_set,Heap.n_push] at hn3
   have ea:=itoa_is hsp.2.2.1
   have e162:=pe162 sFirst sLast s.last
   obtain ⟨s1,s2,s3,s4,s5⟩:=s
   simp only at ea e162 r2 hB3
   simp only [List.map_cons,List.map_nil,strRow,Sw.row,i64] at r2 hr
   simp only [go_sem,reduceIte,reduceEqDiff,reduceAdd,reduceMul,reduceSub,reduceLeDiff,reduceLT,Nat.reduceBEq,reduceCtorEq,g1,g5,g6,g56,g57,g58,List.length_map,hk,hr,hw,en161,ea,e162,en158 h158,r2,ofVal_v,ofVal_H,y0]
   exact ⟨by omega,hB3⟩
 clear hB g1 g5 g6 g22 g23 g24 h0 hn1
 rintro T H M ⟨rfl,g1,g5,g6,g56,g57,g58,hn1,h0,hB⟩
 rw [List.take_length] at hB
 simp only [Net.cells] at h0
 simp only [go_sem,reduceIte,reduceEqDiff,reduceAdd,reduceMul,reduceSub,reduceLeDiff,reduceLT,Nat.reduceBEq,reduceCtorEq,g1,g5,g6,g56,g57,g58,h0,List.length_map,Nat.lt_irrefl]
 refine W_for (fun k T' H' M=>M=[]∧getT T' 1=.ptr 0 0∧getT T' 5=.ptr 1 0∧getT T' 6=.fn 158 [] [.ptr 1 0]∧getT T' 80=.ps .unk (n.sts.map Stc.row)∧getT T' 81=i64 (n.sts.length:Nat)∧getT T' 82=i64 k∧1 < H'.n∧H'.get 0=.cells n.cells 40∧Bld H' 1 (cat (n.lines.flatMap lnTx++n.sws.map swTx++(n.sts.take k).map stTx))) n.sts.length ?_ ?_ ?_
 · simp only [go_sem,reduceIte,reduceEqDiff,reduceAdd,reduceMul,reduceSub,reduceLeDiff,reduceLT,Nat.reduceBEq,reduceCtorEq,List.length_map,g1,g5,g6,h0,Net.cells]
   exact ⟨hn1,by simpa using hB⟩
 · clear hB g1 g5 g6 g56 g57 g58 h0 hn1
   rintro k T H M hk ⟨rfl,g1,g5,g6,g80,g81,g82,hn1,h0,hB⟩
   obtain ⟨s,hp⟩:∃ p,n.sts[k]? = some p:=⟨n.sts[k],by simp⟩
   have hsp:=hpr.st s (List.mem_of_getElem? hp)
   have hr:=map_at (f:=Stc.row) hp
   have hw:=wrap_succ hk hn.sts
   have htk:(n.sts.take (k+1)).map stTx=(n.sts.take k).map stTx++[stTx s]:=take_map hp
   have hB1:Bld ((H.push (.cells [.str [],.str [],.str [],.int .i64 0,.int .i64 0] 202)).set H.n (.cells s.row 202)) 1 (cat (n.lines.flatMap lnTx++n.sws.map swTx++(n.sts.take k).map stTx)):=by
    obtain ⟨a,t,b1,b2,b3⟩:=hB
    exact ⟨a,t,by rw [Heap.get_set,if_neg (by omega),Heap.get_push,if_neg (by omega)];exact b1,b2,b3.fresh _ _ rfl⟩
   have hone:cat (n.lines.flatMap lnTx++n.sws.map swTx++(n.sts.take k).map stTx)++(stTx s++[10])=cat (n.lines.flatMap lnTx++n.sws.map swTx++(n.sts.take (k+1)).map stTx):=by
    rw [htk,← cat_one,← cat_app];simp
   have hlo:(cat (n.lines.flatMap lnTx++n.sws.map swTx++(n.sts.take (k+1)).map stTx)).length≤maxRows:=by
    refine Nat.le_trans (cat_sub ?_) hlen
    unfold txLines
    exact List.Sublist.append (List.Sublist.refl _) ((List.take_sublist _ _).map _)
   rw [← hone] at hlo ⊢
   generalize cat (n.lines.flatMap lnTx++n.sws.map swTx++(n.sts.take k).map stTx)=C0 at hB1 hlo ⊢
   have hpt:stTx s=joinC 32 [sStructure,s.name,s.kind,s.line,itoaL s.fr,itoaL s.till]:=rfl
   rw [hpt] at hlo ⊢
   obtain ⟨v2,H2,r2,hB3,hn3,hc2⟩:=r158 (P:=PPF87) h209 h159 (ws:=[sStructure,s.name,s.kind,s.line,itoaL s.fr,itoaL s.till]) (by simp;omega) hB1 (by simp [maxRows]) (by simpa using hlo)
   have y0:=hc2 0 n.cells 40 (by simp) (by decide) (by rw [Heap.get_set,if_neg (by omega),Heap.get_push,if_neg (by omega)];exact h0)
   simp only [Heap.n_set,Heap.n_push] at hn3
   have ea:=itoa_is hsp.2.2.2.1
   have eb:=itoa_is hsp.2.2.2.2
   obtain ⟨s1,s2,s3,s4,s5⟩:=s
   simp only at ea eb r2 hB3
   simp only [List.map_cons,List.map_nil,strRow,Stc.row,i64] at r2 hr
   simp only [go_sem,reduceIte,reduceEqDiff,reduceAdd,reduceMul,reduceSub,reduceLeDiff,reduceLT,Nat.reduceBEq,reduceCtorEq,g1,g5,g6,g80,g81,g82,List.length_map,hk,hr,hw,en161,ea,eb,en158 h158,r2,ofVal_v,ofVal_H,y0]
   exact ⟨by omega,hB3⟩
 clear hB g1 g5 g6 g56 g57 g58 h0 hn1
 rintro T H M ⟨rfl,g1,g5,g6,g80,g81,g82,hn1,h0,hB⟩
 rw [List.take_length] at hB
 have hst:hString 272 5 0 [.ptr 1 0] H=some (.str (printF n),H):=by
  have hB:Bld H 1 (printF n):=hB
  have hby:∀ s:Wd,(∀ c ∈ s,c < 256)→bytesIn (byR s)=some s:=by
   intro s
   induction s with
   | nil=>intro _;rfl
   | cons c r ih =>
     intro h
     show (if c < 256 then match bytesIn (byR r) with
      | some l=>some (c::l)
      | none=>none else none)=_
     rw [if_pos (h c (by simp)),ih fun x hx=>h x (by simp [hx])]
  have hsm:=printF_byte hpr
  obtain ⟨a,t,b1,b2,b3⟩:=hB
  generalize printF n=s at b1 b3 hlen hsm ⊢
  unfold hString
  simp only [b1,if_true]
  rcases b3 with ⟨rfl,b4⟩ | ⟨j,rfl,b4,b5,b6⟩
  · have:s=[]:=by unfold byR at b4;simpa using b4
    subst this
    rfl
  · have hb:=hby s hsm
    have hl:=byR_len s
    generalize byR s=R at b4 hb hl
    match R,b4 with
    | r::rs,_ =>
      simp only [b6]
      rw [if_pos ⟨trivial,by omega⟩,hb]
 simp only [go_sem,reduceIte,reduceEqDiff,reduceAdd,reduceMul,reduceSub,reduceLeDiff,reduceLT,Nat.reduceBEq,reduceCtorEq,g1,g5,g6,g80,g81,g82,List.length_map,Nat.lt_irrefl,en163 h163,hst]
end Go.Sim

/-
Texts: numbers and words, by the reference.
-/
namespace Go.Sim
open Go Go.Proofs
set_option maxRecDepth 100000
set_option maxHeartbeats 16000000
noncomputable def PPF172:FuncId→Option (List AV→Option AV):=fun _=>none
theorem primsF172:PrimsOk NC PPF172:=primsOk_none
theorem c172 (k:Bool) (a b:List Nat):∀ lo H,CallOk NC lo 172 [.bool k,.str a,.str b] H (.str (if k then a else b)) H:=by
 refine contract saneNC primsF172 (fn:=Tryz.f172) (by kernel_rfl) Tryz.func172 rfl rfl (by rfl) (by first | rfl | (split<;>first | rfl | (split<;>rfl))) ?_
 cases k<;>simp only [go_sem,reduceIte,reduceEqDiff,reduceAdd,reduceMul,reduceSub,reduceLeDiff,reduceLT,Nat.reduceBEq,reduceCtorEq]
noncomputable def p172:List AV→Option AV:=primOf (α:=(Bool) × (List Nat) × (List Nat)) (fun x=>[.bool x.1,.str x.2.1,.str x.2.2]) (fun x=>True) (fun x=>.str (if x.1 then x.2.1 else x.2.2))
theorem pok172:∀ args v,p172 args=some v → ∀ lo H,CallOk NC lo 172 args H v H:=by
 intro args v h
 obtain ⟨x,rfl,hp,rfl⟩:=primOf_inv h
 exact c172 x.1 x.2.1 x.2.2
theorem pe172 (k:Bool) (a b:List Nat):p172 [.bool k,.str a,.str b]=some (.str (if k then a else b)):=primOf_enc (α:=(Bool) × (List Nat) × (List Nat)) (enc:=fun x=>[.bool x.1,.str x.2.1,.str x.2.2]) (pre:=fun x=>True) (spec:=fun x=>.str (if x.1 then x.2.1 else x.2.2)) (by intro x y h;(simp only [List.cons.injEq,AV.agg.injEq,AV.str.injEq,AV.int.injEq,AV.ps.injEq,AV.bool.injEq,Net.cells_iff,Ln.row_iff,Pc.row_iff,Mv.row_iff,lns_iff,pcs_iff,mvs_iff,true_and,and_true] at h;first | simpa only [Prod.ext_iff] using h | simpa only [Prod.ext_iff,and_assoc] using h)) (k,a,b) trivial
theorem rem_t {a b:Int} (h0:0≤a) (h1:0 < b):aint (pureOf (Go.binOp .rem 0 (.int .i64 a) (.int .i64 b)))=some (.int .i64 (a % b)):=by
 have e:Go.binOp .rem 0 (.int .i64 a) (.int .i64 b)=Op.intDiv .rem .i64 a b:=rfl
 have hb:¬ (b=0):=by omega
 rw [e]
 unfold Op.intDiv
 rw [if_neg hb]
 show some (AV.int .i64 (a.tmod b))=_
 rw [Int.tmod_eq_emod_of_nonneg h0]
theorem quo_t {a b:Int} (h0:0≤a) (h1:0 < b) (h2:a≤9223372036854775807):aint (pureOf (Go.binOp .quo 0 (.int .i64 a) (.int .i64 b)))=some (.int .i64 (a / b)):=by
 have e:Go.binOp .quo 0 (.int .i64 a) (.int .i64 b)=Op.intDiv .quo .i64 a b:=rfl
 have hb:¬ (b=0):=by omega
 have hd0:0≤a / b:=Int.ediv_nonneg h0 (by omega)
 have hd1:a / b≤a:=Int.ediv_le_self b h0
 rw [e]
 unfold Op.intDiv
 rw [if_neg hb]
 show some (AV.int .i64 (IntKind.wrap .i64 (a.tdiv b)))=_
 rw [Int.tdiv_eq_ediv_of_nonneg h0,wrap_in hd0 (by omega)]
def digitsW:Wd:=[48,49,50,51,52,53,54,55,56,57]
theorem kDigits {C:Cfg} {T:TT AV}:evalO C T (.const (.string { data:=#[48,49,50,51,52,53,54,55,56,57] }))=some (.str digitsW):=rfl
theorem kMinus {C:Cfg} {T:TT AV}:evalO C T (.const (.string { data:=#[45] }))=some (.str [45]):=rfl
theorem kNone {C:Cfg} {T:TT AV}:evalO C T (.const (.string { data:=#[] }))=some (.str []):=rfl
attribute [go_sem] kDigits kMinus kNone
theorem digit_at {d:Nat} (h:d < 10):(digitsW.take (d+1)).drop d=[48+d]:=by
 have:d=0∨d=1∨d=2∨d=3∨d=4∨d=5∨d=6∨d=7∨d=8∨d=9:=by omega
 rcases this with rfl | rfl | rfl | rfl | rfl | rfl | rfl | rfl | rfl | rfl<;>rfl
noncomputable def PPF171:FuncId→Option (List AV→Option AV):=fun _=>none
theorem primsF171:PrimsOk NC PPF171:=primsOk_none
theorem c171 (x:Int) (hp:numOk x):∀ lo H,CallOk NC lo 171 [.int .i64 x] H (.str (itoaL x)) H:=by
 refine contract saneNC primsF171 (fn:=Tryz.f171) (by kernel_rfl) Tryz.func171 rfl rfl (by rfl) (by first | rfl | (split<;>first | rfl | (split<;>rfl))) ?_
 obtain ⟨n,rfl⟩:∃ n:Nat,x=(n:Int):=⟨x.toNat,by have:=hp.1;omega⟩
 have hn:n < 1000000000:=by have:=hp.2;omega
 have hneg:((n:Int) < 0)=False:=by simp only [eq_iff_iff,iff_false];omega
 rw [itoaL_nat]
 simp only [go_sem,reduceIte,reduceEqDiff,reduceAdd,reduceMul,reduceSub,reduceLeDiff,reduceLT,Nat.reduceBEq,reduceCtorEq,hneg]
 refine W_while (fun y T H M=>H=.empty∧M=[] ∧ ∃ (f:Nat) (acc:Wd),y < 10 ^ (f+1)∧y < 1000000000∧acc.length+f=19∧itoaN (f+1) y++acc=itoaN 20 n∧getT T 0=.int .i64 (y:Int)∧getT T 3=.str []∧getT T 4=.str acc) ?_ n _ _ _ ?_
 · rintro y T H M ⟨rfl,rfl,f,acc,hy,hy9,hf,hi,g0,g3,g4⟩
   have rm:=rem_t (a:=(y:Int)) (b:=10) (by omega) (by omega)
   have qm:=quo_t (a:=(y:Int)) (b:=10) (by omega) (by omega) (by omega)
   have er:(y:Int) % 10=((y % 10:Nat):Int):=by omega
   have eq:(y:Int) / 10=((y / 10:Nat):Int):=by omega
   rw [er] at rm
   rw [eq] at qm
   have tenz:((10:Int)=0)=False:=by simp
   have hd10:y % 10 < 10:=Nat.mod_lt _ (by decide)
   have hdg:=digit_at hd10
   have e48:48+y % 10=48+y % 10:=rfl
   rw [itoaN_succ] at hi
   have s0:wrapq .i64 (Int.sub 0 ((y % 10:Nat):Int)) = -((y % 10:Nat):Int):=by
    have e:Int.sub 0 ((y % 10:Nat):Int) = -((y % 10:Nat):Int):=Int.zero_sub _
    rw [e];exact wrapq_i64 (by omega) (by omega)
   have s1:maxI ((y % 10:Nat):Int) (-((y % 10:Nat):Int))=((y % 10:Nat):Int):=by unfold maxI;split<;>omega
   have s2:wrapq .i64 (Int.add ((y % 10:Nat):Int) 1)=((y % 10+1:Nat):Int):=wrap_nat (n:=y % 10+1) (by omega)
   have hsl:aslice NC.P 9 (.str digitsW) (some (.int .i64 ((y % 10:Nat):Int))) (some (.int .i64 ((y % 10+1:Nat):Int))) none=some (.str [48+y % 10]):=by
    rw [asl_both (by omega) (by show y % 10+1≤10;omega),hdg]
   have hle:1+acc.length≤9223372036854775807:=by omega
   have hle2:acc.length+1≤9223372036854775807:=by omega
   by_cases h10:y < 10
   · have q0:y / 10=0:=by omega
     have q1:y % 10=y:=by omega
     rw [if_pos h10] at hi
     rw [q1] at rm s0 s1 s2 hsl
     rw [q0] at qm
     simp only [go_sem,tenz,if_false] at rm qm
     simp only [go_sem,reduceIte,reduceEqDiff,reduceAdd,reduceMul,reduceSub,reduceLeDiff,reduceLT,Nat.reduceBEq,reduceCtorEq,tenz,g0,g3,g4,rm,qm,s0,s1,s2,hsl,hle,hle2]
     rw [← hi];rfl
   · have q0:(((y / 10:Nat):Int)=0)=False:=by simp only [eq_iff_iff,iff_false];omega
     rw [if_neg h10] at hi
     simp only [go_sem,tenz,if_false] at rm qm
     simp only [go_sem,reduceIte,reduceEqDiff,reduceAdd,reduceMul,reduceSub,reduceLeDiff,reduceLT,Nat.reduceBEq,reduceCtorEq,tenz,g0,g3,g4,rm,qm,s0,s1,s2,hsl,hle,hle2,q0]
     obtain ⟨f,rfl⟩:∃ f',f=f'+1:=⟨f - 1,by
      cases f with
      | zero=>simp at hy;omega
      | succ f=>simp⟩
     exact ⟨y / 10,by omega,f,(48+y % 10)::acc,by rw [Nat.pow_succ] at hy;omega,by omega,by simp;omega,by rw [← hi];simp,rfl,rfl⟩
 · simp only [go_sem,reduceIte,reduceEqDiff,reduceAdd,reduceMul,reduceSub,reduceLeDiff,reduceLT,Nat.reduceBEq,reduceCtorEq]
   exact ⟨19,[],by omega,hn,rfl,by simp,rfl⟩
noncomputable def p171:List AV→Option AV:=primOf (α:=(Int)) (fun x=>[.int .i64 x]) (fun x=>numOk x) (fun x=>.str (itoaL x))
theorem pok171:∀ args v,p171 args=some v → ∀ lo H,CallOk NC lo 171 args H v H:=by
 intro args v h
 obtain ⟨x,rfl,hp,rfl⟩:=primOf_inv h
 exact c171 x hp
theorem pe171 (x:Int) (hp:numOk x):p171 [.int .i64 x]=some (.str (itoaL x)):=primOf_enc (α:=(Int)) (enc:=fun x=>[.int .i64 x]) (pre:=fun x=>numOk x) (spec:=fun x=>.str (itoaL x)) (by intro x y h;(simp only [List.cons.injEq,AV.agg.injEq,AV.str.injEq,AV.int.injEq,AV.ps.injEq,AV.bool.injEq,Net.cells_iff,Ln.row_iff,Pc.row_iff,Mv.row_iff,lns_iff,pcs_iff,mvs_iff,true_and,and_true] at h;first | simpa only [Prod.ext_iff] using h | simpa only [Prod.ext_iff,and_assoc] using h)) x hp
end Go.Sim

/-
Texts: Print, by the reference.
-/
namespace Go.Sim
open Go Go.Proofs
set_option maxRecDepth 100000
set_option maxHeartbeats 64000000
def cLn:Wd:=[108,105,110,101,32]
def cPc:Wd:=[112,105,101,99,101,32]
def cSw:Wd:=[115,119,105,116,99,104,32]
def cSt:Wd:=[115,116,114,117,99,116,117,114,101,32]
theorem kLn {C:Cfg} {T:TT AV}:evalO C T (.const (.string { data:=#[108,105,110,101,32] }))=some (.str cLn):=rfl
theorem kPc {C:Cfg} {T:TT AV}:evalO C T (.const (.string { data:=#[112,105,101,99,101,32] }))=some (.str cPc):=rfl
theorem kSw {C:Cfg} {T:TT AV}:evalO C T (.const (.string { data:=#[115,119,105,116,99,104,32] }))=some (.str cSw):=rfl
theorem kSt {C:Cfg} {T:TT AV}:evalO C T (.const (.string { data:=#[115,116,114,117,99,116,117,114,101,32] }))=some (.str cSt):=rfl
theorem kDown {C:Cfg} {T:TT AV}:evalO C T (.const (.string { data:=#[100,111,119,110] }))=some (.str sDown):=rfl
theorem kUp {C:Cfg} {T:TT AV}:evalO C T (.const (.string { data:=#[117,112] }))=some (.str sUp):=rfl
theorem kLast {C:Cfg} {T:TT AV}:evalO C T (.const (.string { data:=#[108,97,115,116] }))=some (.str sLast):=rfl
theorem kFirst {C:Cfg} {T:TT AV}:evalO C T (.const (.string { data:=#[102,105,114,115,116] }))=some (.str sFirst):=rfl
attribute [go_sem] kLn kPc kSw kSt kDown kUp kLast kFirst
noncomputable def PPF89:FuncId→Option (List AV→Option AV):=addPrim 172 p172 (addPrim 171 p171 (fun _=>none))
theorem primsF89:PrimsOk NC PPF89:=primsOk_add (primsOk_add (primsOk_none) (by kernel_rfl) (by kernel_rfl) pok171) (by kernel_rfl) (by kernel_rfl) pok172
theorem enF89_171:En PPF89 171 p171:=enter_prim (by rfl) (by kernel_rfl)
theorem enF89_172:En PPF89 172 p172:=enter_prim (by rfl) (by kernel_rfl)
attribute [go_sem ↓] enF89_171 enF89_172
theorem c89 (n:Net) (hn:n.Ok) (hpr:PrOk n) (hlen:(printF n).length≤maxRows):∀ lo H,CallOk NC lo 89 [.agg n.cells] H (.str (printF n)) H:=by
 refine contract saneNC primsF89 (fn:=Tryz.f89) (by kernel_rfl) Tryz.func89 rfl rfl (by rfl) rfl ?_
 simp only [go_sem,reduceIte,reduceEqDiff,reduceAdd,reduceMul,reduceSub,reduceLeDiff,reduceLT,Nat.reduceBEq,reduceCtorEq,Net.cells]
 refine W_for (fun k T H M=>M=[]∧getT T 1=.ptr 0 0∧getT T 3=.str (cat ((n.lines.take k).flatMap lnTx))∧getT T 4=i64 k∧0 < H.n∧H.get 0=.cells [.ps .unk (n.lines.map Ln.row),.ps .unk (n.sws.map Sw.row),.ps .unk (n.sts.map Stc.row)] 26) n.lines.length ?_ ?_ ?_
 · simp only [go_sem,reduceIte,reduceEqDiff,reduceAdd,reduceMul,reduceSub,reduceLeDiff,reduceLT,Nat.reduceBEq,reduceCtorEq,List.length_map]
   rfl
 · rintro k T H M hk ⟨rfl,g1,g3,g4,hn0,h0⟩
   obtain ⟨l,hp⟩:∃ p,n.lines[k]? = some p:=⟨n.lines[k],by simp⟩
   have hmem:=List.mem_of_getElem? hp
   have hfit:=(hn.line l hmem).2
   have hlp:=hpr.line l hmem
   have hr:=map_at (f:=Ln.row) hp
   have hw:=wrap_succ hk hn.lines
   have htk:=take_flat (f:=lnTx) hp
   have hsub:((n.lines.take k).flatMap lnTx++lnTx l).Sublist (txLines n):=by
    rw [← htk]
    unfold txLines
    exact ((take_flat_sub lnTx n.lines (k+1)).trans (List.sublist_append_left _ _)).trans (List.sublist_append_left _ _)
   have htot:=Nat.le_trans (cat_sub hsub) hlen
   generalize hS:(n.lines.take k).flatMap lnTx=S at g3 htk htot
   have hhead:cat S++cLn++l.name++[10]=cat (S++[joinC 32 [sLine,l.name]]):=by
    rw [cat_app,cat_one];simp [joinC,cLn,sLine]
   have hlh:(cat (S++[joinC 32 [sLine,l.name]])).length≤maxRows:=by
    refine Nat.le_trans (cat_sub ?_) htot
    unfold lnTx
    exact List.Sublist.append (List.Sublist.refl _) ((List.nil_sublist _).cons_cons _)
   rw [← hhead] at hlh
   have b1:(cat S).length+cLn.length≤9223372036854775807:=by simp only [List.length_append] at hlh;unfold maxRows at hlh;omega
   have b2:(cat S++cLn).length+l.name.length≤9223372036854775807:=by simp only [List.length_append] at hlh ⊢;unfold maxRows at hlh;omega
   have b3:(cat S++cLn++l.name).length+1≤9223372036854775807:=by simp only [List.length_append,List.length_cons,List.length_nil] at hlh ⊢;unfold maxRows at hlh;omega
   obtain ⟨ln,lp⟩:=l
   simp only [Ln.row] at hr
   simp only at hlp hfit b2 b3 hhead hlh
   simp only [go_sem,reduceIte,reduceEqDiff,reduceAdd,reduceMul,reduceSub,reduceLeDiff,reduceLT,Nat.reduceBEq,reduceCtorEq,g1,g3,g4,h0,hn0,List.length_map,hk,hr,b1,b2,b3]
   rw [hhead]
   refine W_for (fun k2 T' H' M=>M=[]∧getT T' 1=.ptr 0 0∧getT T' 4=i64 k∧getT T' 5=i64 k2∧getT T' 3=.str (cat (S++([joinC 32 [sLine,ln]]++(lp.take k2).map pcTx)))∧0 < H'.n∧H'.get 0=.cells [.ps .unk (n.lines.map Ln.row),.ps .unk (n.sws.map Sw.row),.ps .unk (n.sts.map Stc.row)] 26) lp.length ?_ ?_ ?_
   · simp only [go_sem,reduceIte,reduceEqDiff,reduceAdd,reduceMul,reduceSub,reduceLeDiff,reduceLT,Nat.reduceBEq,reduceCtorEq,List.length_map,g1,g4,h0]
     simpa using hn0
   · clear g1 g3 g4 hn0 h0
     rintro k2 T' H' M hk2 ⟨rfl,i1,i4,i5,i3,j0,h0⟩
     obtain ⟨p,hpp⟩:∃ p,lp[k2]? = some p:=⟨lp[k2],by simp⟩
     have hpr2:=map_at (f:=Pc.row) hpp
     have hw2:=wrap_succ hk2 hfit
     have hnum:=hlp.2 p (List.mem_of_getElem? hpp)
     have ht2:(lp.take (k2+1)).map pcTx=(lp.take k2).map pcTx++[pcTx p]:=take_map hpp
     have hlo:(cat (S++([joinC 32 [sLine,ln]]++(lp.take (k2+1)).map pcTx))).length≤maxRows:=by
      refine Nat.le_trans (cat_sub ?_) htot
      refine List.Sublist.append (List.Sublist.refl _) ?_
      show (joinC 32 [sLine,ln]::(lp.take (k2+1)).map pcTx).Sublist (joinC 32 [sLine,ln]::lp.map pcTx)
      exact ((List.take_sublist _ _).map _).cons_cons _
     have hone:cat (S++([joinC 32 [sLine,ln]]++(lp.take (k2+1)).map pcTx))=cat (S++([joinC 32 [sLine,ln]]++(lp.take k2).map pcTx))++cPc++itoaL p.len++[32]++itoaL p.post++[32]++(if p.back then sDown else sUp)++[10]:=by
      have e:cat (S++([joinC 32 [sLine,ln]]++(lp.take (k2+1)).map pcTx))=cat (S++([joinC 32 [sLine,ln]]++(lp.take k2).map pcTx))++cat [pcTx p]:=by rw [ht2,← cat_app];simp
      rw [e,cat_one]
      simp [pcTx,joinC,cPc,sPiece]
     have ht3:S++([joinC 32 [sLine,ln]]++(lp.take (k2+1)).map pcTx)=S++([joinC 32 [sLine,ln]]++(lp.take (k2+1)).map pcTx):=rfl
     rw [hone] at hlo ⊢
     generalize cat (S++([joinC 32 [sLine,ln]]++(lp.take k2).map pcTx))=C0 at i3 hlo ⊢
     have ea:=pe171 p.len hnum.1
     have eb:=pe171 p.post hnum.2
     have ec:=pe172 p.back sDown sUp
     obtain ⟨pl,pq,pb⟩:=p
     simp only at ea eb ec hlo ⊢
     generalize itoaL pl=wa at ea hlo ⊢
     generalize itoaL pq=wb at eb hlo ⊢
     generalize (if pb=true then sDown else sUp)=wc at ec hlo ⊢
     unfold maxRows at hlo
     simp only [List.length_append,List.length_cons,List.length_nil] at hlo
     have b1:C0.length+cPc.length≤9223372036854775807:=by omega
     have b2:(C0++cPc).length+wa.length≤9223372036854775807:=by simp only [List.length_append];omega
     have b3:(C0++cPc++wa).length+1≤9223372036854775807:=by simp only [List.length_append];omega
     have b4:(C0++cPc++wa++[32]).length+wb.length≤9223372036854775807:=by simp only [List.length_append,List.length_cons,List.length_nil];omega
     have b5:(C0++cPc++wa++[32]++wb).length+1≤9223372036854775807:=by simp only [List.length_append,List.length_cons,List.length_nil];omega
     have b6:(C0++cPc++wa++[32]++wb++[32]).length+wc.length≤9223372036854775807:=by simp only [List.length_append,List.length_cons,List.length_nil];omega
     have b7:(C0++cPc++wa++[32]++wb++[32]++wc).length+1≤9223372036854775807:=by simp only [List.length_append,List.length_cons,List.length_nil];omega
     simp only [Pc.row,i64] at hpr2 ea eb
     have y0:(0=H'.n)=False:=by simp only [eq_iff_iff,iff_false];omega
     simp only [go_sem,reduceIte,reduceEqDiff,reduceAdd,reduceMul,reduceSub,reduceLeDiff,reduceLT,Nat.reduceBEq,reduceCtorEq,i1,i3,i4,i5,h0,j0,y0,List.length_map,hk,hr,hk2,hpr2,hw2,ea,eb,ec,b1,b2,b3,b4,b5,b6,b7]
   · clear g1 g3 g4 hn0 h0
     rintro T' H' M ⟨rfl,i1,i4,i5,i3,j0,h0⟩
     rw [List.take_length] at i3
     simp only [go_sem,reduceIte,reduceEqDiff,reduceAdd,reduceMul,reduceSub,reduceLeDiff,reduceLT,Nat.reduceBEq,reduceCtorEq,i1,i3,i4,i5,h0,List.length_map,hk,hr,Nat.lt_irrefl,hw]
     refine ⟨?_,j0⟩
     rw [htk];rfl
 rintro T H M ⟨rfl,g1,g3,g4,hn0,h0⟩
 rw [List.take_length] at g3
 simp only [go_sem,reduceIte,reduceEqDiff,reduceAdd,reduceMul,reduceSub,reduceLeDiff,reduceLT,Nat.reduceBEq,reduceCtorEq,g1,g3,g4,h0,List.length_map,Nat.lt_irrefl]
 refine W_for (fun k T' H' M=>M=[]∧getT T' 1=.ptr 0 0∧getT T' 3=.str (cat (n.lines.flatMap lnTx++(n.sws.take k).map swTx))∧getT T' 7=i64 k∧0 < H'.n∧H'.get 0=.cells [.ps .unk (n.lines.map Ln.row),.ps .unk (n.sws.map Sw.row),.ps .unk (n.sts.map Stc.row)] 26) n.sws.length ?_ ?_ ?_
 · simp only [go_sem,reduceIte,reduceEqDiff,reduceAdd,reduceMul,reduceSub,reduceLeDiff,reduceLT,Nat.reduceBEq,reduceCtorEq,List.length_map,g1,h0]
   exact ⟨by simpa using g3,hn0⟩
 · clear g1 g3 g4 h0 hn0
   rintro k T H M hk ⟨rfl,g1,g3,g7,hn0,h0⟩
   obtain ⟨s,hp⟩:∃ p,n.sws[k]? = some p:=⟨n.sws[k],by simp⟩
   have hsp:=hpr.sw s (List.mem_of_getElem? hp)
   have hr:=map_at (f:=Sw.row) hp
   have hw:=wrap_succ hk hn.sws
   have htk:(n.sws.take (k+1)).map swTx=(n.sws.take k).map swTx++[swTx s]:=take_map hp
   have hlo:(cat (n.lines.flatMap lnTx++(n.sws.take (k+1)).map swTx)).length≤maxRows:=by
    refine Nat.le_trans (cat_sub ?_) hlen
    unfold txLines
    exact (List.Sublist.append (List.Sublist.refl _) ((List.take_sublist _ _).map _)).trans (List.sublist_append_left _ _)
   have hone:cat (n.lines.flatMap lnTx++(n.sws.take (k+1)).map swTx)=cat (n.lines.flatMap lnTx++(n.sws.take k).map swTx)++cSw++s.name++[32]++s.line++[32]++itoaL s.metre++[32]++s.other++[32]++(if s.last then sLast else sFirst)++[10]:=by
    have e:cat (n.lines.flatMap lnTx++(n.sws.take (k+1)).map swTx)=cat (n.lines.flatMap lnTx++(n.sws.take k).map swTx)++cat [swTx s]:=by rw [htk,← cat_app];simp
    rw [e,cat_one]
    simp [swTx,joinC,cSw,sSwitch]
   rw [hone] at hlo ⊢
   generalize cat (n.lines.flatMap lnTx++(n.sws.take k).map swTx)=C0 at g3 hlo ⊢
   have ea:=pe171 s.metre hsp.2.2.1
   have ec:=pe172 s.last sLast sFirst
   obtain ⟨s1,s2,s3,s4,s5⟩:=s
   simp only at ea ec hlo ⊢
   generalize itoaL s3=wa at ea hlo ⊢
   generalize (if s5=true then sLast else sFirst)=wc at ec hlo ⊢
   unfold maxRows at hlo
   simp only [List.length_append,List.length_cons,List.length_nil] at hlo
   have b1:C0.length+cSw.length≤9223372036854775807:=by omega
   have b2:(C0++cSw).length+s1.length≤9223372036854775807:=by simp only [List.length_append,List.length_cons,List.length_nil];omega
   have b3:(C0++cSw++s1).length+1≤9223372036854775807:=by simp only [List.length_append,List.length_cons,List.length_nil];omega
   have b4:(C0++cSw++s1++[32]).length+s2.length≤9223372036854775807:=by simp only [List.length_append,List.length_cons,List.length_nil];omega
   have b5:(C0++cSw++s1++[32]++s2).length+1≤9223372036854775807:=by simp only [List.length_append,List.length_cons,List.length_nil];omega
   have b6:(C0++cSw++s1++[32]++s2++[32]).length+wa.length≤9223372036854775807:=by simp only [List.length_append,List.length_cons,List.length_nil];omega
   have b7:(C0++cSw++s1++[32]++s2++[32]++wa).length+1≤9223372036854775807:=by simp only [List.length_append,List.length_cons,List.length_nil];omega
   have b8:(C0++cSw++s1++[32]++s2++[32]++wa++[32]).length+s4.length≤9223372036854775807:=by simp only [List.length_append,List.length_cons,List.length_nil];omega
   have b9:(C0++cSw++s1++[32]++s2++[32]++wa++[32]++s4).length+1≤9223372036854775807:=by simp only [List.length_append,List.length_cons,List.length_nil];omega
   have b10:(C0++cSw++s1++[32]++s2++[32]++wa++[32]++s4++[32]).length+wc.length≤9223372036854775807:=by simp only [List.length_append,List.length_cons,List.length_nil];omega
   have b11:(C0++cSw++s1++[32]++s2++[32]++wa++[32]++s4++[32]++wc).length+1≤9223372036854775807:=by simp only [List.length_append,List.length_cons,List.length_nil];omega
   simp only [Sw.row,i64] at hr ea
   have y0:(0=H.n)=False:=by simp only [eq_iff_iff,iff_false];omega
   simp only [go_sem,reduceIte,reduceEqDiff,reduceAdd,reduceMul,reduceSub,reduceLeDiff,reduceLT,Nat.reduceBEq,reduceCtorEq,g1,g3,g7,h0,hn0,y0,List.length_map,hk,hr,hw,ea,ec,b1,b2,b3,b4,b5,b6,b7,b8,b9,b10,b11]
 clear g1 g3 g4 h0 hn0
 rintro T H M ⟨rfl,g1,g3,g7,hn0,h0⟩
 rw [List.take_length] at g3
 simp only [go_sem,reduceIte,reduceEqDiff,reduceAdd,reduceMul,reduceSub,reduceLeDiff,reduceLT,Nat.reduceBEq,reduceCtorEq,g1,g3,g7,h0,List.length_map,Nat.lt_irrefl]
 refine W_for (fun k T' H' M=>M=[]∧getT T' 1=.ptr 0 0∧getT T' 3=.str (cat (n.lines.flatMap lnTx++n.sws.map swTx++(n.sts.take k).map stTx))∧getT T' 9=i64 k∧0 < H'.n∧H'.get 0=.cells [.ps .unk (n.lines.map Ln.row),.ps .unk (n.sws.map Sw.row),.ps .unk (n.sts.map Stc.row)] 26) n.sts.length ?_ ?_ ?_
 · simp only [go_sem,reduceIte,reduceEqDiff,reduceAdd,reduceMul,reduceSub,reduceLeDiff,reduceLT,Nat.reduceBEq,reduceCtorEq,List.length_map,g1,h0]
   exact ⟨by simpa using g3,hn0⟩
 · clear g1 g3 g7 h0 hn0
   rintro k T H M hk ⟨rfl,g1,g3,g9,hn0,h0⟩
   obtain ⟨s,hp⟩:∃ p,n.sts[k]? = some p:=⟨n.sts[k],by simp⟩
   have hsp:=hpr.st s (List.mem_of_getElem? hp)
   have hr:=map_at (f:=Stc.row) hp
   have hw:=wrap_succ hk hn.sts
   have htk:(n.sts.take (k+1)).map stTx=(n.sts.take k).map stTx++[stTx s]:=take_map hp
   have hlo:(cat (n.lines.flatMap lnTx++n.sws.map swTx++(n.sts.take (k+1)).map stTx)).length≤maxRows:=by
    refine Nat.le_trans (cat_sub ?_) hlen
    unfold txLines
    exact List.Sublist.append (List.Sublist.refl _) ((List.take_sublist _ _).map _)
   have hone:cat (n.lines.flatMap lnTx++n.sws.map swTx++(n.sts.take (k+1)).map stTx)=cat (n.lines.flatMap lnTx++n.sws.map swTx++(n.sts.take k).map stTx)++cSt++s.name++[32]++s.kind++[32]++s.line++[32]++itoaL s.fr++[32]++itoaL s.till++[10]:=by
    have e:cat (n.lines.flatMap lnTx++n.sws.map swTx++(n.sts.take (k+1)).map stTx)=cat (n.lines.flatMap lnTx++n.sws.map swTx++(n.sts.take k).map stTx)++cat [stTx s]:=by rw [htk,← cat_app];simp
    rw [e,cat_one]
    simp [stTx,joinC,cSt,sStructure]
   rw [hone] at hlo ⊢
   generalize cat (n.lines.flatMap lnTx++n.sws.map swTx++(n.sts.take k).map stTx)=C0 at g3 hlo ⊢
   have ea:=pe171 s.fr hsp.2.2.2.1
   have eb:=pe171 s.till hsp.2.2.2.2
   obtain ⟨s1,s2,s3,s4,s5⟩:=s
   simp only at ea eb hlo ⊢
   generalize itoaL s4=wa at ea hlo ⊢
   generalize itoaL s5=wb at eb hlo ⊢
   unfold maxRows at hlo
   simp only [List.length_append,List.length_cons,List.length_nil] at hlo
   have b1:C0.length+cSt.length≤9223372036854775807:=by omega
   have b2:(C0++cSt).length+s1.length≤9223372036854775807:=by simp only [List.length_append,List.length_cons,List.length_nil];omega
   have b3:(C0++cSt++s1).length+1≤9223372036854775807:=by simp only [List.length_append,List.length_cons,List.length_nil];omega
   have b4:(C0++cSt++s1++[32]).length+s2.length≤9223372036854775807:=by simp only [List.length_append,List.length_cons,List.length_nil];omega
   have b5:(C0++cSt++s1++[32]++s2).length+1≤9223372036854775807:=by simp only [List.length_append,List.length_cons,List.length_nil];omega
   have b6:(C0++cSt++s1++[32]++s2++[32]).length+s3.length≤9223372036854775807:=by simp only [List.length_append,List.length_cons,List.length_nil];omega
   have b7:(C0++cSt++s1++[32]++s2++[32]++s3).length+1≤9223372036854775807:=by simp only [List.length_append,List.length_cons,List.length_nil];omega
   have b8:(C0++cSt++s1++[32]++s2++[32]++s3++[32]).length+wa.length≤9223372036854775807:=by simp only [List.length_append,List.length_cons,List.length_nil];omega
   have b9:(C0++cSt++s1++[32]++s2++[32]++s3++[32]++wa).length+1≤9223372036854775807:=by simp only [List.length_append,List.length_cons,List.length_nil];omega
   have b10:(C0++cSt++s1++[32]++s2++[32]++s3++[32]++wa++[32]).length+wb.length≤9223372036854775807:=by simp only [List.length_append,List.length_cons,List.length_nil];omega
   have b11:(C0++cSt++s1++[32]++s2++[32]++s3++[32]++wa++[32]++wb).length+1≤9223372036854775807:=by simp only [List.length_append,List.length_cons,List.length_nil];omega
   simp only [Stc.row,i64] at hr ea eb
   have y0:(0=H.n)=False:=by simp only [eq_iff_iff,iff_false];omega
   simp only [go_sem,reduceIte,reduceEqDiff,reduceAdd,reduceMul,reduceSub,reduceLeDiff,reduceLT,Nat.reduceBEq,reduceCtorEq,g1,g3,g9,h0,hn0,y0,List.length_map,hk,hr,hw,ea,eb,b1,b2,b3,b4,b5,b6,b7,b8,b9,b10,b11]
 clear g1 g3 g7 h0 hn0
 rintro T H M ⟨rfl,g1,g3,g9,hn0,h0⟩
 rw [List.take_length] at g3
 simp only [go_sem,reduceIte,reduceEqDiff,reduceAdd,reduceMul,reduceSub,reduceLeDiff,reduceLT,Nat.reduceBEq,reduceCtorEq,g1,g3,g9,h0,List.length_map,Nat.lt_irrefl]
 rfl
end Go.Sim

/-
Texts: a table for the reference's reading of a line.
-/
namespace Go.Sim
open Go Go.Proofs
set_option maxRecDepth 100000
set_option maxHeartbeats 16000000
noncomputable def PPwr:FuncId→Option (List AV→Option AV):=addPrim 224 p224 (addPrim 223 p223 (fun _=>none))
theorem primswr:PrimsOk NC PPwr:=primsOk_add (primsOk_add (primsOk_none) (by kernel_rfl) (by kernel_rfl) pok223) (by kernel_rfl) (by kernel_rfl) pok224
theorem enwr_223:En PPwr 223 p223:=enter_prim (by rfl) (by kernel_rfl)
theorem enwr_224:En PPwr 224 p224:=enter_prim (by rfl) (by kernel_rfl)
attribute [go_sem ↓] enwr_223 enwr_224
noncomputable def planR (f:FuncId) (id:Nat):List OpI:=cond (Nat.beq f 222 && Nat.beq id 5) ([⟨.data,0,0,[]⟩,⟨.load,0,1,[]⟩,⟨.data,0,0,[]⟩,⟨.load,0,4,[]⟩,⟨.data,0,0,[]⟩,⟨.data,0,28,[]⟩,⟨.data,0,60,[]⟩,⟨.load,0,124,[]⟩,⟨.data,0,0,[]⟩,⟨.data,0,0,[]⟩,⟨.load,0,512,[]⟩,⟨.data,0,0,[]⟩,⟨.data,0,3584,[]⟩,⟨.data,0,7680,[]⟩,⟨.load,0,15872,[]⟩,⟨.writeAt,0,32512,[7,3,1]⟩,⟨.data,1,65532,[]⟩,⟨.fresh,1,131068,[]⟩,⟨.writeAt,2,262143,[]⟩,⟨.data,3,524287,[]⟩,⟨.writeAt,3,1048575,[]⟩]) (cond (Nat.beq f 173 && Nat.beq id 5) ([⟨.data,0,0,[]⟩,⟨.load,0,1,[]⟩,⟨.data,0,0,[]⟩,⟨.data,0,4,[]⟩,⟨.load,0,12,[]⟩,⟨.data,0,28,[]⟩,⟨.fresh,0,60,[]⟩,⟨.writeAt,1,127,[]⟩,⟨.data,2,255,[]⟩,⟨.writeAt,2,511,[]⟩]) (NC.plans f id))
noncomputable def WR:Cfg:=walkC (fun f=>Nat.beq f 222 || Nat.beq f 173) NC.refApp (fun f t=>(Nat.beq f 222 || Nat.beq f 173) && Nat.beq t 22) NC.mode planR PPwr (fun _=>none)
theorem wr_sane:Sane WR:=walk_sane primswr primsOk_none (by
 intro f hf
 have hf:(Nat.beq f 222 || Nat.beq f 173)=true:=hf
 rw [Bool.or_eq_true] at hf
 rcases hf with hf | hf
 · have:=Nat.eq_of_beq_eq_true hf;subst this
   exact ⟨_,_,Tryz.func222,rfl,by kernel_rfl,by kernel_rfl⟩
 · have:=Nat.eq_of_beq_eq_true hf;subst this
   exact ⟨_,_,Tryz.func173,rfl,by kernel_rfl,by kernel_rfl⟩)
theorem wrP:WR.P=NC.P:=rfl
theorem wrF (f:FuncId) (t:TypeId):WR.frz f t=false:=Eq.trans rfl rfl
theorem wrp_222_5:WR.plans 222 5=[⟨.data,0,0,[]⟩,⟨.load,0,1,[]⟩,⟨.data,0,0,[]⟩,⟨.load,0,4,[]⟩,⟨.data,0,0,[]⟩,⟨.data,0,28,[]⟩,⟨.data,0,60,[]⟩,⟨.load,0,124,[]⟩,⟨.data,0,0,[]⟩,⟨.data,0,0,[]⟩,⟨.load,0,512,[]⟩,⟨.data,0,0,[]⟩,⟨.data,0,3584,[]⟩,⟨.data,0,7680,[]⟩,⟨.load,0,15872,[]⟩,⟨.writeAt,0,32512,[7,3,1]⟩,⟨.data,1,65532,[]⟩,⟨.fresh,1,131068,[]⟩,⟨.writeAt,2,262143,[]⟩,⟨.data,3,524287,[]⟩,⟨.writeAt,3,1048575,[]⟩]:=by kernel_rfl
theorem wrp_173_5:WR.plans 173 5=[⟨.data,0,0,[]⟩,⟨.load,0,1,[]⟩,⟨.data,0,0,[]⟩,⟨.data,0,4,[]⟩,⟨.load,0,12,[]⟩,⟨.data,0,28,[]⟩,⟨.fresh,0,60,[]⟩,⟨.writeAt,1,127,[]⟩,⟨.data,2,255,[]⟩,⟨.writeAt,2,511,[]⟩]:=by kernel_rfl
theorem wrp_173_11:WR.plans 173 11=[⟨.data,0,0,[]⟩,⟨.load,0,1,[]⟩,⟨.data,0,0,[]⟩,⟨.data,0,0,[]⟩,⟨.load,0,8,[]⟩,⟨.data,0,0,[]⟩,⟨.data,0,56,[]⟩,⟨.data,0,120,[]⟩,⟨.load,0,248,[]⟩,⟨.data,0,0,[]⟩,⟨.data,0,0,[]⟩,⟨.data,0,0,[]⟩,⟨.data,0,2048,[]⟩,⟨.load,0,6144,[]⟩,⟨.data,0,14336,[]⟩,⟨.data,0,32256,[]⟩,⟨.data,0,65024,[]⟩,⟨.writeAt,0,131064,[1]⟩,⟨.data,1,262143,[]⟩,⟨.data,1,524287,[]⟩,⟨.writeAt,1,1048575,[]⟩]:=by kernel_rfl
theorem wrp_173_12:WR.plans 173 12=[⟨.load,0,0,[]⟩,⟨.data,0,0,[]⟩,⟨.data,0,2,[]⟩,⟨.data,0,6,[]⟩,⟨.data,0,14,[]⟩,⟨.data,0,30,[]⟩,⟨.data,0,62,[]⟩,⟨.data,0,126,[]⟩,⟨.load,0,254,[]⟩,⟨.data,0,510,[]⟩,⟨.data,0,1022,[]⟩,⟨.data,0,2046,[]⟩,⟨.data,0,4094,[]⟩,⟨.load,0,8190,[]⟩,⟨.data,0,16382,[]⟩,⟨.data,0,32766,[]⟩,⟨.data,0,65534,[]⟩,⟨.writeAt,0,2047,[13]⟩,⟨.data,1,133119,[]⟩,⟨.data,1,524287,[]⟩]:=by kernel_rfl
theorem wrp_173_15:WR.plans 173 15=[⟨.data,0,0,[]⟩,⟨.load,0,1,[]⟩,⟨.data,0,0,[]⟩,⟨.data,0,4,[]⟩,⟨.load,0,12,[]⟩,⟨.data,0,0,[]⟩,⟨.data,0,32,[]⟩,⟨.load,0,96,[]⟩,⟨.data,0,0,[]⟩,⟨.data,0,0,[]⟩,⟨.data,0,512,[]⟩,⟨.load,0,1536,[]⟩,⟨.data,0,0,[]⟩,⟨.data,0,4096,[]⟩,⟨.load,0,12288,[]⟩,⟨.data,0,28672,[]⟩,⟨.data,0,65532,[]⟩,⟨.data,0,131068,[]⟩,⟨.writeAt,0,262143,[]⟩,⟨.data,1,524287,[]⟩,⟨.writeAt,1,1048575,[]⟩]:=by kernel_rfl
theorem wrp_173_16:WR.plans 173 16=[⟨.load,0,0,[]⟩,⟨.data,0,0,[]⟩,⟨.data,0,2,[]⟩,⟨.data,0,6,[]⟩,⟨.data,0,14,[]⟩,⟨.load,0,30,[]⟩,⟨.data,0,62,[]⟩,⟨.data,0,126,[]⟩,⟨.data,0,254,[]⟩,⟨.data,0,510,[]⟩,⟨.load,0,1022,[]⟩,⟨.data,0,2046,[]⟩,⟨.data,0,4094,[]⟩,⟨.data,0,8190,[]⟩,⟨.writeAt,0,255,[10]⟩,⟨.data,1,16639,[]⟩,⟨.data,1,65535,[]⟩]:=by kernel_rfl
theorem wrp_173_20:WR.plans 173 20=[⟨.data,0,0,[]⟩,⟨.load,0,1,[]⟩,⟨.data,0,0,[]⟩,⟨.data,0,4,[]⟩,⟨.load,0,12,[]⟩,⟨.data,0,0,[]⟩,⟨.data,0,32,[]⟩,⟨.load,0,96,[]⟩,⟨.data,0,0,[]⟩,⟨.data,0,256,[]⟩,⟨.load,0,768,[]⟩,⟨.data,0,0,[]⟩,⟨.data,0,0,[]⟩,⟨.data,0,6144,[]⟩,⟨.data,0,16380,[]⟩,⟨.data,0,32764,[]⟩,⟨.writeAt,0,65535,[]⟩,⟨.data,1,131071,[]⟩,⟨.writeAt,1,262143,[]⟩]:=by kernel_rfl
theorem wra_222_22:WR.refApp 222 22=true:=by kernel_rfl
theorem wrl_222_22:WR.lit 222 22=true:=by kernel_rfl
theorem wra_222_54:WR.refApp 222 54=false:=by kernel_rfl
theorem wrl_222_54:WR.lit 222 54=false:=by kernel_rfl
theorem wra_222_23:WR.refApp 222 23=false:=by kernel_rfl
theorem wrl_222_23:WR.lit 222 23=false:=by kernel_rfl
theorem wra_222_24:WR.refApp 222 24=false:=by kernel_rfl
theorem wrl_222_24:WR.lit 222 24=false:=by kernel_rfl
theorem wra_173_22:WR.refApp 173 22=true:=by kernel_rfl
theorem wrl_173_22:WR.lit 173 22=true:=by kernel_rfl
theorem wra_173_54:WR.refApp 173 54=false:=by kernel_rfl
theorem wrl_173_54:WR.lit 173 54=false:=by kernel_rfl
theorem wra_173_23:WR.refApp 173 23=false:=by kernel_rfl
theorem wrl_173_23:WR.lit 173 23=false:=by kernel_rfl
theorem wra_173_24:WR.refApp 173 24=false:=by kernel_rfl
theorem wrl_173_24:WR.lit 173 24=false:=by kernel_rfl
attribute [go_sem] wrP wrF wrp_222_5 wrp_173_5 wrp_173_11 wrp_173_12 wrp_173_15 wrp_173_16 wrp_173_20 wra_222_22 wrl_222_22 wra_222_54 wrl_222_54 wra_222_23 wrl_222_23 wra_222_24 wrl_222_24 wra_173_22 wrl_173_22 wra_173_54 wrl_173_54 wra_173_23 wrl_173_23 wra_173_24 wrl_173_24
theorem wr_en223 {rec:Rec} {lo:Nat} {args:List AV} {H:Heap} {K:AV→Heap→Prop}:VO (aenter WR rec lo 223 args H) K=AO (onPure p223 args) fun v=>K v H:=enter_prim (by rfl) (by kernel_rfl)
theorem wr_en224 {rec:Rec} {lo:Nat} {args:List AV} {H:Heap} {K:AV→Heap→Prop}:VO (aenter WR rec lo 224 args H) K=AO (onPure p224 args) fun v=>K v H:=enter_prim (by rfl) (by kernel_rfl)
theorem wr_en222 {lo:Nat} {args:List AV} {H:Heap} {K:AV→Heap→Prop}:VO (aenter WR (R WR) lo 222 args H) K=AO (R WR (.call H.n 222 args H)) fun o=>K o.val o.s.H:=enter_fresh rfl rfl rfl rfl (by kernel_rfl)
attribute [go_sem ↓] wr_en223 wr_en224 op_buildLit
theorem onPure_eq {p:List AV→Option AV} {args:List AV} {v:AV} (h:p args=some v) (h1:pureAll args=true) (h2:v.pure=true):onPure p args=some v:=by
 unfold onPure;rw [if_pos h1,h];simp only [h2,if_true]
end Go.Sim

/-
Texts: a network of one's own, by the reference: lines in a block that is written.
-/
namespace Go.Sim
open Go Go.Proofs
set_option maxRecDepth 100000
set_option maxHeartbeats 16000000
theorem W_assocB {C:Cfg} {lo:Nat} {fid:FuncId} {rnd:Bool} {T:TT AV} {H:Heap} {M:List Nat} {Q:AExit→TT AV→Heap→List Nat→Prop} (a b c:Code):W C lo fid rnd (.seq a (.seq b c)) T H M Q=W C lo fid rnd (.seq (.seq a b) c) T H M Q:=by
 simp only [W_seq]
 refine congrArg (fun q=>W C lo fid rnd a T H M q) ?_
 funext e T H M
 cases e<;>first | rfl | (show W C lo fid rnd (.seq b c) T H M Q=_;rw [W_seq];rfl)
theorem W_cutB {C:Cfg} {lo:Nat} {fid:FuncId} {rnd:Bool} {T:TT AV} {H:Heap} {M:List Nat} {Q:AExit→TT AV→Heap→List Nat→Prop} {a b:Code} (I:TT AV→Heap→List Nat→Prop) (h:W C lo fid rnd a T H M fun e T H M=>e=.nrm∧I T H M) (h2:∀ T H M,I T H M→W C lo fid rnd b T H M Q):W C lo fid rnd (.seq a b) T H M Q:=by
 rw [W_seq]
 refine W_mono h fun e T H M hi => ?_
 rw [hi.1]
 exact h2 T H M hi.2
/-! ### Slices that may be added to -/
def AppE (b:Nat) (H:Heap) (t:Tok) (rows:List (List AV)) (sz:Nat) (e:TypeId):Prop:=(rows=[]∧(t=.nil∨t=.exact)) ∨ ∃ j,t=.tok j∧rows ≠ []∧b≤j∧j < H.n∧H.get j=.row [] sz e
theorem strip_id {rx:List (List AV)} (h:∀ r ∈ rx,r.map AV.strip0=r):rx.map (List.map AV.strip0)=rx:=by
 induction rx with
 | nil=>rfl
 | cons a r ih =>
   rw [List.map_cons,h a (by simp),ih fun x hx=>h x (by simp [hx])]
theorem appE {lo b:Nat} {H:Heap} {t:Tok} {rows rx:List (List AV)} {sz:Nat} {e:TypeId} (h:AppE b H t rows sz e) (hlo:lo≤b) (hb:b≤H.n) (h1:rows.length+rx.length≤maxRows) (h2:rx.all pureRow=true) (hs:rx.map (List.map AV.strip0)=rx) (h3:0 < sz) (h4:rows.all (fun r=>r.length=sz)=true) :
 ∃ t' H',appP lo H sz e (.ps t rows) rx=some (.ps t' (rows++rx),H')∧AppE b H' t' (rows++rx) sz e∧H.n≤H'.n∧(∀ i,i < b→H'.get i=H.get i) ∧ ∀ i,i < H.n→H.get i ≠ .row [] sz e→H'.get i=H.get i:=by
 by_cases h0:rx=[]
 · subst h0
   refine ⟨t,H,by unfold appP;simp,by simpa using h,Nat.le_refl _,fun _ _=>rfl,fun _ _ _=>rfl⟩
 rcases h with ⟨rfl,ht⟩ | ⟨j,rfl,h6,hbj,h7,h8⟩
 · have e0:appP lo H sz e (.ps t []) rx=some (.ps (.tok H.n) rx,H.push (.row [] sz e)):=by
    cases rx with
    | nil=>exact absurd rfl h0
    | cons a r =>
      unfold appP
      rcases ht with rfl | rfl
      all_goals
       simp only [List.length_nil,Nat.zero_add] at h1 ⊢
       simp only [h1,h2,h3,hs,decide_true,Bool.true_and,Bool.and_true,List.all_nil,if_true,List.nil_append]
   refine ⟨.tok H.n,H.push (.row [] sz e),by rw [List.nil_append];exact e0,.inr ⟨H.n,rfl,by simpa using h0,hb,by simp,by rw [Heap.get_push,if_pos rfl]⟩,by simp,fun i hi=>by rw [Heap.get_push,if_neg (by omega)],fun i hi _=>by rw [Heap.get_push,if_neg (by omega)]⟩
 · have e0:=app_next (lo:=lo) h0 h1 h2 h3 h4 h8 (Nat.le_trans hlo hbj) h6
   rw [hs] at e0
   refine ⟨.tok H.n,(H.set j .dead).push (.row [] sz e),e0,.inr ⟨H.n,rfl,by simp [h6],hb,by simp,by rw [Heap.get_push,if_pos (by simp)]⟩,by simp,fun i hi => ?_,fun i hi hne => ?_⟩
   · rw [Heap.get_push,if_neg (by simp;omega),Heap.get_set,if_neg (by omega)]
   · rw [Heap.get_push,if_neg (by simp;omega),Heap.get_set,if_neg (fun he=>hne (by rw [he];exact h8))]
theorem AppE.keep {b:Nat} {H H':Heap} {t:Tok} {rows:List (List AV)} {sz:Nat} {e:TypeId} (h:AppE b H t rows sz e) (hn:H.n≤H'.n) (hg:∀ i,i < H.n→b≤i→H.get i=.row [] sz e→H'.get i=H.get i):AppE b H' t rows sz e:=by
 rcases h with h | ⟨j,rfl,h6,hb,h7,h8⟩
 · exact .inl h
 · exact .inr ⟨j,rfl,h6,hb,by omega,by rw [hg j h7 hb h8,h8]⟩
/-! ### Lines in a block -/
abbrev LT:Type:=Tok × Ln
def lnCs (L:List LT):List AV:=L.flatMap fun x=>[.str x.2.name,.ps x.1 (x.2.ps.map Pc.row)]
theorem lnCs_app (a b:List LT):lnCs (a++b)=lnCs a++lnCs b:=by unfold lnCs;rw [List.flatMap_append]
theorem lnCs_len:∀ L:List LT,(lnCs L).length=L.length * 2
 | []=>rfl
 | x::r=>by
   have ih:=lnCs_len r
   show (AV.str x.2.name::AV.ps x.1 (x.2.ps.map Pc.row)::lnCs r).length=_
   simp only [List.length_cons,ih];omega
def LV (te:TypeId) (b:Nat) (H:Heap) (v:AV) (L:List LT):Prop:=(L=[]∧v=.ps .nil [])∨(L ≠ [] ∧ ∃ id,v=.rs id 0 L.length 2 none∧b≤id∧id < H.n∧H.get id=.row (lnCs L) 2 te)
def LastE (pe:TypeId) (b:Nat) (H:Heap) (L:List LT):Prop:=∀ t l,L.getLast? = some (t,l)→AppE b H t (l.ps.map Pc.row) 3 pe
theorem appL {te:TypeId} {lo b:Nat} {H:Heap} {v:AV} {L:List LT} (x:LT) (h:LV te b H v L) (hlo:lo≤b) (hb:b≤H.n) (hL:L.length+1≤maxRows) :
 ∃ id H',appR lo H 2 te v [[.str x.2.name,.ps x.1 (x.2.ps.map Pc.row)]]=some (.rs id 0 (L.length+1) 2 none,H')∧LV te b H' (.rs id 0 (L.length+1) 2 none) (L++[x])∧H.n≤H'.n∧(∀ i,i < b→H'.get i=H.get i) ∧ ∀ i,i < H.n→(∀ cs,H.get i ≠ .row cs 2 te)→H'.get i=H.get i:=by
 have hcs:lnCs [x]=[.str x.2.name,.ps x.1 (x.2.ps.map Pc.row)]:=rfl
 rcases h with ⟨rfl,rfl⟩ | ⟨h0,id,rfl,h1,h2,h3⟩
 · refine ⟨H.n,H.push (.row (lnCs [x]) 2 te), ?_,.inr ⟨by simp,H.n,rfl,hb,by simp,by rw [Heap.get_push,if_pos rfl];rfl⟩,by simp,fun i hi=>by rw [Heap.get_push,if_neg (by omega)],fun i hi _=>by rw [Heap.get_push,if_neg (by omega)]⟩
   rfl
 · have hl:=lnCs_len L
   refine ⟨H.n,(H.set id .dead).push (.row (lnCs (L++[x])) 2 te), ?_,.inr ⟨by simp,H.n,by simp,hb,by simp,by rw [Heap.get_push,if_pos (by simp)]⟩,by simp,fun i hi => ?_,fun i hi hne => ?_⟩
   · unfold appR
     have c1:decide (L.length+[[AV.str x.2.name,AV.ps x.1 (x.2.ps.map Pc.row)]].length≤maxRows)=true:=by simpa using hL
     have c2:decide (lo≤id)=true:=by simp;omega
     simp only [c1,c2,h3,hl,List.drop_zero,Nat.zero_add]
     have e1:lnCs (L++[x])=lnCs L++[AV.str x.2.name,AV.ps x.1 (x.2.ps.map Pc.row)]:=by rw [lnCs_app];rfl
     rw [e1]
     rfl
   · rw [Heap.get_push,if_neg (by simp;omega),Heap.get_set,if_neg (by omega)]
   · rw [Heap.get_push,if_neg (by simp;omega),Heap.get_set,if_neg (fun he=>hne _ (by rw [he];exact h3))]
theorem LV.keep {te:TypeId} {b:Nat} {H H':Heap} {v:AV} {L:List LT} (h:LV te b H v L) (hn:H.n≤H'.n) (hg:∀ i cs,i < H.n→b≤i→H.get i=.row cs 2 te→H'.get i=H.get i):LV te b H' v L:=by
 rcases h with h | ⟨h0,id,rfl,h1,h2,h3⟩
 · exact .inl h
 · exact .inr ⟨h0,id,rfl,h1,by omega,by rw [hg id _ h2 h1 h3,h3]⟩
theorem pc_pure (l:List Pc):(l.map Pc.row).all pureRow=true:=by
 rw [List.all_eq_true];intro r hr
 obtain ⟨x,_,rfl⟩:=List.mem_map.1 hr
 rfl
theorem pc_strip (l:List Pc):(l.map Pc.row).map (List.map AV.strip0)=l.map Pc.row:=strip_id (by
 intro r hr
 obtain ⟨x,_,rfl⟩:=List.mem_map.1 hr
 rfl)
theorem pc_all (l:List Pc):(l.map Pc.row).all (fun r=>decide (r.length=3))=true:=rows_all (by intro x;rfl) l
end Go.Sim

/-
Texts: OwnNetwork: the walk.
-/
namespace Go.Sim
open Go Go.Proofs
set_option maxRecDepth 100000
set_option maxHeartbeats 32000000
theorem sw_pure (l:List Sw):(l.map Sw.row).all pureRow=true:=by
 rw [List.all_eq_true];intro r hr
 obtain ⟨x,_,rfl⟩:=List.mem_map.1 hr
 rfl
theorem sw_strip (l:List Sw):(l.map Sw.row).map (List.map AV.strip0)=l.map Sw.row:=strip_id (by
 intro r hr
 obtain ⟨x,_,rfl⟩:=List.mem_map.1 hr
 rfl)
theorem sw_all (l:List Sw):(l.map Sw.row).all (fun r=>decide (r.length=5))=true:=rows_all (by intro x;rfl) l
theorem stc_pure (l:List Stc):(l.map Stc.row).all pureRow=true:=by
 rw [List.all_eq_true];intro r hr
 obtain ⟨x,_,rfl⟩:=List.mem_map.1 hr
 rfl
theorem stc_strip (l:List Stc):(l.map Stc.row).map (List.map AV.strip0)=l.map Stc.row:=strip_id (by
 intro r hr
 obtain ⟨x,_,rfl⟩:=List.mem_map.1 hr
 rfl)
theorem stc_all (l:List Stc):(l.map Stc.row).all (fun r=>decide (r.length=5))=true:=rows_all (by intro x;rfl) l
theorem lit22 (a:List Nat) (t:Tok) (rows:List (List AV)) (H:Heap):abuildLit NC.P H 22 1 [(0,.agg [.str a,.ps t rows])]=some (.rs H.n 0 1 2 (some 1),H.push (.cells [.str a,.ps t rows] 56)):=by
 have e1:elemOf NC.P 22=some 56:=by kernel_rfl
 have e2:szOf NC.P 56=some 2:=by kernel_rfl
 have e3:(zeroOf NC.P 56).isSome=true:=by kernel_rfl
 unfold abuildLit
 rw [e1]
 simp only
 rw [e2]
 simp only
 rw [e3]
 rfl
structure Own22 (b:Nat) (H:Heap) (v:AV) (n:Net):Prop where
 ex:∃ (lv:AV) (L:List LT) (t2 t3:Tok),v=.agg [lv,.ps t2 (n.sws.map Sw.row),.ps t3 (n.sts.map Stc.row)]∧LV 56 b H lv L∧L.map Prod.snd=n.lines∧LastE 97 b H L∧AppE b H t2 (n.sws.map Sw.row) 5 191∧AppE b H t3 (n.sts.map Stc.row) 5 193
theorem r222 (n:Net) (hn:n.Ok) (H:Heap):∃ v H',R WR (.call H.n 222 [.agg n.cells] H)=some (.ofVal v H')∧H.n+3≤H'.n∧(∀ i,i < H.n→H'.get i=H.get i)∧Own22 (H.n+3) H' v n:=by
 have key:=R_of_body (C:=WR) (f:=222) (lo:=H.n) (args:=[.agg n.cells]) (H:=H) (fn:=Tryz.f222) (Q:=fun v H'=>H.n+3≤H'.n∧(∀ i,i < H.n→H'.get i=H.get i)∧Own22 (H.n+3) H' v n) (by kernel_rfl) Tryz.func222 rfl rfl ?_
 · obtain ⟨v,H',h1,h2⟩:=key
   exact ⟨v,H',h1,h2⟩
 have lo0:(H.n≤H.n+1+1)=True:=by simp only [eq_iff_iff,iff_true];omega
 have lo2:(H.n≤H.n+2)=True:=by simp only [eq_iff_iff,iff_true];omega
 have lo1:(H.n≤H.n+1)=True:=by simp only [eq_iff_iff,iff_true];omega
 simp only [go_sem,reduceIte,reduceEqDiff,reduceAdd,reduceMul,reduceSub,reduceLeDiff,reduceLT,Nat.reduceBEq,reduceCtorEq,Net.cells]
 refine W_for (fun k T Ha M=>M=[]∧getT T 1=.ptr H.n 0∧getT T 2=.ptr (H.n+1) 0∧getT T 3=.ptr (H.n+2) 0∧getT T 4=i64 k∧H.n+3≤Ha.n∧(∀ i,i < H.n→Ha.get i=H.get i)∧Ha.get H.n=.cells [.ps .unk (n.lines.map Ln.row),.ps .unk (n.sws.map Sw.row),.ps .unk (n.sts.map Stc.row)] 26∧Ha.get (H.n+1)=.cells [.ps .nil [],.ps .nil [],.ps .nil []] 26 ∧ ∃ (lv:AV) (L:List LT),Ha.get (H.n+2)=.cells [lv,.ps .nil [],.ps .nil []] 26∧LV 56 (H.n+3) Ha lv L∧L.map Prod.snd=n.lines.take k∧LastE 97 (H.n+3) Ha L) n.lines.length ?_ ?_ ?_
 · simp only [go_sem,reduceIte,reduceEqDiff,reduceAdd,reduceMul,reduceSub,reduceLeDiff,reduceLT,Nat.reduceBEq,reduceCtorEq,List.length_map]
   refine ⟨fun i hi=>by rw [if_neg (by omega),if_neg (by omega),if_neg (by omega)],.ps .nil [],[],rfl,.inl ⟨rfl,rfl⟩,rfl,fun t l h=>by cases h⟩
 · rintro k T Ha M hk ⟨rfl,g1,g2,g3,g4,hN,hO,h0,h1,lv,L,h2,hL,hLs,hLe⟩
   obtain ⟨l,hp⟩:∃ p,n.lines[k]? = some p:=⟨n.lines[k],by simp⟩
   have hmem:=List.mem_of_getElem? hp
   have hfit:=(hn.line l hmem).2
   have hr:=map_at (f:=Ln.row) hp
   have hw:=wrap_succ hk hn.lines
   have hLl:L.length=k:=by
    have:=congrArg List.length hLs
    simp only [List.length_map,List.length_take] at this
    omega
   obtain ⟨t',H1,ha,hE,hn1,hb1,hc1⟩:=appE (lo:=H.n) (b:=H.n+3) (H:=Ha) (t:=.exact) (rows:=[]) (rx:=l.ps.map Pc.row) (sz:=3) (e:=97) (.inl ⟨rfl,.inr rfl⟩) (by omega) hN (by simpa using hfit) (pc_pure _) (pc_strip _) (by decide) rfl
   rw [List.nil_append] at ha hE
   have hL1:LV 56 (H.n+3) (H1.push (.cells [.str l.name,.ps t' (l.ps.map Pc.row)] 56)) lv L:=(hL.keep (H':=H1) hn1 fun i cs hi _ hc=>hc1 i hi (by rw [hc];intro h;cases h)).keep (by simp) fun i cs hi _ hc=>by rw [Heap.get_push,if_neg (by omega)]
   obtain ⟨id,H2,hb,hL2,hn2,hb2,hc2⟩:=appL (lo:=H.n) (t',l) hL1 (by omega) (by simp;omega) (by rw [hLl];unfold maxRows;have:=hn.lines;unfold maxRows at this;omega)
   simp only [Heap.n_push] at hn2
   have kk:∀ i,i < H.n+3→H2.get i=Ha.get i:=fun i hi=>by rw [hb2 i hi,Heap.get_push,if_neg (by omega),hb1 i hi]
   have k0:=(kk H.n (by omega)).trans h0
   have k1:=(kk (H.n+1) (by omega)).trans h1
   have k2:=(kk (H.n+2) (by omega)).trans h2
   have hra:=pc_all l.ps
   have hch:∀ a b:AV,chunks 2 1 [a,b]=some [[a,b]]:=fun _ _=>rfl
   have hli:=lit22 l.name t' (l.ps.map Pc.row) H1
   have u1:H1.n=H1.n:=rfl
   have hlt:(H.n+2 < H1.n)=True:=by simp only [eq_iff_iff,iff_true];omega
   obtain ⟨ln,lp⟩:=l
   simp only [Ln.row] at hr
   simp only at ha hb hra hli
   simp only [go_sem,reduceIte,reduceEqDiff,reduceAdd,reduceMul,reduceSub,reduceLeDiff,reduceLT,Nat.reduceBEq,reduceCtorEq,g1,g2,g3,g4,h0,h1,h2,List.length_map,hk,hr,hw,appO,hra,ha,hli,hch,hb,k0,k1,k2,lo2]
   refine ⟨by omega,fun i hi=>by rw [if_neg (by omega),kk i (by omega),hO i hi],_,L++[(t',⟨ln,lp⟩)],rfl, ?_, ?_, ?_⟩
   · have e:(L++[(t',(⟨ln,lp⟩:Ln))]).length=L.length+1:=by simp
     exact hL2.keep (by simp) fun i cs hi hb' _=>by rw [Heap.get_set,if_neg (by omega)]
   · rw [List.map_append,hLs,List.take_add_one,hp];rfl
   · intro t l hl
     rw [List.getLast?_concat] at hl
     cases hl
     refine hE.keep (by simp;omega) fun i hi hbi hc => ?_
     rw [Heap.get_set,if_neg (by omega),hc2 i (by simp;omega) (fun cs=>by rw [Heap.get_push,if_neg (by omega),hc];intro h;cases h),Heap.get_push,if_neg (by omega)]
 · rintro T Ha M ⟨rfl,g1,g2,g3,g4,hN,hO,h0,h1,lv,L,h2,hL,hLs,hLe⟩
   rw [List.take_length] at hLs
   obtain ⟨u2,H1,ha,hE,hn1,hb1,hc1⟩:=appE (lo:=H.n) (b:=H.n+3) (H:=Ha) (t:=.nil) (rows:=[]) (rx:=n.sws.map Sw.row) (sz:=5) (e:=191) (.inl ⟨rfl,.inl rfl⟩) (by omega) hN (by simpa using hn.sws) (sw_pure _) (sw_strip _) (by decide) rfl
   obtain ⟨u3,H2,hb,hE2,hn2,hb2,hc2⟩:=appE (lo:=H.n) (b:=H.n+3) (H:=H1.set (H.n+2) (.cells [lv,.ps u2 (n.sws.map Sw.row),.ps .nil []] 26)) (t:=.nil) (rows:=[]) (rx:=n.sts.map Stc.row) (sz:=5) (e:=193) (.inl ⟨rfl,.inl rfl⟩) (by omega) (by simp;omega) (by simpa using hn.sts) (stc_pure _) (stc_strip _) (by decide) rfl
   rw [List.nil_append] at ha hE hb hE2
   simp only [Heap.n_set] at hn2
   have ws:=sw_all n.sws
   have wt:=stc_all n.sts
   have k0:=(hb1 H.n (by omega)).trans h0
   have k1:=(hb1 (H.n+1) (by omega)).trans h1
   have k2:=(hb1 (H.n+2) (by omega)).trans h2
   have j0:H2.get H.n=.cells [.ps .unk (n.lines.map Ln.row),.ps .unk (n.sws.map Sw.row),.ps .unk (n.sts.map Stc.row)] 26:=by rw [hb2 _ (by omega),Heap.get_set,if_neg (by omega)];exact k0
   have j1:H2.get (H.n+1)=.cells [.ps .nil [],.ps .nil [],.ps .nil []] 26:=by rw [hb2 _ (by omega),Heap.get_set,if_neg (by omega)];exact k1
   have j2:H2.get (H.n+2)=.cells [lv,.ps u2 (n.sws.map Sw.row),.ps .nil []] 26:=by rw [hb2 _ (by omega),Heap.get_set,if_pos rfl]
   have n12:(H.n+1=H.n+2)=False:=by simp only [eq_iff_iff,iff_false];omega
   have n02:(H.n=H.n+2)=False:=by simp only [eq_iff_iff,iff_false];omega
   have n21:(H.n+2=H.n+1)=False:=by simp only [eq_iff_iff,iff_false];omega
   have hO2:∀ i,i < H.n→H2.get i=H.get i:=fun i hi=>by rw [hb2 _ (by omega),Heap.get_set,if_neg (by omega),hb1 _ (by omega),hO i hi]
   have hfin:Own22 (H.n+3) ((H2.set (H.n+2) (.cells [lv,.ps u2 (n.sws.map Sw.row),.ps u3 (n.sts.map Stc.row)] 26)).set (H.n+1) (.cells [lv,.ps u2 (n.sws.map Sw.row),.ps u3 (n.sts.map Stc.row)] 26)) (.agg [lv,.ps u2 (n.sws.map Sw.row),.ps u3 (n.sts.map Stc.row)]) n:=by
    have keep:∀ i,i < Ha.n→H.n+3≤i→(∀ cs,Ha.get i=.row cs 2 56∨Ha.get i=.row [] 3 97→H2.get i=Ha.get i):=fun i hi hbi cs hc=>by
     have e1:H1.get i=Ha.get i:=hc1 i hi (by rcases hc with hc | hc<;>rw [hc]<;>intro h<;>cases h)
     rw [hc2 i (by simp;omega) (by rw [Heap.get_set,if_neg (by omega),e1];rcases hc with hc | hc<;>rw [hc]<;>intro h<;>cases h),Heap.get_set,if_neg (by omega),e1]
    refine ⟨lv,L,u2,u3,rfl,hL.keep (by simp;omega) fun i cs hi hbi hc => ?_,hLs,fun t l hl=>(hLe t l hl).keep (by simp;omega) fun i hi hbi hc => ?_,hE.keep (by simp;omega) fun i hi hbi hc => ?_,hE2.keep (by simp) fun i hi hbi hc => ?_⟩
    · rw [Heap.get_set,if_neg (by omega),Heap.get_set,if_neg (by omega)];exact keep i hi hbi cs (.inl hc)
    · rw [Heap.get_set,if_neg (by omega),Heap.get_set,if_neg (by omega)];exact keep i hi hbi [] (.inr hc)
    · rw [Heap.get_set,if_neg (by omega),Heap.get_set,if_neg (by omega),hc2 i (by simp;omega) (by rw [Heap.get_set,if_neg (by omega),hc];intro h;cases h),Heap.get_set,if_neg (by omega)]
    · rw [Heap.get_set,if_neg (by omega),Heap.get_set,if_neg (by omega)]
   rcases hL with ⟨hL0,rfl⟩ | ⟨hL0,id,rfl,hid⟩
   all_goals
    simp only [go_sem,reduceIte,reduceEqDiff,reduceAdd,reduceMul,reduceSub,reduceLeDiff,reduceLT,Nat.reduceBEq,reduceCtorEq,g1,g2,g3,g4,h0,h1,h2,k0,k1,k2,j0,j1,j2,n12,n02,n21,List.length_map,Nat.lt_irrefl,appO,ws,wt,ha,hb,lo1,lo2]
    refine ⟨by omega,fun i hi => ?_,hfin⟩
    rw [if_neg (by omega),if_neg (by omega)]
    exact hO2 i hi
end Go.Sim

/-
Texts: lines in a block, read as lists.
-/
namespace Go.Sim
open Go Go.Proofs
set_option maxRecDepth 100000
set_option maxHeartbeats 32000000
def lnFl (L:List Ln):List AV:=L.flatMap fun l=>[.str l.name,.ps .unk (l.ps.map Pc.row)]
theorem deepC_lns (k:Nat) (H:Heap):∀ L:List LT,deepC (deep (k+1) H) (lnCs L)=some (lnFl (L.map Prod.snd))
 | []=>rfl
 | (t,l)::r=>by
   have ih:=deepC_lns k H r
   show deepC (deep (k+1) H) (.str l.name :: .ps t (l.ps.map Pc.row)::lnCs r)=_
   have e1:deep (k+1) H (.str l.name)=some (.str l.name):=rfl
   have e2:deep (k+1) H (.ps t (l.ps.map Pc.row))=some (.ps .unk (l.ps.map Pc.row)):=rfl
   unfold deepC
   rw [e1]
   simp only
   unfold deepC
   rw [e2]
   simp only
   rw [ih]
   rfl
theorem chunks_lns:∀ L:List Ln,chunks 2 L.length (lnFl L)=some (L.map Ln.row)
 | []=>rfl
 | l::r=>by
   have ih:=chunks_lns r
   show chunks 2 (r.length+1) (.str l.name :: .ps .unk (l.ps.map Pc.row)::lnFl r)=_
   unfold chunks
   rw [if_pos (by simp)]
   show (match chunks 2 r.length (lnFl r) with
    | some l'=>some ([AV.str l.name,AV.ps .unk (l.ps.map Pc.row)]::l')
    | none=>none)=_
   rw [ih];rfl
theorem deep_lv {te:TypeId} {b:Nat} {H:Heap} {v:AV} {L:List LT} (h:LV te b H v L) (k:Nat):deep (k+2) H v=some (.ps .unk ((L.map Prod.snd).map Ln.row)):=by
 rcases h with ⟨rfl,rfl⟩ | ⟨h0,id,rfl,_,_,h3⟩
 · rfl
 · have hr:readCells H (.ptr id 0) (L.length * 2)=some (lnCs L):=by
    unfold readCells
    simp only [h3]
    have:=lnCs_len L
    simp only [blkCells,sub?,Nat.zero_add,List.drop_zero,this,Nat.le_refl,if_true]
    rw [List.take_of_length_le (by omega)]
   have hc:=chunks_lns (L.map Prod.snd)
   rw [List.length_map] at hc
   show (match readCells H (.ptr id 0) (L.length * 2) with
    | some cs=>match deepC (deep (k+1) H) cs with
      | some cs'=>match chunks 2 L.length cs' with
        | some rows=>some (AV.ps .unk rows)
        | none=>none
      | none=>none
    | none=>none)=_
   rw [hr]
   simp only
   rw [deepC_lns]
   simp only
   rw [hc]
end Go.Sim
