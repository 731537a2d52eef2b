/-
The parts NetFacts, SimYield, NetData, SimCase, NetSet, NetL0, NetL1, NetL2, NetL3 of one proof, joined: each begins with a remark that says what it shows.
-/
import Derived.Test.YtepaopekeidlmaaGreatDoorT12
set_option linter.unusedSimpArgs false
set_option linter.unusedVariables false

/-
Facts on the types and the regions of this program.
-/
namespace Go.Sim
open Go Go.Proofs
theorem frzNC (f : FuncId) (t : TypeId) : NC.frz f t = false := Eq.trans rfl rfl
/-- Where a field lies. -/
noncomputable def fplace (t i : Nat) : Option (Nat × Nat) := match NC.P.underlying t with
  | some (.struct fs) => fieldPlaces NC.P fs i
  | _ => none
theorem sz_26 : szOf NC.P 26 = some 3 := by kernel_rfl
theorem ag_26 : aggOf NC.P 26 = some true := by kernel_rfl
theorem sz_9 : szOf NC.P 9 = some 1 := by kernel_rfl
theorem ag_9 : aggOf NC.P 9 = some false := by kernel_rfl
theorem un_9 : NC.P.underlying 9 = some (.string) := by kernel_rfl
theorem sz_28 : szOf NC.P 28 = some 2 := by kernel_rfl
theorem ag_28 : aggOf NC.P 28 = some true := by kernel_rfl
theorem ze_42 : zeroOf NC.P 42 = some (.agg [.str [], .int .i64 0, .int .i64 0]) := by kernel_rfl
theorem sz_42 : szOf NC.P 42 = some 3 := by kernel_rfl
theorem sz_30 : szOf NC.P 30 = some 3 := by kernel_rfl
theorem ag_30 : aggOf NC.P 30 = some true := by kernel_rfl
theorem ze_45 : zeroOf NC.P 45 = some (.agg [.str [], .int .i64 0]) := by kernel_rfl
theorem sz_45 : szOf NC.P 45 = some 2 := by kernel_rfl
theorem ze_30 : zeroOf NC.P 30 = some (.agg [.str [], .int .i64 0, .int .i64 0]) := by kernel_rfl
theorem ze_28 : zeroOf NC.P 28 = some (.agg [.str [], .int .i64 0]) := by kernel_rfl
theorem sz_22 : szOf NC.P 22 = some 1 := by kernel_rfl
theorem ag_22 : aggOf NC.P 22 = some false := by kernel_rfl
theorem un_22 : NC.P.underlying 22 = some (.slice 56) := by kernel_rfl
theorem sz_56 : szOf NC.P 56 = some 2 := by kernel_rfl
theorem ag_56 : aggOf NC.P 56 = some true := by kernel_rfl
theorem un_3 : NC.P.underlying 3 = some (.int .i64) := by kernel_rfl
theorem un_33 : NC.P.underlying 33 = some (.int .i64) := by kernel_rfl
theorem ag_42 : aggOf NC.P 42 = some true := by kernel_rfl
theorem ag_45 : aggOf NC.P 45 = some true := by kernel_rfl
theorem sz_3 : szOf NC.P 3 = some 1 := by kernel_rfl
theorem ag_3 : aggOf NC.P 3 = some false := by kernel_rfl
theorem el_70 : elemOf NC.P 70 = some 3 := by kernel_rfl
theorem ze_3 : zeroOf NC.P 3 = some (.int .i64 0) := by kernel_rfl
theorem un_70 : NC.P.underlying 70 = some (.slice 3) := by kernel_rfl
theorem un_63 : NC.P.underlying 63 = some (.slice 224) := by kernel_rfl
theorem un_72 : NC.P.underlying 72 = some (.slice 185) := by kernel_rfl
theorem un_79 : NC.P.underlying 79 = some (.slice 128) := by kernel_rfl
theorem un_80 : NC.P.underlying 80 = some (.array 2 26) := by kernel_rfl
theorem un_83 : NC.P.underlying 83 = some (.slice 130) := by kernel_rfl
theorem un_4 : NC.P.underlying 4 = some (.bool) := by kernel_rfl
theorem ze_56 : zeroOf NC.P 56 = some (.agg [.str [], .ps .nil []]) := by kernel_rfl
theorem bs_45 (parts : List (Nat × AV)) : abuild NC.P 45 parts = match afill (fun i => fplace 45 i) [.str [], .int .i64 0] parts with
    | some cs => some (.agg cs)
    | none => none := by kernel_rfl
theorem fp_45_0 : fplace 45 0 = some (0, 1) := by kernel_rfl
theorem fp_45_1 : fplace 45 1 = some (1, 1) := by kernel_rfl
theorem un_95 : NC.P.underlying 95 = some (.map 42 4) := by kernel_rfl
theorem ze_4 : zeroOf NC.P 4 = some (.bool false) := by kernel_rfl
theorem sz_54 : szOf NC.P 54 = some 1 := by kernel_rfl
theorem ag_54 : aggOf NC.P 54 = some false := by kernel_rfl
theorem un_54 : NC.P.underlying 54 = some (.slice 97) := by kernel_rfl
theorem sz_97 : szOf NC.P 97 = some 3 := by kernel_rfl
theorem sz_4 : szOf NC.P 4 = some 1 := by kernel_rfl
theorem ag_4 : aggOf NC.P 4 = some false := by kernel_rfl
theorem un_94 : NC.P.underlying 94 = some (.int .u16) := by kernel_rfl
theorem un_98 : NC.P.underlying 98 = some (.slice 42) := by kernel_rfl
theorem un_107 : NC.P.underlying 107 = some (.slice 137) := by kernel_rfl
theorem un_113 : NC.P.underlying 113 = some (.slice 135) := by kernel_rfl
theorem un_114 : NC.P.underlying 114 = some (.array 2 3) := by kernel_rfl
theorem un_117 : NC.P.underlying 117 = some (.slice 188) := by kernel_rfl
theorem sz_128 : szOf NC.P 128 = some 6 := by kernel_rfl
theorem ag_128 : aggOf NC.P 128 = some true := by kernel_rfl
theorem ze_128 : zeroOf NC.P 128 = some (.agg [.str [], .int .i64 0, .int .i64 0, .str [], .int .i64 0, .bool false]) := by kernel_rfl
theorem el_129 : elemOf NC.P 129 = some 83 := by kernel_rfl
theorem sz_83 : szOf NC.P 83 = some 1 := by kernel_rfl
theorem ze_83 : zeroOf NC.P 83 = some (.ps .nil []) := by kernel_rfl
theorem un_129 : NC.P.underlying 129 = some (.slice 83) := by kernel_rfl
theorem ag_83 : aggOf NC.P 83 = some false := by kernel_rfl
theorem sz_130 : szOf NC.P 130 = some 6 := by kernel_rfl
theorem ag_130 : aggOf NC.P 130 = some true := by kernel_rfl
theorem ze_130 : zeroOf NC.P 130 = some (.agg [.str [], .int .i64 0, .int .i64 0, .str [], .int .i64 0, .bool false]) := by kernel_rfl
theorem ze_133 : zeroOf NC.P 133 = some (.agg [.int .i64 0, .int .i64 0, .int .i64 0]) := by kernel_rfl
theorem un_131 : NC.P.underlying 131 = some (.array 3 5) := by kernel_rfl
theorem sz_5 : szOf NC.P 5 = some 1 := by kernel_rfl
theorem ag_5 : aggOf NC.P 5 = some false := by kernel_rfl
theorem un_5 : NC.P.underlying 5 = some (.int .u8) := by kernel_rfl
theorem un_133 : NC.P.underlying 133 = some (.array 3 3) := by kernel_rfl
theorem sz_135 : szOf NC.P 135 = some 5 := by kernel_rfl
theorem un_132 : NC.P.underlying 132 = some (.array 2 5) := by kernel_rfl
theorem sz_137 : szOf NC.P 137 = some 4 := by kernel_rfl
theorem ag_137 : aggOf NC.P 137 = some true := by kernel_rfl
theorem un_137 : NC.P.underlying 137 = some (.array 2 28) := by kernel_rfl
theorem un_138 : NC.P.underlying 138 = some (.slice 141) := by kernel_rfl
theorem sz_141 : szOf NC.P 141 = some 3 := by kernel_rfl
theorem ag_141 : aggOf NC.P 141 = some true := by kernel_rfl
theorem ze_141 : zeroOf NC.P 141 = some (.agg [.str [], .int .i64 0, .int .i64 0]) := by kernel_rfl
theorem un_142 : NC.P.underlying 142 = some (.slice 157) := by kernel_rfl
theorem ze_156 : zeroOf NC.P 156 = some (.agg [.str [], .int .i64 0, .str [], .int .i64 0, .str [], .int .i64 0]) := by kernel_rfl
theorem un_155 : NC.P.underlying 155 = some (.array 3 132) := by kernel_rfl
theorem sz_132 : szOf NC.P 132 = some 2 := by kernel_rfl
theorem un_156 : NC.P.underlying 156 = some (.array 3 45) := by kernel_rfl
theorem sz_157 : szOf NC.P 157 = some 3 := by kernel_rfl
theorem ag_157 : aggOf NC.P 157 = some true := by kernel_rfl
theorem ze_157 : zeroOf NC.P 157 = some (.agg [.str [], .int .i64 0, .int .i64 0]) := by kernel_rfl
theorem bs_157 (parts : List (Nat × AV)) : abuild NC.P 157 parts = match afill (fun i => fplace 157 i) [.str [], .int .i64 0, .int .i64 0] parts with
    | some cs => some (.agg cs)
    | none => none := by kernel_rfl
theorem fp_157_0 : fplace 157 0 = some (0, 1) := by kernel_rfl
theorem fp_157_1 : fplace 157 1 = some (1, 1) := by kernel_rfl
theorem fp_157_2 : fplace 157 2 = some (2, 1) := by kernel_rfl
theorem el_142 : elemOf NC.P 142 = some 157 := by kernel_rfl
theorem by_157 : bytesOf NC.P 157 = some 32 := by kernel_rfl
theorem un_163 : NC.P.underlying 163 = some (.slice 30) := by kernel_rfl
theorem un_160 : NC.P.underlying 160 = some (.slice 9) := by kernel_rfl
theorem ze_40 : zeroOf NC.P 40 = some (.agg [.ps .nil [], .ps .nil [], .ps .nil []]) := by kernel_rfl
theorem sz_40 : szOf NC.P 40 = some 3 := by kernel_rfl
theorem ze_26 : zeroOf NC.P 26 = some (.agg [.ps .nil [], .ps .nil [], .ps .nil []]) := by kernel_rfl
theorem ag_40 : aggOf NC.P 40 = some true := by kernel_rfl
theorem sz_23 : szOf NC.P 23 = some 1 := by kernel_rfl
theorem ag_23 : aggOf NC.P 23 = some false := by kernel_rfl
theorem un_23 : NC.P.underlying 23 = some (.slice 191) := by kernel_rfl
theorem sz_24 : szOf NC.P 24 = some 1 := by kernel_rfl
theorem ag_24 : aggOf NC.P 24 = some false := by kernel_rfl
theorem un_24 : NC.P.underlying 24 = some (.slice 193) := by kernel_rfl
theorem bs_42 (parts : List (Nat × AV)) : abuild NC.P 42 parts = match afill (fun i => fplace 42 i) [.str [], .int .i64 0, .int .i64 0] parts with
    | some cs => some (.agg cs)
    | none => none := by kernel_rfl
theorem fp_42_0 : fplace 42 0 = some (0, 1) := by kernel_rfl
theorem fp_42_1 : fplace 42 1 = some (1, 1) := by kernel_rfl
theorem fp_42_2 : fplace 42 2 = some (2, 1) := by kernel_rfl
theorem bs_30 (parts : List (Nat × AV)) : abuild NC.P 30 parts = match afill (fun i => fplace 30 i) [.str [], .int .i64 0, .int .i64 0] parts with
    | some cs => some (.agg cs)
    | none => none := by kernel_rfl
theorem fp_30_0 : fplace 30 0 = some (0, 1) := by kernel_rfl
theorem fp_30_1 : fplace 30 1 = some (1, 1) := by kernel_rfl
theorem fp_30_2 : fplace 30 2 = some (2, 1) := by kernel_rfl
theorem el_163 : elemOf NC.P 163 = some 30 := by kernel_rfl
theorem bs_141 (parts : List (Nat × AV)) : abuild NC.P 141 parts = match afill (fun i => fplace 141 i) [.str [], .int .i64 0, .int .i64 0] parts with
    | some cs => some (.agg cs)
    | none => none := by kernel_rfl
theorem fp_141_0 : fplace 141 0 = some (0, 1) := by kernel_rfl
theorem fp_141_1 : fplace 141 1 = some (1, 1) := by kernel_rfl
theorem fp_141_2 : fplace 141 2 = some (2, 1) := by kernel_rfl
theorem el_138 : elemOf NC.P 138 = some 141 := by kernel_rfl
theorem ze_183 : zeroOf NC.P 183 = some (.agg [.int .i64 0, .int .i64 0]) := by kernel_rfl
theorem bs_183 (parts : List (Nat × AV)) : abuild NC.P 183 parts = match afill (fun i => fplace 183 i) [.int .i64 0, .int .i64 0] parts with
    | some cs => some (.agg cs)
    | none => none := by kernel_rfl
theorem fp_183_0 : fplace 183 0 = some (0, 1) := by kernel_rfl
theorem fp_183_1 : fplace 183 1 = some (1, 1) := by kernel_rfl
theorem ze_185 : zeroOf NC.P 185 = some (.agg [.str [], .int .i64 0, .int .i64 0]) := by kernel_rfl
theorem bs_185 (parts : List (Nat × AV)) : abuild NC.P 185 parts = match afill (fun i => fplace 185 i) [.str [], .int .i64 0, .int .i64 0] parts with
    | some cs => some (.agg cs)
    | none => none := by kernel_rfl
theorem fp_185_0 : fplace 185 0 = some (0, 1) := by kernel_rfl
theorem fp_185_1 : fplace 185 1 = some (1, 2) := by kernel_rfl
theorem el_72 : elemOf NC.P 72 = some 185 := by kernel_rfl
theorem sz_185 : szOf NC.P 185 = some 3 := by kernel_rfl
theorem bs_130 (parts : List (Nat × AV)) : abuild NC.P 130 parts = match afill (fun i => fplace 130 i) [.str [], .int .i64 0, .int .i64 0, .str [], .int .i64 0, .bool false] parts with
    | some cs => some (.agg cs)
    | none => none := by kernel_rfl
theorem fp_130_0 : fplace 130 0 = some (0, 1) := by kernel_rfl
theorem fp_130_1 : fplace 130 1 = some (1, 1) := by kernel_rfl
theorem fp_130_2 : fplace 130 2 = some (2, 1) := by kernel_rfl
theorem fp_130_3 : fplace 130 3 = some (3, 1) := by kernel_rfl
theorem fp_130_4 : fplace 130 4 = some (4, 1) := by kernel_rfl
theorem fp_130_5 : fplace 130 5 = some (5, 1) := by kernel_rfl
theorem el_83 : elemOf NC.P 83 = some 130 := by kernel_rfl
theorem ze_188 : zeroOf NC.P 188 = some (.agg [.int .i64 0, .ps .nil [], .ps .nil [], .ps .nil [], .ps .nil []]) := by kernel_rfl
theorem bs_188 (parts : List (Nat × AV)) : abuild NC.P 188 parts = match afill (fun i => fplace 188 i) [.int .i64 0, .ps .nil [], .ps .nil [], .ps .nil [], .ps .nil []] parts with
    | some cs => some (.agg cs)
    | none => none := by kernel_rfl
theorem fp_188_0 : fplace 188 0 = some (0, 1) := by kernel_rfl
theorem fp_188_1 : fplace 188 1 = some (1, 3) := by kernel_rfl
theorem fp_188_2 : fplace 188 2 = some (4, 1) := by kernel_rfl
theorem el_117 : elemOf NC.P 117 = some 188 := by kernel_rfl
theorem sz_188 : szOf NC.P 188 = some 5 := by kernel_rfl
theorem bs_128 (parts : List (Nat × AV)) : abuild NC.P 128 parts = match afill (fun i => fplace 128 i) [.str [], .int .i64 0, .int .i64 0, .str [], .int .i64 0, .bool false] parts with
    | some cs => some (.agg cs)
    | none => none := by kernel_rfl
theorem fp_128_0 : fplace 128 0 = some (0, 1) := by kernel_rfl
theorem fp_128_1 : fplace 128 1 = some (1, 1) := by kernel_rfl
theorem fp_128_2 : fplace 128 2 = some (2, 1) := by kernel_rfl
theorem fp_128_3 : fplace 128 3 = some (3, 1) := by kernel_rfl
theorem fp_128_4 : fplace 128 4 = some (4, 1) := by kernel_rfl
theorem fp_128_5 : fplace 128 5 = some (5, 1) := by kernel_rfl
theorem el_79 : elemOf NC.P 79 = some 128 := by kernel_rfl
theorem sz_191 : szOf NC.P 191 = some 5 := by kernel_rfl
theorem ag_191 : aggOf NC.P 191 = some true := by kernel_rfl
theorem ze_191 : zeroOf NC.P 191 = some (.agg [.str [], .str [], .int .i64 0, .str [], .bool false]) := by kernel_rfl
theorem sz_193 : szOf NC.P 193 = some 5 := by kernel_rfl
theorem ag_193 : aggOf NC.P 193 = some true := by kernel_rfl
theorem ze_193 : zeroOf NC.P 193 = some (.agg [.str [], .str [], .str [], .int .i64 0, .int .i64 0]) := by kernel_rfl
theorem ze_196 : zeroOf NC.P 196 = some (.agg [.str [], .ps .nil []]) := by kernel_rfl
theorem sz_196 : szOf NC.P 196 = some 2 := by kernel_rfl
theorem ag_196 : aggOf NC.P 196 = some true := by kernel_rfl
theorem bs_196 (parts : List (Nat × AV)) : abuild NC.P 196 parts = match afill (fun i => fplace 196 i) [.str [], .ps .nil []] parts with
    | some cs => some (.agg cs)
    | none => none := by kernel_rfl
theorem fp_196_0 : fplace 196 0 = some (0, 1) := by kernel_rfl
theorem fp_196_1 : fplace 196 1 = some (1, 1) := by kernel_rfl
theorem ag_97 : aggOf NC.P 97 = some true := by kernel_rfl
theorem ze_97 : zeroOf NC.P 97 = some (.agg [.int .i64 0, .int .i64 0, .bool false]) := by kernel_rfl
theorem sz_194 : szOf NC.P 194 = some 1 := by kernel_rfl
theorem ag_194 : aggOf NC.P 194 = some false := by kernel_rfl
theorem el_194 : elemOf NC.P 194 = some 200 := by kernel_rfl
theorem sz_200 : szOf NC.P 200 = some 3 := by kernel_rfl
theorem ze_200 : zeroOf NC.P 200 = some (.agg [.int .i64 0, .int .i64 0, .bool false]) := by kernel_rfl
theorem un_194 : NC.P.underlying 194 = some (.slice 200) := by kernel_rfl
theorem by_200 : bytesOf NC.P 200 = some 24 := by kernel_rfl
theorem sz_36 : szOf NC.P 36 = some 1 := by kernel_rfl
theorem ag_36 : aggOf NC.P 36 = some false := by kernel_rfl
theorem el_36 : elemOf NC.P 36 = some 196 := by kernel_rfl
theorem un_36 : NC.P.underlying 36 = some (.slice 196) := by kernel_rfl
theorem by_196 : bytesOf NC.P 196 = some 40 := by kernel_rfl
theorem sz_37 : szOf NC.P 37 = some 1 := by kernel_rfl
theorem ag_37 : aggOf NC.P 37 = some false := by kernel_rfl
theorem el_37 : elemOf NC.P 37 = some 201 := by kernel_rfl
theorem sz_201 : szOf NC.P 201 = some 5 := by kernel_rfl
theorem ze_201 : zeroOf NC.P 201 = some (.agg [.str [], .str [], .int .i64 0, .str [], .bool false]) := by kernel_rfl
theorem un_37 : NC.P.underlying 37 = some (.slice 201) := by kernel_rfl
theorem by_201 : bytesOf NC.P 201 = some 64 := by kernel_rfl
theorem sz_38 : szOf NC.P 38 = some 1 := by kernel_rfl
theorem ag_38 : aggOf NC.P 38 = some false := by kernel_rfl
theorem el_38 : elemOf NC.P 38 = some 202 := by kernel_rfl
theorem sz_202 : szOf NC.P 202 = some 5 := by kernel_rfl
theorem ze_202 : zeroOf NC.P 202 = some (.agg [.str [], .str [], .str [], .int .i64 0, .int .i64 0]) := by kernel_rfl
theorem un_38 : NC.P.underlying 38 = some (.slice 202) := by kernel_rfl
theorem by_202 : bytesOf NC.P 202 = some 64 := by kernel_rfl
theorem bs_28 (parts : List (Nat × AV)) : abuild NC.P 28 parts = match afill (fun i => fplace 28 i) [.str [], .int .i64 0] parts with
    | some cs => some (.agg cs)
    | none => none := by kernel_rfl
theorem fp_28_0 : fplace 28 0 = some (0, 1) := by kernel_rfl
theorem fp_28_1 : fplace 28 1 = some (1, 1) := by kernel_rfl
theorem el_234 : elemOf NC.P 234 = some 33 := by kernel_rfl
theorem sz_33 : szOf NC.P 33 = some 1 := by kernel_rfl
theorem ze_33 : zeroOf NC.P 33 = some (.int .i64 0) := by kernel_rfl
theorem un_234 : NC.P.underlying 234 = some (.slice 33) := by kernel_rfl
theorem el_314 : elemOf NC.P 314 = some 45 := by kernel_rfl
theorem un_314 : NC.P.underlying 314 = some (.slice 45) := by kernel_rfl
theorem un_216 : NC.P.underlying 216 = some (.slice 220) := by kernel_rfl
theorem sz_220 : szOf NC.P 220 = some 3 := by kernel_rfl
theorem ag_220 : aggOf NC.P 220 = some true := by kernel_rfl
theorem ze_220 : zeroOf NC.P 220 = some (.agg [.str [], .int .i64 0, .int .i64 0]) := by kernel_rfl
theorem el_218 : elemOf NC.P 218 = some 183 := by kernel_rfl
theorem sz_183 : szOf NC.P 183 = some 2 := by kernel_rfl
theorem un_218 : NC.P.underlying 218 = some (.slice 183) := by kernel_rfl
theorem by_183 : bytesOf NC.P 183 = some 16 := by kernel_rfl
theorem ag_183 : aggOf NC.P 183 = some true := by kernel_rfl
theorem sz_224 : szOf NC.P 224 = some 3 := by kernel_rfl
theorem ze_224 : zeroOf NC.P 224 = some (.agg [.str [], .int .i64 0, .int .i64 0]) := by kernel_rfl
theorem bs_224 (parts : List (Nat × AV)) : abuild NC.P 224 parts = match afill (fun i => fplace 224 i) [.str [], .int .i64 0, .int .i64 0] parts with
    | some cs => some (.agg cs)
    | none => none := by kernel_rfl
theorem fp_224_0 : fplace 224 0 = some (0, 1) := by kernel_rfl
theorem fp_224_1 : fplace 224 1 = some (1, 2) := by kernel_rfl
theorem el_63 : elemOf NC.P 63 = some 224 := by kernel_rfl
theorem by_224 : bytesOf NC.P 224 = some 32 := by kernel_rfl
theorem ag_202 : aggOf NC.P 202 = some true := by kernel_rfl
theorem by_185 : bytesOf NC.P 185 = some 32 := by kernel_rfl
theorem ag_185 : aggOf NC.P 185 = some true := by kernel_rfl
theorem ag_224 : aggOf NC.P 224 = some true := by kernel_rfl
theorem by_130 : bytesOf NC.P 130 = some 64 := by kernel_rfl
theorem ag_200 : aggOf NC.P 200 = some true := by kernel_rfl
theorem el_98 : elemOf NC.P 98 = some 42 := by kernel_rfl
theorem by_42 : bytesOf NC.P 42 = some 32 := by kernel_rfl
theorem by_128 : bytesOf NC.P 128 = some 64 := by kernel_rfl
theorem ze_137 : zeroOf NC.P 137 = some (.agg [.str [], .int .i64 0, .str [], .int .i64 0]) := by kernel_rfl
theorem el_107 : elemOf NC.P 107 = some 137 := by kernel_rfl
theorem by_137 : bytesOf NC.P 137 = some 48 := by kernel_rfl
theorem sz_79 : szOf NC.P 79 = some 1 := by kernel_rfl
theorem ag_79 : aggOf NC.P 79 = some false := by kernel_rfl
theorem ag_135 : aggOf NC.P 135 = some true := by kernel_rfl
theorem ze_135 : zeroOf NC.P 135 = some (.agg [.int .i64 0, .ps .nil [], .ps .nil [], .ps .nil [], .ps .nil []]) := by kernel_rfl
theorem by_188 : bytesOf NC.P 188 = some 104 := by kernel_rfl
theorem ag_188 : aggOf NC.P 188 = some true := by kernel_rfl
theorem ze_246 : zeroOf NC.P 246 = some (.agg [.ps .nil [], .int .i64 0]) := by kernel_rfl
theorem sz_246 : szOf NC.P 246 = some 2 := by kernel_rfl
theorem sz_142 : szOf NC.P 142 = some 1 := by kernel_rfl
theorem ag_142 : aggOf NC.P 142 = some false := by kernel_rfl
theorem un_254 : NC.P.underlying 254 = some (.slice 4) := by kernel_rfl
theorem un_252 : NC.P.underlying 252 = some (.slice 138) := by kernel_rfl
theorem sz_138 : szOf NC.P 138 = some 1 := by kernel_rfl
theorem ag_138 : aggOf NC.P 138 = some false := by kernel_rfl
theorem by_141 : bytesOf NC.P 141 = some 32 := by kernel_rfl
theorem ag_201 : aggOf NC.P 201 = some true := by kernel_rfl
theorem un_259 : NC.P.underlying 259 = some (.array 2 45) := by kernel_rfl
theorem ze_262 : zeroOf NC.P 262 = some (.agg [.str [], .str [], .int .i64 0, .str [], .bool false, .int .i64 0]) := by kernel_rfl
theorem bs_262 (parts : List (Nat × AV)) : abuild NC.P 262 parts = match afill (fun i => fplace 262 i) [.str [], .str [], .int .i64 0, .str [], .bool false, .int .i64 0] parts with
    | some cs => some (.agg cs)
    | none => none := by kernel_rfl
theorem fp_262_0 : fplace 262 0 = some (0, 5) := by kernel_rfl
theorem fp_262_1 : fplace 262 1 = some (5, 1) := by kernel_rfl
theorem el_258 : elemOf NC.P 258 = some 262 := by kernel_rfl
theorem sz_262 : szOf NC.P 262 = some 6 := by kernel_rfl
theorem un_258 : NC.P.underlying 258 = some (.slice 262) := by kernel_rfl
theorem by_262 : bytesOf NC.P 262 = some 72 := by kernel_rfl
theorem by_30 : bytesOf NC.P 30 = some 32 := by kernel_rfl
theorem el_160 : elemOf NC.P 160 = some 9 := by kernel_rfl
theorem ze_9 : zeroOf NC.P 9 = some (.str []) := by kernel_rfl
theorem by_9 : bytesOf NC.P 9 = some 16 := by kernel_rfl
theorem ze_272 : zeroOf NC.P 272 = some (.agg [.nilp, .ps .nil []]) := by kernel_rfl
theorem sz_281 : szOf NC.P 281 = some 2 := by kernel_rfl
theorem ag_281 : aggOf NC.P 281 = some true := by kernel_rfl
theorem un_281 : NC.P.underlying 281 = some (.array 2 9) := by kernel_rfl
theorem bs_40 (parts : List (Nat × AV)) : abuild NC.P 40 parts = match afill (fun i => fplace 40 i) [.ps .nil [], .ps .nil [], .ps .nil []] parts with
    | some cs => some (.agg cs)
    | none => none := by kernel_rfl
theorem fp_40_0 : fplace 40 0 = some (0, 1) := by kernel_rfl
theorem fp_40_1 : fplace 40 1 = some (1, 1) := by kernel_rfl
theorem fp_40_2 : fplace 40 2 = some (2, 1) := by kernel_rfl
theorem ze_291 : zeroOf NC.P 291 = some (.agg [.ps .nil [], .bool false]) := by kernel_rfl
theorem bs_291 (parts : List (Nat × AV)) : abuild NC.P 291 parts = match afill (fun i => fplace 291 i) [.ps .nil [], .bool false] parts with
    | some cs => some (.agg cs)
    | none => none := by kernel_rfl
theorem fp_291_0 : fplace 291 0 = some (0, 1) := by kernel_rfl
theorem fp_291_1 : fplace 291 1 = some (1, 1) := by kernel_rfl
theorem un_293 : NC.P.underlying 293 = some (.slice 296) := by kernel_rfl
theorem sz_296 : szOf NC.P 296 = some 3 := by kernel_rfl
theorem sz_294 : szOf NC.P 294 = some 1 := by kernel_rfl
theorem ag_294 : aggOf NC.P 294 = some false := by kernel_rfl
theorem sz_160 : szOf NC.P 160 = some 1 := by kernel_rfl
theorem ag_160 : aggOf NC.P 160 = some false := by kernel_rfl
theorem bs_26 (parts : List (Nat × AV)) : abuild NC.P 26 parts = match afill (fun i => fplace 26 i) [.ps .nil [], .ps .nil [], .ps .nil []] parts with
    | some cs => some (.agg cs)
    | none => none := by kernel_rfl
theorem fp_26_0 : fplace 26 0 = some (0, 1) := by kernel_rfl
theorem fp_26_1 : fplace 26 1 = some (1, 1) := by kernel_rfl
theorem fp_26_2 : fplace 26 2 = some (2, 1) := by kernel_rfl
theorem bs_56 (parts : List (Nat × AV)) : abuild NC.P 56 parts = match afill (fun i => fplace 56 i) [.str [], .ps .nil []] parts with
    | some cs => some (.agg cs)
    | none => none := by kernel_rfl
theorem fp_56_0 : fplace 56 0 = some (0, 1) := by kernel_rfl
theorem fp_56_1 : fplace 56 1 = some (1, 1) := by kernel_rfl
theorem el_54 : elemOf NC.P 54 = some 97 := by kernel_rfl
theorem by_97 : bytesOf NC.P 97 = some 24 := by kernel_rfl
theorem el_22 : elemOf NC.P 22 = some 56 := by kernel_rfl
theorem by_56 : bytesOf NC.P 56 = some 40 := by kernel_rfl
theorem el_23 : elemOf NC.P 23 = some 191 := by kernel_rfl
theorem by_191 : bytesOf NC.P 191 = some 64 := by kernel_rfl
theorem el_24 : elemOf NC.P 24 = some 193 := by kernel_rfl
theorem by_193 : bytesOf NC.P 193 = some 64 := by kernel_rfl
theorem bs_200 (parts : List (Nat × AV)) : abuild NC.P 200 parts = match afill (fun i => fplace 200 i) [.int .i64 0, .int .i64 0, .bool false] parts with
    | some cs => some (.agg cs)
    | none => none := by kernel_rfl
theorem fp_200_0 : fplace 200 0 = some (0, 1) := by kernel_rfl
theorem fp_200_1 : fplace 200 1 = some (1, 1) := by kernel_rfl
theorem fp_200_2 : fplace 200 2 = some (2, 1) := by kernel_rfl
theorem bs_201 (parts : List (Nat × AV)) : abuild NC.P 201 parts = match afill (fun i => fplace 201 i) [.str [], .str [], .int .i64 0, .str [], .bool false] parts with
    | some cs => some (.agg cs)
    | none => none := by kernel_rfl
theorem fp_201_0 : fplace 201 0 = some (0, 1) := by kernel_rfl
theorem fp_201_1 : fplace 201 1 = some (1, 1) := by kernel_rfl
theorem fp_201_2 : fplace 201 2 = some (2, 1) := by kernel_rfl
theorem fp_201_3 : fplace 201 3 = some (3, 1) := by kernel_rfl
theorem fp_201_4 : fplace 201 4 = some (4, 1) := by kernel_rfl
theorem bs_202 (parts : List (Nat × AV)) : abuild NC.P 202 parts = match afill (fun i => fplace 202 i) [.str [], .str [], .str [], .int .i64 0, .int .i64 0] parts with
    | some cs => some (.agg cs)
    | none => none := by kernel_rfl
theorem fp_202_0 : fplace 202 0 = some (0, 1) := by kernel_rfl
theorem fp_202_1 : fplace 202 1 = some (1, 1) := by kernel_rfl
theorem fp_202_2 : fplace 202 2 = some (2, 1) := by kernel_rfl
theorem fp_202_3 : fplace 202 3 = some (3, 2) := by kernel_rfl
theorem un_310 : NC.P.underlying 310 = some (.map 9 4) := by kernel_rfl
theorem ag_33 : aggOf NC.P 33 = some false := by kernel_rfl
theorem bs_220 (parts : List (Nat × AV)) : abuild NC.P 220 parts = match afill (fun i => fplace 220 i) [.str [], .int .i64 0, .int .i64 0] parts with
    | some cs => some (.agg cs)
    | none => none := by kernel_rfl
theorem fp_220_0 : fplace 220 0 = some (0, 2) := by kernel_rfl
theorem fp_220_1 : fplace 220 1 = some (2, 1) := by kernel_rfl
theorem el_216 : elemOf NC.P 216 = some 220 := by kernel_rfl
theorem ze_259 : zeroOf NC.P 259 = some (.agg [.str [], .int .i64 0, .str [], .int .i64 0]) := by kernel_rfl
theorem sz_259 : szOf NC.P 259 = some 4 := by kernel_rfl
theorem un_316 : NC.P.underlying 316 = some (.map 45 246) := by kernel_rfl
theorem by_220 : bytesOf NC.P 220 = some 32 := by kernel_rfl
theorem un_320 : NC.P.underlying 320 = some (.int .u64) := by kernel_rfl
theorem by_3 : bytesOf NC.P 3 = some 8 := by kernel_rfl
theorem by_33 : bytesOf NC.P 33 = some 8 := by kernel_rfl
theorem bs_246 (parts : List (Nat × AV)) : abuild NC.P 246 parts = match afill (fun i => fplace 246 i) [.ps .nil [], .int .i64 0] parts with
    | some cs => some (.agg cs)
    | none => none := by kernel_rfl
theorem fp_246_0 : fplace 246 0 = some (0, 1) := by kernel_rfl
theorem fp_246_1 : fplace 246 1 = some (1, 1) := by kernel_rfl
theorem ag_259 : aggOf NC.P 259 = some true := by kernel_rfl
theorem ze_334 : zeroOf NC.P 334 = some (.agg [.str [], .int .i64 0, .str [], .int .i64 0, .str [], .int .i64 0, .str [], .int .i64 0]) := by kernel_rfl
theorem un_334 : NC.P.underlying 334 = some (.array 2 259) := by kernel_rfl
theorem ag_246 : aggOf NC.P 246 = some true := by kernel_rfl
theorem el_252 : elemOf NC.P 252 = some 138 := by kernel_rfl
theorem ze_138 : zeroOf NC.P 138 = some (.ps .nil []) := by kernel_rfl
theorem by_138 : bytesOf NC.P 138 = some 24 := by kernel_rfl
theorem el_254 : elemOf NC.P 254 = some 4 := by kernel_rfl
theorem by_4 : bytesOf NC.P 4 = some 1 := by kernel_rfl
theorem ag_262 : aggOf NC.P 262 = some true := by kernel_rfl
theorem ag_296 : aggOf NC.P 296 = some true := by kernel_rfl
theorem ze_296 : zeroOf NC.P 296 = some (.agg [.str [], .int .i64 0, .nilf]) := by kernel_rfl
theorem bs_296 (parts : List (Nat × AV)) : abuild NC.P 296 parts = match afill (fun i => fplace 296 i) [.str [], .int .i64 0, .nilf] parts with
    | some cs => some (.agg cs)
    | none => none := by kernel_rfl
theorem fp_296_0 : fplace 296 0 = some (0, 1) := by kernel_rfl
theorem fp_296_1 : fplace 296 1 = some (1, 1) := by kernel_rfl
theorem fp_296_2 : fplace 296 2 = some (2, 1) := by kernel_rfl
theorem el_293 : elemOf NC.P 293 = some 296 := by kernel_rfl
theorem bs_97 (parts : List (Nat × AV)) : abuild NC.P 97 parts = match afill (fun i => fplace 97 i) [.int .i64 0, .int .i64 0, .bool false] parts with
    | some cs => some (.agg cs)
    | none => none := by kernel_rfl
theorem fp_97_0 : fplace 97 0 = some (0, 1) := by kernel_rfl
theorem fp_97_1 : fplace 97 1 = some (1, 1) := by kernel_rfl
theorem fp_97_2 : fplace 97 2 = some (2, 1) := by kernel_rfl
theorem bs_191 (parts : List (Nat × AV)) : abuild NC.P 191 parts = match afill (fun i => fplace 191 i) [.str [], .str [], .int .i64 0, .str [], .bool false] parts with
    | some cs => some (.agg cs)
    | none => none := by kernel_rfl
theorem fp_191_0 : fplace 191 0 = some (0, 1) := by kernel_rfl
theorem fp_191_1 : fplace 191 1 = some (1, 1) := by kernel_rfl
theorem fp_191_2 : fplace 191 2 = some (2, 1) := by kernel_rfl
theorem fp_191_3 : fplace 191 3 = some (3, 1) := by kernel_rfl
theorem fp_191_4 : fplace 191 4 = some (4, 1) := by kernel_rfl
theorem bs_193 (parts : List (Nat × AV)) : abuild NC.P 193 parts = match afill (fun i => fplace 193 i) [.str [], .str [], .str [], .int .i64 0, .int .i64 0] parts with
    | some cs => some (.agg cs)
    | none => none := by kernel_rfl
theorem fp_193_0 : fplace 193 0 = some (0, 1) := by kernel_rfl
theorem fp_193_1 : fplace 193 1 = some (1, 1) := by kernel_rfl
theorem fp_193_2 : fplace 193 2 = some (2, 1) := by kernel_rfl
theorem fp_193_3 : fplace 193 3 = some (3, 2) := by kernel_rfl
theorem un_21 : NC.P.underlying 21 = some (.int .i32) := by kernel_rfl
theorem ze_316 : zeroOf NC.P 316 = some (.nilm) := by kernel_rfl
theorem sz_316 : szOf NC.P 316 = some 1 := by kernel_rfl
theorem ag_316 : aggOf NC.P 316 = some false := by kernel_rfl
theorem un_359 : NC.P.underlying 359 = some (.int .u32) := by kernel_rfl
theorem un_361 : NC.P.underlying 361 = some (.int .u64) := by kernel_rfl
theorem fa_28_0 (id off : Nat) : afieldAddr NC.P 28 (.ptr id off) 0 = some (.ptr id (off + 0)) := by kernel_rfl
theorem fb_28_0 (cs : List AV) : afieldAddr NC.P 28 (.pptr cs) 0 = some (.pptr (cs.drop 0)) := by kernel_rfl
theorem fa_30_0 (id off : Nat) : afieldAddr NC.P 30 (.ptr id off) 0 = some (.ptr id (off + 0)) := by kernel_rfl
theorem fb_30_0 (cs : List AV) : afieldAddr NC.P 30 (.pptr cs) 0 = some (.pptr (cs.drop 0)) := by kernel_rfl
theorem fa_26_0 (id off : Nat) : afieldAddr NC.P 26 (.ptr id off) 0 = some (.ptr id (off + 0)) := by kernel_rfl
theorem fb_26_0 (cs : List AV) : afieldAddr NC.P 26 (.pptr cs) 0 = some (.pptr (cs.drop 0)) := by kernel_rfl
theorem fa_62_1 (id off : Nat) : afieldAddr NC.P 62 (.ptr id off) 1 = some (.ptr id (off + 1)) := by kernel_rfl
theorem fb_62_1 (cs : List AV) : afieldAddr NC.P 62 (.pptr cs) 1 = some (.pptr (cs.drop 1)) := by kernel_rfl
theorem fa_62_0 (id off : Nat) : afieldAddr NC.P 62 (.ptr id off) 0 = some (.ptr id (off + 0)) := by kernel_rfl
theorem fb_62_0 (cs : List AV) : afieldAddr NC.P 62 (.pptr cs) 0 = some (.pptr (cs.drop 0)) := by kernel_rfl
theorem fa_56_0 (id off : Nat) : afieldAddr NC.P 56 (.ptr id off) 0 = some (.ptr id (off + 0)) := by kernel_rfl
theorem fb_56_0 (cs : List AV) : afieldAddr NC.P 56 (.pptr cs) 0 = some (.pptr (cs.drop 0)) := by kernel_rfl
theorem fa_42_0 (id off : Nat) : afieldAddr NC.P 42 (.ptr id off) 0 = some (.ptr id (off + 0)) := by kernel_rfl
theorem fb_42_0 (cs : List AV) : afieldAddr NC.P 42 (.pptr cs) 0 = some (.pptr (cs.drop 0)) := by kernel_rfl
theorem fa_42_1 (id off : Nat) : afieldAddr NC.P 42 (.ptr id off) 1 = some (.ptr id (off + 1)) := by kernel_rfl
theorem fb_42_1 (cs : List AV) : afieldAddr NC.P 42 (.pptr cs) 1 = some (.pptr (cs.drop 1)) := by kernel_rfl
theorem fa_56_1 (id off : Nat) : afieldAddr NC.P 56 (.ptr id off) 1 = some (.ptr id (off + 1)) := by kernel_rfl
theorem fb_56_1 (cs : List AV) : afieldAddr NC.P 56 (.pptr cs) 1 = some (.pptr (cs.drop 1)) := by kernel_rfl
theorem fa_42_2 (id off : Nat) : afieldAddr NC.P 42 (.ptr id off) 2 = some (.ptr id (off + 2)) := by kernel_rfl
theorem fb_42_2 (cs : List AV) : afieldAddr NC.P 42 (.pptr cs) 2 = some (.pptr (cs.drop 2)) := by kernel_rfl
theorem fa_97_2 (id off : Nat) : afieldAddr NC.P 97 (.ptr id off) 2 = some (.ptr id (off + 2)) := by kernel_rfl
theorem fb_97_2 (cs : List AV) : afieldAddr NC.P 97 (.pptr cs) 2 = some (.pptr (cs.drop 2)) := by kernel_rfl
theorem fa_97_1 (id off : Nat) : afieldAddr NC.P 97 (.ptr id off) 1 = some (.ptr id (off + 1)) := by kernel_rfl
theorem fb_97_1 (cs : List AV) : afieldAddr NC.P 97 (.pptr cs) 1 = some (.pptr (cs.drop 1)) := by kernel_rfl
theorem fa_128_2 (id off : Nat) : afieldAddr NC.P 128 (.ptr id off) 2 = some (.ptr id (off + 2)) := by kernel_rfl
theorem fb_128_2 (cs : List AV) : afieldAddr NC.P 128 (.pptr cs) 2 = some (.pptr (cs.drop 2)) := by kernel_rfl
theorem fa_128_0 (id off : Nat) : afieldAddr NC.P 128 (.ptr id off) 0 = some (.ptr id (off + 0)) := by kernel_rfl
theorem fb_128_0 (cs : List AV) : afieldAddr NC.P 128 (.pptr cs) 0 = some (.pptr (cs.drop 0)) := by kernel_rfl
theorem fa_128_1 (id off : Nat) : afieldAddr NC.P 128 (.ptr id off) 1 = some (.ptr id (off + 1)) := by kernel_rfl
theorem fb_128_1 (cs : List AV) : afieldAddr NC.P 128 (.pptr cs) 1 = some (.pptr (cs.drop 1)) := by kernel_rfl
theorem fa_45_0 (id off : Nat) : afieldAddr NC.P 45 (.ptr id off) 0 = some (.ptr id (off + 0)) := by kernel_rfl
theorem fb_45_0 (cs : List AV) : afieldAddr NC.P 45 (.pptr cs) 0 = some (.pptr (cs.drop 0)) := by kernel_rfl
theorem fa_128_3 (id off : Nat) : afieldAddr NC.P 128 (.ptr id off) 3 = some (.ptr id (off + 3)) := by kernel_rfl
theorem fb_128_3 (cs : List AV) : afieldAddr NC.P 128 (.pptr cs) 3 = some (.pptr (cs.drop 3)) := by kernel_rfl
theorem fa_45_1 (id off : Nat) : afieldAddr NC.P 45 (.ptr id off) 1 = some (.ptr id (off + 1)) := by kernel_rfl
theorem fb_45_1 (cs : List AV) : afieldAddr NC.P 45 (.pptr cs) 1 = some (.pptr (cs.drop 1)) := by kernel_rfl
theorem fa_128_4 (id off : Nat) : afieldAddr NC.P 128 (.ptr id off) 4 = some (.ptr id (off + 4)) := by kernel_rfl
theorem fb_128_4 (cs : List AV) : afieldAddr NC.P 128 (.pptr cs) 4 = some (.pptr (cs.drop 4)) := by kernel_rfl
theorem fa_130_2 (id off : Nat) : afieldAddr NC.P 130 (.ptr id off) 2 = some (.ptr id (off + 2)) := by kernel_rfl
theorem fb_130_2 (cs : List AV) : afieldAddr NC.P 130 (.pptr cs) 2 = some (.pptr (cs.drop 2)) := by kernel_rfl
theorem fa_130_0 (id off : Nat) : afieldAddr NC.P 130 (.ptr id off) 0 = some (.ptr id (off + 0)) := by kernel_rfl
theorem fb_130_0 (cs : List AV) : afieldAddr NC.P 130 (.pptr cs) 0 = some (.pptr (cs.drop 0)) := by kernel_rfl
theorem fa_130_1 (id off : Nat) : afieldAddr NC.P 130 (.ptr id off) 1 = some (.ptr id (off + 1)) := by kernel_rfl
theorem fb_130_1 (cs : List AV) : afieldAddr NC.P 130 (.pptr cs) 1 = some (.pptr (cs.drop 1)) := by kernel_rfl
theorem fa_135_0 (id off : Nat) : afieldAddr NC.P 135 (.ptr id off) 0 = some (.ptr id (off + 0)) := by kernel_rfl
theorem fb_135_0 (cs : List AV) : afieldAddr NC.P 135 (.pptr cs) 0 = some (.pptr (cs.drop 0)) := by kernel_rfl
theorem fa_135_1 (id off : Nat) : afieldAddr NC.P 135 (.ptr id off) 1 = some (.ptr id (off + 1)) := by kernel_rfl
theorem fb_135_1 (cs : List AV) : afieldAddr NC.P 135 (.pptr cs) 1 = some (.pptr (cs.drop 1)) := by kernel_rfl
theorem fa_141_0 (id off : Nat) : afieldAddr NC.P 141 (.ptr id off) 0 = some (.ptr id (off + 0)) := by kernel_rfl
theorem fb_141_0 (cs : List AV) : afieldAddr NC.P 141 (.pptr cs) 0 = some (.pptr (cs.drop 0)) := by kernel_rfl
theorem fa_157_0 (id off : Nat) : afieldAddr NC.P 157 (.ptr id off) 0 = some (.ptr id (off + 0)) := by kernel_rfl
theorem fb_157_0 (cs : List AV) : afieldAddr NC.P 157 (.pptr cs) 0 = some (.pptr (cs.drop 0)) := by kernel_rfl
theorem fa_157_2 (id off : Nat) : afieldAddr NC.P 157 (.ptr id off) 2 = some (.ptr id (off + 2)) := by kernel_rfl
theorem fb_157_2 (cs : List AV) : afieldAddr NC.P 157 (.pptr cs) 2 = some (.pptr (cs.drop 2)) := by kernel_rfl
theorem fa_157_1 (id off : Nat) : afieldAddr NC.P 157 (.ptr id off) 1 = some (.ptr id (off + 1)) := by kernel_rfl
theorem fb_157_1 (cs : List AV) : afieldAddr NC.P 157 (.pptr cs) 1 = some (.pptr (cs.drop 1)) := by kernel_rfl
theorem fa_26_1 (id off : Nat) : afieldAddr NC.P 26 (.ptr id off) 1 = some (.ptr id (off + 1)) := by kernel_rfl
theorem fb_26_1 (cs : List AV) : afieldAddr NC.P 26 (.pptr cs) 1 = some (.pptr (cs.drop 1)) := by kernel_rfl
theorem fa_26_2 (id off : Nat) : afieldAddr NC.P 26 (.ptr id off) 2 = some (.ptr id (off + 2)) := by kernel_rfl
theorem fb_26_2 (cs : List AV) : afieldAddr NC.P 26 (.pptr cs) 2 = some (.pptr (cs.drop 2)) := by kernel_rfl
theorem fa_191_0 (id off : Nat) : afieldAddr NC.P 191 (.ptr id off) 0 = some (.ptr id (off + 0)) := by kernel_rfl
theorem fb_191_0 (cs : List AV) : afieldAddr NC.P 191 (.pptr cs) 0 = some (.pptr (cs.drop 0)) := by kernel_rfl
theorem fa_191_1 (id off : Nat) : afieldAddr NC.P 191 (.ptr id off) 1 = some (.ptr id (off + 1)) := by kernel_rfl
theorem fb_191_1 (cs : List AV) : afieldAddr NC.P 191 (.pptr cs) 1 = some (.pptr (cs.drop 1)) := by kernel_rfl
theorem fa_191_3 (id off : Nat) : afieldAddr NC.P 191 (.ptr id off) 3 = some (.ptr id (off + 3)) := by kernel_rfl
theorem fb_191_3 (cs : List AV) : afieldAddr NC.P 191 (.pptr cs) 3 = some (.pptr (cs.drop 3)) := by kernel_rfl
theorem fa_193_0 (id off : Nat) : afieldAddr NC.P 193 (.ptr id off) 0 = some (.ptr id (off + 0)) := by kernel_rfl
theorem fb_193_0 (cs : List AV) : afieldAddr NC.P 193 (.pptr cs) 0 = some (.pptr (cs.drop 0)) := by kernel_rfl
theorem fa_193_1 (id off : Nat) : afieldAddr NC.P 193 (.ptr id off) 1 = some (.ptr id (off + 1)) := by kernel_rfl
theorem fb_193_1 (cs : List AV) : afieldAddr NC.P 193 (.pptr cs) 1 = some (.pptr (cs.drop 1)) := by kernel_rfl
theorem fa_193_2 (id off : Nat) : afieldAddr NC.P 193 (.ptr id off) 2 = some (.ptr id (off + 2)) := by kernel_rfl
theorem fb_193_2 (cs : List AV) : afieldAddr NC.P 193 (.pptr cs) 2 = some (.pptr (cs.drop 2)) := by kernel_rfl
theorem fa_196_1 (id off : Nat) : afieldAddr NC.P 196 (.ptr id off) 1 = some (.ptr id (off + 1)) := by kernel_rfl
theorem fb_196_1 (cs : List AV) : afieldAddr NC.P 196 (.pptr cs) 1 = some (.pptr (cs.drop 1)) := by kernel_rfl
theorem fa_40_0 (id off : Nat) : afieldAddr NC.P 40 (.ptr id off) 0 = some (.ptr id (off + 0)) := by kernel_rfl
theorem fb_40_0 (cs : List AV) : afieldAddr NC.P 40 (.pptr cs) 0 = some (.pptr (cs.drop 0)) := by kernel_rfl
theorem fa_40_1 (id off : Nat) : afieldAddr NC.P 40 (.ptr id off) 1 = some (.ptr id (off + 1)) := by kernel_rfl
theorem fb_40_1 (cs : List AV) : afieldAddr NC.P 40 (.pptr cs) 1 = some (.pptr (cs.drop 1)) := by kernel_rfl
theorem fa_40_2 (id off : Nat) : afieldAddr NC.P 40 (.ptr id off) 2 = some (.ptr id (off + 2)) := by kernel_rfl
theorem fb_40_2 (cs : List AV) : afieldAddr NC.P 40 (.pptr cs) 2 = some (.pptr (cs.drop 2)) := by kernel_rfl
theorem fa_28_1 (id off : Nat) : afieldAddr NC.P 28 (.ptr id off) 1 = some (.ptr id (off + 1)) := by kernel_rfl
theorem fb_28_1 (cs : List AV) : afieldAddr NC.P 28 (.pptr cs) 1 = some (.pptr (cs.drop 1)) := by kernel_rfl
theorem fa_30_1 (id off : Nat) : afieldAddr NC.P 30 (.ptr id off) 1 = some (.ptr id (off + 1)) := by kernel_rfl
theorem fb_30_1 (cs : List AV) : afieldAddr NC.P 30 (.pptr cs) 1 = some (.pptr (cs.drop 1)) := by kernel_rfl
theorem fa_30_2 (id off : Nat) : afieldAddr NC.P 30 (.ptr id off) 2 = some (.ptr id (off + 2)) := by kernel_rfl
theorem fb_30_2 (cs : List AV) : afieldAddr NC.P 30 (.pptr cs) 2 = some (.pptr (cs.drop 2)) := by kernel_rfl
theorem fa_97_0 (id off : Nat) : afieldAddr NC.P 97 (.ptr id off) 0 = some (.ptr id (off + 0)) := by kernel_rfl
theorem fb_97_0 (cs : List AV) : afieldAddr NC.P 97 (.pptr cs) 0 = some (.pptr (cs.drop 0)) := by kernel_rfl
theorem fa_220_1 (id off : Nat) : afieldAddr NC.P 220 (.ptr id off) 1 = some (.ptr id (off + 2)) := by kernel_rfl
theorem fb_220_1 (cs : List AV) : afieldAddr NC.P 220 (.pptr cs) 1 = some (.pptr (cs.drop 2)) := by kernel_rfl
theorem fa_220_0 (id off : Nat) : afieldAddr NC.P 220 (.ptr id off) 0 = some (.ptr id (off + 0)) := by kernel_rfl
theorem fb_220_0 (cs : List AV) : afieldAddr NC.P 220 (.pptr cs) 0 = some (.pptr (cs.drop 0)) := by kernel_rfl
theorem fa_196_0 (id off : Nat) : afieldAddr NC.P 196 (.ptr id off) 0 = some (.ptr id (off + 0)) := by kernel_rfl
theorem fb_196_0 (cs : List AV) : afieldAddr NC.P 196 (.pptr cs) 0 = some (.pptr (cs.drop 0)) := by kernel_rfl
theorem fa_183_0 (id off : Nat) : afieldAddr NC.P 183 (.ptr id off) 0 = some (.ptr id (off + 0)) := by kernel_rfl
theorem fb_183_0 (cs : List AV) : afieldAddr NC.P 183 (.pptr cs) 0 = some (.pptr (cs.drop 0)) := by kernel_rfl
theorem fa_224_1 (id off : Nat) : afieldAddr NC.P 224 (.ptr id off) 1 = some (.ptr id (off + 1)) := by kernel_rfl
theorem fb_224_1 (cs : List AV) : afieldAddr NC.P 224 (.pptr cs) 1 = some (.pptr (cs.drop 1)) := by kernel_rfl
theorem fa_183_1 (id off : Nat) : afieldAddr NC.P 183 (.ptr id off) 1 = some (.ptr id (off + 1)) := by kernel_rfl
theorem fb_183_1 (cs : List AV) : afieldAddr NC.P 183 (.pptr cs) 1 = some (.pptr (cs.drop 1)) := by kernel_rfl
theorem fa_202_1 (id off : Nat) : afieldAddr NC.P 202 (.ptr id off) 1 = some (.ptr id (off + 1)) := by kernel_rfl
theorem fb_202_1 (cs : List AV) : afieldAddr NC.P 202 (.pptr cs) 1 = some (.pptr (cs.drop 1)) := by kernel_rfl
theorem fa_202_2 (id off : Nat) : afieldAddr NC.P 202 (.ptr id off) 2 = some (.ptr id (off + 2)) := by kernel_rfl
theorem fb_202_2 (cs : List AV) : afieldAddr NC.P 202 (.pptr cs) 2 = some (.pptr (cs.drop 2)) := by kernel_rfl
theorem fa_202_3 (id off : Nat) : afieldAddr NC.P 202 (.ptr id off) 3 = some (.ptr id (off + 3)) := by kernel_rfl
theorem fb_202_3 (cs : List AV) : afieldAddr NC.P 202 (.pptr cs) 3 = some (.pptr (cs.drop 3)) := by kernel_rfl
theorem fa_202_0 (id off : Nat) : afieldAddr NC.P 202 (.ptr id off) 0 = some (.ptr id (off + 0)) := by kernel_rfl
theorem fb_202_0 (cs : List AV) : afieldAddr NC.P 202 (.pptr cs) 0 = some (.pptr (cs.drop 0)) := by kernel_rfl
theorem fa_185_1 (id off : Nat) : afieldAddr NC.P 185 (.ptr id off) 1 = some (.ptr id (off + 1)) := by kernel_rfl
theorem fb_185_1 (cs : List AV) : afieldAddr NC.P 185 (.pptr cs) 1 = some (.pptr (cs.drop 1)) := by kernel_rfl
theorem fa_193_3 (id off : Nat) : afieldAddr NC.P 193 (.ptr id off) 3 = some (.ptr id (off + 3)) := by kernel_rfl
theorem fb_193_3 (cs : List AV) : afieldAddr NC.P 193 (.pptr cs) 3 = some (.pptr (cs.drop 3)) := by kernel_rfl
theorem fa_128_5 (id off : Nat) : afieldAddr NC.P 128 (.ptr id off) 5 = some (.ptr id (off + 5)) := by kernel_rfl
theorem fb_128_5 (cs : List AV) : afieldAddr NC.P 128 (.pptr cs) 5 = some (.pptr (cs.drop 5)) := by kernel_rfl
theorem fa_135_2 (id off : Nat) : afieldAddr NC.P 135 (.ptr id off) 2 = some (.ptr id (off + 4)) := by kernel_rfl
theorem fb_135_2 (cs : List AV) : afieldAddr NC.P 135 (.pptr cs) 2 = some (.pptr (cs.drop 4)) := by kernel_rfl
theorem fa_188_1 (id off : Nat) : afieldAddr NC.P 188 (.ptr id off) 1 = some (.ptr id (off + 1)) := by kernel_rfl
theorem fb_188_1 (cs : List AV) : afieldAddr NC.P 188 (.pptr cs) 1 = some (.pptr (cs.drop 1)) := by kernel_rfl
theorem fa_188_2 (id off : Nat) : afieldAddr NC.P 188 (.ptr id off) 2 = some (.ptr id (off + 4)) := by kernel_rfl
theorem fb_188_2 (cs : List AV) : afieldAddr NC.P 188 (.pptr cs) 2 = some (.pptr (cs.drop 4)) := by kernel_rfl
theorem fa_188_0 (id off : Nat) : afieldAddr NC.P 188 (.ptr id off) 0 = some (.ptr id (off + 0)) := by kernel_rfl
theorem fb_188_0 (cs : List AV) : afieldAddr NC.P 188 (.pptr cs) 0 = some (.pptr (cs.drop 0)) := by kernel_rfl
theorem fa_246_0 (id off : Nat) : afieldAddr NC.P 246 (.ptr id off) 0 = some (.ptr id (off + 0)) := by kernel_rfl
theorem fb_246_0 (cs : List AV) : afieldAddr NC.P 246 (.pptr cs) 0 = some (.pptr (cs.drop 0)) := by kernel_rfl
theorem fa_246_1 (id off : Nat) : afieldAddr NC.P 246 (.ptr id off) 1 = some (.ptr id (off + 1)) := by kernel_rfl
theorem fb_246_1 (cs : List AV) : afieldAddr NC.P 246 (.pptr cs) 1 = some (.pptr (cs.drop 1)) := by kernel_rfl
theorem fa_141_1 (id off : Nat) : afieldAddr NC.P 141 (.ptr id off) 1 = some (.ptr id (off + 1)) := by kernel_rfl
theorem fb_141_1 (cs : List AV) : afieldAddr NC.P 141 (.pptr cs) 1 = some (.pptr (cs.drop 1)) := by kernel_rfl
theorem fa_141_2 (id off : Nat) : afieldAddr NC.P 141 (.ptr id off) 2 = some (.ptr id (off + 2)) := by kernel_rfl
theorem fb_141_2 (cs : List AV) : afieldAddr NC.P 141 (.pptr cs) 2 = some (.pptr (cs.drop 2)) := by kernel_rfl
theorem fa_224_0 (id off : Nat) : afieldAddr NC.P 224 (.ptr id off) 0 = some (.ptr id (off + 0)) := by kernel_rfl
theorem fb_224_0 (cs : List AV) : afieldAddr NC.P 224 (.pptr cs) 0 = some (.pptr (cs.drop 0)) := by kernel_rfl
theorem fa_200_0 (id off : Nat) : afieldAddr NC.P 200 (.ptr id off) 0 = some (.ptr id (off + 0)) := by kernel_rfl
theorem fb_200_0 (cs : List AV) : afieldAddr NC.P 200 (.pptr cs) 0 = some (.pptr (cs.drop 0)) := by kernel_rfl
theorem fa_200_1 (id off : Nat) : afieldAddr NC.P 200 (.ptr id off) 1 = some (.ptr id (off + 1)) := by kernel_rfl
theorem fb_200_1 (cs : List AV) : afieldAddr NC.P 200 (.pptr cs) 1 = some (.pptr (cs.drop 1)) := by kernel_rfl
theorem fa_200_2 (id off : Nat) : afieldAddr NC.P 200 (.ptr id off) 2 = some (.ptr id (off + 2)) := by kernel_rfl
theorem fb_200_2 (cs : List AV) : afieldAddr NC.P 200 (.pptr cs) 2 = some (.pptr (cs.drop 2)) := by kernel_rfl
theorem fa_201_0 (id off : Nat) : afieldAddr NC.P 201 (.ptr id off) 0 = some (.ptr id (off + 0)) := by kernel_rfl
theorem fb_201_0 (cs : List AV) : afieldAddr NC.P 201 (.pptr cs) 0 = some (.pptr (cs.drop 0)) := by kernel_rfl
theorem fa_201_1 (id off : Nat) : afieldAddr NC.P 201 (.ptr id off) 1 = some (.ptr id (off + 1)) := by kernel_rfl
theorem fb_201_1 (cs : List AV) : afieldAddr NC.P 201 (.pptr cs) 1 = some (.pptr (cs.drop 1)) := by kernel_rfl
theorem fa_201_2 (id off : Nat) : afieldAddr NC.P 201 (.ptr id off) 2 = some (.ptr id (off + 2)) := by kernel_rfl
theorem fb_201_2 (cs : List AV) : afieldAddr NC.P 201 (.pptr cs) 2 = some (.pptr (cs.drop 2)) := by kernel_rfl
theorem fa_201_3 (id off : Nat) : afieldAddr NC.P 201 (.ptr id off) 3 = some (.ptr id (off + 3)) := by kernel_rfl
theorem fb_201_3 (cs : List AV) : afieldAddr NC.P 201 (.pptr cs) 3 = some (.pptr (cs.drop 3)) := by kernel_rfl
theorem fa_201_4 (id off : Nat) : afieldAddr NC.P 201 (.ptr id off) 4 = some (.ptr id (off + 4)) := by kernel_rfl
theorem fb_201_4 (cs : List AV) : afieldAddr NC.P 201 (.pptr cs) 4 = some (.pptr (cs.drop 4)) := by kernel_rfl
theorem fa_296_1 (id off : Nat) : afieldAddr NC.P 296 (.ptr id off) 1 = some (.ptr id (off + 1)) := by kernel_rfl
theorem fb_296_1 (cs : List AV) : afieldAddr NC.P 296 (.pptr cs) 1 = some (.pptr (cs.drop 1)) := by kernel_rfl
theorem fa_296_2 (id off : Nat) : afieldAddr NC.P 296 (.ptr id off) 2 = some (.ptr id (off + 2)) := by kernel_rfl
theorem fb_296_2 (cs : List AV) : afieldAddr NC.P 296 (.pptr cs) 2 = some (.pptr (cs.drop 2)) := by kernel_rfl
theorem fa_291_1 (id off : Nat) : afieldAddr NC.P 291 (.ptr id off) 1 = some (.ptr id (off + 1)) := by kernel_rfl
theorem fb_291_1 (cs : List AV) : afieldAddr NC.P 291 (.pptr cs) 1 = some (.pptr (cs.drop 1)) := by kernel_rfl
theorem fa_291_0 (id off : Nat) : afieldAddr NC.P 291 (.ptr id off) 0 = some (.ptr id (off + 0)) := by kernel_rfl
theorem fb_291_0 (cs : List AV) : afieldAddr NC.P 291 (.pptr cs) 0 = some (.pptr (cs.drop 0)) := by kernel_rfl
theorem fa_191_2 (id off : Nat) : afieldAddr NC.P 191 (.ptr id off) 2 = some (.ptr id (off + 2)) := by kernel_rfl
theorem fb_191_2 (cs : List AV) : afieldAddr NC.P 191 (.pptr cs) 2 = some (.pptr (cs.drop 2)) := by kernel_rfl
theorem fa_191_4 (id off : Nat) : afieldAddr NC.P 191 (.ptr id off) 4 = some (.ptr id (off + 4)) := by kernel_rfl
theorem fb_191_4 (cs : List AV) : afieldAddr NC.P 191 (.pptr cs) 4 = some (.pptr (cs.drop 4)) := by kernel_rfl
theorem fa_130_3 (id off : Nat) : afieldAddr NC.P 130 (.ptr id off) 3 = some (.ptr id (off + 3)) := by kernel_rfl
theorem fb_130_3 (cs : List AV) : afieldAddr NC.P 130 (.pptr cs) 3 = some (.pptr (cs.drop 3)) := by kernel_rfl
theorem fa_130_4 (id off : Nat) : afieldAddr NC.P 130 (.ptr id off) 4 = some (.ptr id (off + 4)) := by kernel_rfl
theorem fb_130_4 (cs : List AV) : afieldAddr NC.P 130 (.pptr cs) 4 = some (.pptr (cs.drop 4)) := by kernel_rfl
theorem fa_130_5 (id off : Nat) : afieldAddr NC.P 130 (.ptr id off) 5 = some (.ptr id (off + 5)) := by kernel_rfl
theorem fb_130_5 (cs : List AV) : afieldAddr NC.P 130 (.pptr cs) 5 = some (.pptr (cs.drop 5)) := by kernel_rfl
theorem fa_262_1 (id off : Nat) : afieldAddr NC.P 262 (.ptr id off) 1 = some (.ptr id (off + 5)) := by kernel_rfl
theorem fb_262_1 (cs : List AV) : afieldAddr NC.P 262 (.pptr cs) 1 = some (.pptr (cs.drop 5)) := by kernel_rfl
theorem fa_262_0 (id off : Nat) : afieldAddr NC.P 262 (.ptr id off) 0 = some (.ptr id (off + 0)) := by kernel_rfl
theorem fb_262_0 (cs : List AV) : afieldAddr NC.P 262 (.pptr cs) 0 = some (.pptr (cs.drop 0)) := by kernel_rfl
theorem fa_296_0 (id off : Nat) : afieldAddr NC.P 296 (.ptr id off) 0 = some (.ptr id (off + 0)) := by kernel_rfl
theorem fb_296_0 (cs : List AV) : afieldAddr NC.P 296 (.pptr cs) 0 = some (.pptr (cs.drop 0)) := by kernel_rfl
theorem pl_3_3 (P : FuncId → Option (List AV → Option AV)) : (NC.withPrims P).plans 3 3 = [⟨.load, 0, 0, []⟩, ⟨.read, 0, 1, []⟩, ⟨.data, 0, 0, []⟩, ⟨.load, 0, 4, []⟩, ⟨.read, 0, 15, []⟩, ⟨.data, 0, 31, []⟩, ⟨.data, 0, 63, []⟩, ⟨.data, 0, 63, []⟩, ⟨.data, 0, 127, []⟩, ⟨.data, 0, 511, []⟩] := by kernel_rfl
theorem pl_3_4 (P : FuncId → Option (List AV → Option AV)) : (NC.withPrims P).plans 3 4 = [⟨.load, 0, 0, []⟩, ⟨.read, 0, 1, []⟩, ⟨.load, 0, 0, []⟩, ⟨.read, 0, 7, []⟩, ⟨.data, 0, 15, []⟩, ⟨.data, 0, 31, []⟩, ⟨.data, 0, 31, []⟩, ⟨.fresh, 0, 0, []⟩, ⟨.writeAt, 1, 191, []⟩, ⟨.data, 2, 511, []⟩] := by kernel_rfl
theorem pl_3_5 (P : FuncId → Option (List AV → Option AV)) : (NC.withPrims P).plans 3 5 = [⟨.load, 0, 0, []⟩, ⟨.read, 0, 1, []⟩, ⟨.load, 0, 0, []⟩, ⟨.read, 0, 7, []⟩, ⟨.data, 0, 15, []⟩, ⟨.data, 0, 31, []⟩, ⟨.data, 0, 31, []⟩, ⟨.fresh, 0, 0, []⟩, ⟨.writeAt, 1, 191, []⟩, ⟨.data, 2, 511, []⟩] := by kernel_rfl
theorem pl_3_12 (P : FuncId → Option (List AV → Option AV)) : (NC.withPrims P).plans 3 12 = [⟨.load, 0, 0, []⟩, ⟨.data, 0, 0, []⟩, ⟨.load, 0, 2, []⟩, ⟨.read, 0, 7, []⟩, ⟨.load, 0, 0, []⟩, ⟨.load, 0, 0, []⟩, ⟨.read, 0, 63, []⟩, ⟨.data, 0, 127, []⟩, ⟨.data, 0, 255, []⟩] := by kernel_rfl
theorem pl_3_15 (P : FuncId → Option (List AV → Option AV)) : (NC.withPrims P).plans 3 15 = [⟨.data, 0, 0, []⟩, ⟨.load, 0, 1, []⟩, ⟨.load, 0, 0, []⟩, ⟨.data, 0, 0, []⟩, ⟨.load, 0, 8, []⟩, ⟨.read, 0, 28, []⟩, ⟨.data, 0, 63, []⟩, ⟨.load, 0, 127, []⟩, ⟨.read, 0, 255, []⟩, ⟨.data, 0, 511, []⟩] := by kernel_rfl
theorem pl_4_3 (P : FuncId → Option (List AV → Option AV)) : (NC.withPrims P).plans 4 3 = [⟨.load, 0, 0, []⟩, ⟨.read, 0, 1, []⟩, ⟨.load, 0, 0, []⟩, ⟨.data, 0, 0, []⟩, ⟨.load, 0, 8, []⟩, ⟨.fresh, 0, 31, []⟩, ⟨.data, 1, 63, []⟩, ⟨.data, 1, 127, []⟩, ⟨.data, 1, 127, []⟩, ⟨.data, 1, 255, []⟩, ⟨.data, 1, 1023, []⟩] := by kernel_rfl
theorem pl_4_4 (P : FuncId → Option (List AV → Option AV)) : (NC.withPrims P).plans 4 4 = [⟨.load, 0, 0, []⟩, ⟨.read, 0, 1, []⟩, ⟨.load, 0, 0, []⟩, ⟨.data, 0, 0, []⟩, ⟨.load, 0, 8, []⟩, ⟨.read, 0, 31, []⟩, ⟨.data, 0, 63, []⟩, ⟨.data, 0, 127, []⟩, ⟨.data, 0, 127, []⟩, ⟨.data, 0, 127, []⟩, ⟨.data, 0, 255, []⟩, ⟨.data, 0, 1535, []⟩, ⟨.data, 0, 4095, []⟩] := by kernel_rfl
theorem pl_5_3 (P : FuncId → Option (List AV → Option AV)) : (NC.withPrims P).plans 5 3 = [⟨.data, 0, 0, []⟩, ⟨.read, 0, 1, []⟩, ⟨.load, 0, 0, []⟩, ⟨.read, 0, 7, []⟩, ⟨.data, 0, 15, []⟩, ⟨.data, 0, 31, []⟩, ⟨.data, 0, 31, []⟩, ⟨.fresh, 0, 0, []⟩, ⟨.writeAt, 1, 191, []⟩, ⟨.data, 2, 511, []⟩] := by kernel_rfl
theorem pl_5_5 (P : FuncId → Option (List AV → Option AV)) : (NC.withPrims P).plans 5 5 = [⟨.data, 0, 0, []⟩, ⟨.data, 0, 0, []⟩, ⟨.load, 0, 2, []⟩, ⟨.read, 0, 6, []⟩, ⟨.data, 0, 0, []⟩, ⟨.load, 0, 16, []⟩, ⟨.read, 0, 62, []⟩, ⟨.data, 0, 127, []⟩, ⟨.read, 0, 255, []⟩, ⟨.data, 0, 511, []⟩] := by kernel_rfl
theorem pl_5_12 (P : FuncId → Option (List AV → Option AV)) : (NC.withPrims P).plans 5 12 = [⟨.load, 0, 0, []⟩, ⟨.data, 0, 0, []⟩, ⟨.data, 0, 2, []⟩, ⟨.read, 0, 6, []⟩, ⟨.writeAt, 0, 15, []⟩, ⟨.data, 1, 31, []⟩] := by kernel_rfl
theorem pl_5_13 (P : FuncId → Option (List AV → Option AV)) : (NC.withPrims P).plans 5 13 = [⟨.data, 0, 0, []⟩, ⟨.read, 0, 1, []⟩, ⟨.read, 0, 3, []⟩, ⟨.data, 0, 0, []⟩, ⟨.data, 0, 15, []⟩, ⟨.data, 0, 31, []⟩, ⟨.data, 0, 63, []⟩, ⟨.read, 0, 127, []⟩, ⟨.data, 0, 63, []⟩, ⟨.load, 0, 319, []⟩, ⟨.read, 0, 1023, []⟩, ⟨.data, 0, 63, []⟩, ⟨.load, 0, 2111, []⟩, ⟨.read, 0, 8191, []⟩, ⟨.read, 0, 16383, []⟩, ⟨.data, 0, 63, []⟩, ⟨.data, 0, 65535, []⟩, ⟨.data, 0, 131071, []⟩, ⟨.data, 0, 262143, []⟩, ⟨.load, 0, 524287, []⟩, ⟨.load, 0, 524287, []⟩, ⟨.data, 0, 2097151, []⟩, ⟨.data, 0, 4194303, []⟩, ⟨.data, 0, 8388607, []⟩, ⟨.data, 0, 16777215, []⟩, ⟨.data, 0, 16777215, []⟩, ⟨.data, 0, 67108863, []⟩, ⟨.data, 0, 134217727, []⟩, ⟨.data, 0, 268435455, []⟩] := by kernel_rfl
theorem pl_6_6 (P : FuncId → Option (List AV → Option AV)) : (NC.withPrims P).plans 6 6 = [⟨.load, 0, 0, []⟩, ⟨.read, 0, 1, []⟩, ⟨.data, 0, 0, []⟩, ⟨.load, 0, 4, []⟩, ⟨.read, 0, 15, []⟩, ⟨.data, 0, 31, []⟩, ⟨.data, 0, 63, []⟩, ⟨.data, 0, 63, []⟩, ⟨.data, 0, 127, []⟩, ⟨.data, 0, 511, []⟩] := by kernel_rfl
theorem pl_6_16 (P : FuncId → Option (List AV → Option AV)) : (NC.withPrims P).plans 6 16 = [⟨.load, 0, 0, []⟩, ⟨.read, 0, 1, []⟩, ⟨.load, 0, 0, []⟩, ⟨.read, 0, 7, []⟩, ⟨.data, 0, 15, []⟩, ⟨.data, 0, 31, []⟩, ⟨.data, 0, 31, []⟩, ⟨.fresh, 0, 0, []⟩, ⟨.writeAt, 1, 191, []⟩, ⟨.data, 2, 511, []⟩] := by kernel_rfl
theorem pl_6_17 (P : FuncId → Option (List AV → Option AV)) : (NC.withPrims P).plans 6 17 = [⟨.load, 0, 0, []⟩, ⟨.read, 0, 1, []⟩, ⟨.load, 0, 0, []⟩, ⟨.read, 0, 7, []⟩, ⟨.data, 0, 15, []⟩, ⟨.data, 0, 31, []⟩, ⟨.data, 0, 31, []⟩, ⟨.fresh, 0, 0, []⟩, ⟨.writeAt, 1, 191, []⟩, ⟨.data, 2, 511, []⟩] := by kernel_rfl
theorem pl_6_23 (P : FuncId → Option (List AV → Option AV)) : (NC.withPrims P).plans 6 23 = [⟨.data, 0, 0, []⟩, ⟨.data, 0, 1, []⟩, ⟨.data, 0, 3, []⟩, ⟨.data, 0, 7, []⟩, ⟨.load, 0, 15, []⟩, ⟨.data, 0, 7, []⟩, ⟨.load, 0, 39, []⟩, ⟨.data, 0, 127, []⟩, ⟨.data, 0, 255, []⟩, ⟨.data, 0, 511, []⟩, ⟨.data, 0, 1023, []⟩, ⟨.load, 0, 2047, []⟩, ⟨.data, 0, 1023, []⟩, ⟨.load, 0, 5119, []⟩, ⟨.data, 0, 13311, []⟩, ⟨.data, 0, 32767, []⟩, ⟨.data, 0, 65535, []⟩, ⟨.data, 0, 131071, []⟩, ⟨.load, 0, 262143, []⟩, ⟨.data, 0, 131071, []⟩, ⟨.load, 0, 655359, []⟩, ⟨.data, 0, 131071, []⟩, ⟨.load, 0, 2228223, []⟩, ⟨.data, 0, 7995391, []⟩, ⟨.data, 0, 16383999, []⟩, ⟨.load, 0, 33161215, []⟩, ⟨.data, 0, 67108863, []⟩, ⟨.data, 0, 134217727, []⟩, ⟨.data, 0, 268435455, []⟩, ⟨.data, 0, 536870911, []⟩, ⟨.data, 0, 1073741823, []⟩, ⟨.data, 0, 2147483647, []⟩, ⟨.data, 0, 4294967295, []⟩, ⟨.data, 0, 8589934591, []⟩, ⟨.load, 0, 17179869183, []⟩, ⟨.data, 0, 8589934591, []⟩, ⟨.load, 0, 42949672959, []⟩, ⟨.data, 0, 137438953471, []⟩, ⟨.data, 0, 274877906943, []⟩, ⟨.data, 0, 549755813887, []⟩, ⟨.data, 0, 1099511627775, []⟩, ⟨.load, 0, 2199023255551, []⟩, ⟨.data, 0, 1099511627775, []⟩, ⟨.load, 0, 5497558138879, []⟩, ⟨.data, 0, 1099511627775, []⟩, ⟨.data, 0, 31885837205503, []⟩, ⟨.data, 0, 70368744177663, []⟩, ⟨.data, 0, 140737488355327, []⟩, ⟨.data, 0, 281474976710655, []⟩] := by kernel_rfl
theorem pl_6_25 (P : FuncId → Option (List AV → Option AV)) : (NC.withPrims P).plans 6 25 = [⟨.data, 0, 0, []⟩, ⟨.load, 0, 0, []⟩, ⟨.load, 0, 0, []⟩, ⟨.writeAt, 0, 3, [2]⟩, ⟨.writeAt, 1, 15, []⟩] := by kernel_rfl
theorem pl_6_29 (P : FuncId → Option (List AV → Option AV)) : (NC.withPrims P).plans 6 29 = [⟨.load, 0, 0, []⟩, ⟨.read, 0, 1, []⟩, ⟨.data, 0, 0, []⟩, ⟨.load, 0, 4, []⟩, ⟨.data, 0, 0, []⟩, ⟨.data, 0, 16, []⟩, ⟨.read, 0, 63, []⟩, ⟨.data, 0, 127, []⟩, ⟨.data, 0, 255, []⟩, ⟨.data, 0, 255, []⟩, ⟨.data, 0, 511, []⟩, ⟨.data, 0, 2047, []⟩] := by kernel_rfl
theorem pl_6_41 (P : FuncId → Option (List AV → Option AV)) : (NC.withPrims P).plans 6 41 = [⟨.load, 0, 0, []⟩, ⟨.read, 0, 1, []⟩, ⟨.data, 0, 0, []⟩, ⟨.load, 0, 4, []⟩, ⟨.data, 0, 0, []⟩, ⟨.data, 0, 28, []⟩, ⟨.read, 0, 63, []⟩, ⟨.data, 0, 127, []⟩, ⟨.data, 0, 255, []⟩, ⟨.data, 0, 255, []⟩, ⟨.fresh, 0, 0, []⟩, ⟨.writeAt, 1, 1535, []⟩, ⟨.data, 2, 4095, []⟩] := by kernel_rfl
theorem pl_8_3 (P : FuncId → Option (List AV → Option AV)) : (NC.withPrims P).plans 8 3 = [⟨.data, 0, 0, []⟩, ⟨.read, 0, 1, []⟩, ⟨.data, 0, 0, []⟩, ⟨.load, 0, 4, []⟩, ⟨.read, 0, 15, []⟩, ⟨.data, 0, 31, []⟩, ⟨.data, 0, 63, []⟩, ⟨.data, 0, 63, []⟩, ⟨.data, 0, 127, []⟩, ⟨.data, 0, 511, []⟩] := by kernel_rfl
theorem pl_8_4 (P : FuncId → Option (List AV → Option AV)) : (NC.withPrims P).plans 8 4 = [⟨.data, 0, 0, []⟩, ⟨.read, 0, 1, []⟩, ⟨.data, 0, 0, []⟩, ⟨.load, 0, 4, []⟩, ⟨.load, 0, 0, []⟩, ⟨.data, 0, 0, []⟩, ⟨.load, 0, 32, []⟩, ⟨.read, 0, 127, []⟩, ⟨.data, 0, 255, []⟩, ⟨.data, 0, 511, []⟩, ⟨.data, 0, 511, []⟩, ⟨.fresh, 0, 0, []⟩, ⟨.writeAt, 1, 3071, []⟩, ⟨.data, 2, 8191, []⟩] := by kernel_rfl
theorem pl_9_23 (P : FuncId → Option (List AV → Option AV)) : (NC.withPrims P).plans 9 23 = [⟨.data, 0, 0, []⟩, ⟨.read, 0, 1, []⟩, ⟨.load, 0, 0, []⟩, ⟨.read, 0, 7, []⟩, ⟨.data, 0, 15, []⟩, ⟨.data, 0, 31, []⟩, ⟨.data, 0, 31, []⟩, ⟨.fresh, 0, 0, []⟩, ⟨.writeAt, 1, 191, []⟩, ⟨.data, 2, 511, []⟩] := by kernel_rfl
theorem pl_9_24 (P : FuncId → Option (List AV → Option AV)) : (NC.withPrims P).plans 9 24 = [⟨.data, 0, 0, []⟩, ⟨.read, 0, 1, []⟩, ⟨.read, 0, 3, []⟩, ⟨.load, 0, 0, []⟩, ⟨.read, 0, 15, []⟩, ⟨.data, 0, 31, []⟩, ⟨.data, 0, 63, []⟩, ⟨.data, 0, 63, []⟩, ⟨.fresh, 0, 0, []⟩, ⟨.writeAt, 1, 383, []⟩, ⟨.data, 2, 1023, []⟩] := by kernel_rfl
theorem pl_9_25 (P : FuncId → Option (List AV → Option AV)) : (NC.withPrims P).plans 9 25 = [⟨.data, 0, 0, []⟩, ⟨.read, 0, 1, []⟩, ⟨.read, 0, 3, []⟩, ⟨.load, 0, 0, []⟩, ⟨.read, 0, 15, []⟩, ⟨.data, 0, 31, []⟩, ⟨.data, 0, 63, []⟩, ⟨.data, 0, 63, []⟩, ⟨.fresh, 0, 0, []⟩, ⟨.writeAt, 1, 383, []⟩, ⟨.data, 2, 1023, []⟩] := by kernel_rfl
theorem pl_9_26 (P : FuncId → Option (List AV → Option AV)) : (NC.withPrims P).plans 9 26 = [⟨.data, 0, 0, []⟩, ⟨.read, 0, 1, []⟩, ⟨.read, 0, 3, []⟩, ⟨.load, 0, 0, []⟩, ⟨.read, 0, 15, []⟩, ⟨.data, 0, 31, []⟩, ⟨.data, 0, 63, []⟩, ⟨.data, 0, 63, []⟩, ⟨.fresh, 0, 0, []⟩, ⟨.writeAt, 1, 383, []⟩, ⟨.data, 2, 1023, []⟩] := by kernel_rfl
theorem pl_9_29 (P : FuncId → Option (List AV → Option AV)) : (NC.withPrims P).plans 9 29 = [⟨.data, 0, 0, []⟩, ⟨.read, 0, 1, []⟩, ⟨.load, 0, 0, []⟩, ⟨.read, 0, 7, []⟩, ⟨.data, 0, 15, []⟩, ⟨.data, 0, 31, []⟩, ⟨.data, 0, 31, []⟩, ⟨.fresh, 0, 0, []⟩, ⟨.writeAt, 1, 191, []⟩, ⟨.data, 2, 511, []⟩] := by kernel_rfl
theorem pl_9_30 (P : FuncId → Option (List AV → Option AV)) : (NC.withPrims P).plans 9 30 = [⟨.data, 0, 0, []⟩, ⟨.read, 0, 1, []⟩, ⟨.read, 0, 3, []⟩, ⟨.load, 0, 0, []⟩, ⟨.read, 0, 15, []⟩, ⟨.data, 0, 31, []⟩, ⟨.data, 0, 63, []⟩, ⟨.data, 0, 63, []⟩, ⟨.fresh, 0, 0, []⟩, ⟨.writeAt, 1, 383, []⟩, ⟨.data, 2, 1023, []⟩] := by kernel_rfl
theorem pl_9_53 (P : FuncId → Option (List AV → Option AV)) : (NC.withPrims P).plans 9 53 = [⟨.data, 0, 0, []⟩, ⟨.read, 0, 1, []⟩, ⟨.data, 0, 0, []⟩, ⟨.load, 0, 4, []⟩, ⟨.data, 0, 0, []⟩, ⟨.load, 0, 16, []⟩, ⟨.data, 0, 0, []⟩, ⟨.data, 0, 112, []⟩, ⟨.data, 0, 252, []⟩, ⟨.read, 0, 511, []⟩, ⟨.data, 0, 1023, []⟩, ⟨.data, 0, 2047, []⟩, ⟨.data, 0, 2047, []⟩, ⟨.fresh, 0, 0, []⟩, ⟨.writeAt, 1, 12287, []⟩, ⟨.data, 2, 32767, []⟩] := by kernel_rfl
theorem pl_10_9 (P : FuncId → Option (List AV → Option AV)) : (NC.withPrims P).plans 10 9 = [⟨.data, 0, 0, []⟩, ⟨.read, 0, 1, []⟩, ⟨.data, 0, 0, []⟩, ⟨.load, 0, 4, []⟩, ⟨.read, 0, 15, []⟩, ⟨.data, 0, 31, []⟩, ⟨.data, 0, 63, []⟩, ⟨.data, 0, 63, []⟩, ⟨.data, 0, 127, []⟩, ⟨.data, 0, 511, []⟩] := by kernel_rfl
theorem pl_10_11 (P : FuncId → Option (List AV → Option AV)) : (NC.withPrims P).plans 10 11 = [⟨.data, 0, 0, []⟩, ⟨.data, 0, 1, []⟩, ⟨.data, 0, 3, []⟩, ⟨.data, 0, 7, []⟩, ⟨.load, 0, 15, []⟩, ⟨.data, 0, 7, []⟩, ⟨.data, 0, 39, []⟩, ⟨.data, 0, 103, []⟩, ⟨.load, 0, 231, []⟩, ⟨.data, 0, 511, []⟩, ⟨.data, 0, 1023, []⟩, ⟨.data, 0, 2047, []⟩] := by kernel_rfl
theorem pl_10_12 (P : FuncId → Option (List AV → Option AV)) : (NC.withPrims P).plans 10 12 = [⟨.data, 0, 0, []⟩, ⟨.data, 0, 1, []⟩, ⟨.data, 0, 3, []⟩, ⟨.data, 0, 7, []⟩, ⟨.data, 0, 7, []⟩, ⟨.read, 0, 23, []⟩, ⟨.data, 0, 63, []⟩, ⟨.data, 0, 127, []⟩, ⟨.data, 0, 255, []⟩, ⟨.data, 0, 511, []⟩, ⟨.data, 0, 511, []⟩, ⟨.data, 0, 2047, []⟩, ⟨.data, 0, 4095, []⟩, ⟨.load, 0, 8191, []⟩, ⟨.data, 0, 511, []⟩, ⟨.load, 0, 16895, []⟩, ⟨.data, 0, 65535, []⟩, ⟨.data, 0, 131071, []⟩, ⟨.data, 0, 262143, []⟩, ⟨.data, 0, 524287, []⟩, ⟨.data, 0, 1048575, []⟩, ⟨.data, 0, 524287, []⟩, ⟨.read, 0, 2621439, []⟩, ⟨.data, 0, 8388607, []⟩, ⟨.data, 0, 16777215, []⟩, ⟨.data, 0, 33554431, []⟩, ⟨.data, 0, 33554431, []⟩, ⟨.data, 0, 100663295, []⟩, ⟨.data, 0, 268435455, []⟩, ⟨.data, 0, 536870911, []⟩, ⟨.load, 0, 1073741823, []⟩, ⟨.data, 0, 33554431, []⟩, ⟨.load, 0, 2181038079, []⟩, ⟨.data, 0, 8589934591, []⟩, ⟨.data, 0, 17179869183, []⟩, ⟨.data, 0, 34359738367, []⟩] := by kernel_rfl
theorem pl_10_16 (P : FuncId → Option (List AV → Option AV)) : (NC.withPrims P).plans 10 16 = [⟨.data, 0, 0, []⟩, ⟨.data, 0, 0, []⟩, ⟨.data, 0, 3, []⟩, ⟨.data, 0, 7, []⟩, ⟨.data, 0, 15, []⟩, ⟨.load, 0, 31, []⟩, ⟨.data, 0, 0, []⟩, ⟨.load, 0, 64, []⟩, ⟨.data, 0, 192, []⟩, ⟨.data, 0, 0, []⟩, ⟨.data, 0, 0, []⟩, ⟨.data, 0, 1536, []⟩, ⟨.data, 0, 3584, []⟩, ⟨.data, 0, 7680, []⟩, ⟨.load, 0, 15872, []⟩, ⟨.read, 0, 32256, []⟩, ⟨.data, 0, 65472, []⟩, ⟨.data, 0, 131071, []⟩, ⟨.load, 0, 262143, []⟩, ⟨.fresh, 0, 0, []⟩, ⟨.writeAt, 1, 1048575, []⟩] := by kernel_rfl
theorem pl_10_17 (P : FuncId → Option (List AV → Option AV)) : (NC.withPrims P).plans 10 17 = [⟨.data, 0, 0, []⟩, ⟨.data, 0, 0, []⟩, ⟨.data, 0, 3, []⟩, ⟨.data, 0, 7, []⟩, ⟨.load, 0, 15, []⟩, ⟨.read, 0, 31, []⟩, ⟨.data, 0, 0, []⟩, ⟨.load, 0, 64, []⟩, ⟨.data, 0, 0, []⟩, ⟨.load, 0, 256, []⟩, ⟨.data, 0, 768, []⟩, ⟨.load, 0, 0, []⟩, ⟨.read, 0, 2111, []⟩, ⟨.data, 0, 7999, []⟩, ⟨.data, 0, 16383, []⟩, ⟨.read, 0, 32767, []⟩, ⟨.data, 0, 65535, []⟩, ⟨.data, 0, 131071, []⟩, ⟨.data, 0, 131071, []⟩, ⟨.fresh, 0, 0, []⟩, ⟨.writeAt, 1, 786431, []⟩, ⟨.data, 2, 2097151, []⟩] := by kernel_rfl
theorem pl_10_20 (P : FuncId → Option (List AV → Option AV)) : (NC.withPrims P).plans 10 20 = [⟨.data, 0, 0, []⟩, ⟨.read, 0, 1, []⟩, ⟨.data, 0, 0, []⟩, ⟨.load, 0, 4, []⟩, ⟨.load, 0, 0, []⟩, ⟨.data, 0, 0, []⟩, ⟨.load, 0, 32, []⟩, ⟨.read, 0, 127, []⟩, ⟨.data, 0, 255, []⟩, ⟨.data, 0, 511, []⟩, ⟨.data, 0, 511, []⟩, ⟨.fresh, 0, 0, []⟩, ⟨.writeAt, 1, 3071, []⟩, ⟨.data, 2, 8191, []⟩] := by kernel_rfl
theorem pl_10_23 (P : FuncId → Option (List AV → Option AV)) : (NC.withPrims P).plans 10 23 = [⟨.data, 0, 0, []⟩, ⟨.read, 0, 1, []⟩, ⟨.data, 0, 0, []⟩, ⟨.load, 0, 4, []⟩, ⟨.load, 0, 0, []⟩, ⟨.data, 0, 0, []⟩, ⟨.load, 0, 32, []⟩, ⟨.read, 0, 127, []⟩, ⟨.data, 0, 255, []⟩, ⟨.data, 0, 511, []⟩, ⟨.data, 0, 511, []⟩, ⟨.fresh, 0, 0, []⟩, ⟨.writeAt, 1, 3071, []⟩, ⟨.data, 2, 8191, []⟩] := by kernel_rfl
theorem pl_10_26 (P : FuncId → Option (List AV → Option AV)) : (NC.withPrims P).plans 10 26 = [⟨.data, 0, 0, []⟩, ⟨.read, 0, 1, []⟩, ⟨.data, 0, 0, []⟩, ⟨.load, 0, 4, []⟩, ⟨.load, 0, 0, []⟩, ⟨.data, 0, 0, []⟩, ⟨.load, 0, 32, []⟩, ⟨.read, 0, 127, []⟩, ⟨.data, 0, 255, []⟩, ⟨.data, 0, 511, []⟩, ⟨.data, 0, 511, []⟩, ⟨.fresh, 0, 0, []⟩, ⟨.writeAt, 1, 3071, []⟩, ⟨.data, 2, 8191, []⟩] := by kernel_rfl
theorem pl_10_29 (P : FuncId → Option (List AV → Option AV)) : (NC.withPrims P).plans 10 29 = [⟨.data, 0, 0, []⟩, ⟨.read, 0, 1, []⟩, ⟨.data, 0, 0, []⟩, ⟨.load, 0, 4, []⟩, ⟨.load, 0, 0, []⟩, ⟨.data, 0, 0, []⟩, ⟨.load, 0, 32, []⟩, ⟨.read, 0, 127, []⟩, ⟨.data, 0, 255, []⟩, ⟨.data, 0, 511, []⟩, ⟨.data, 0, 511, []⟩, ⟨.fresh, 0, 0, []⟩, ⟨.writeAt, 1, 3071, []⟩, ⟨.data, 2, 8191, []⟩] := by kernel_rfl
theorem pl_10_30 (P : FuncId → Option (List AV → Option AV)) : (NC.withPrims P).plans 10 30 = [⟨.data, 0, 0, []⟩, ⟨.read, 0, 1, []⟩, ⟨.data, 0, 0, []⟩, ⟨.load, 0, 4, []⟩, ⟨.load, 0, 0, []⟩, ⟨.data, 0, 0, []⟩, ⟨.load, 0, 32, []⟩, ⟨.read, 0, 127, []⟩, ⟨.data, 0, 255, []⟩, ⟨.data, 0, 511, []⟩, ⟨.data, 0, 511, []⟩, ⟨.fresh, 0, 0, []⟩, ⟨.writeAt, 1, 3071, []⟩, ⟨.data, 2, 8191, []⟩] := by kernel_rfl
theorem pl_11_9 (P : FuncId → Option (List AV → Option AV)) : (NC.withPrims P).plans 11 9 = [⟨.load, 0, 0, []⟩, ⟨.read, 0, 1, []⟩, ⟨.data, 0, 0, []⟩, ⟨.load, 0, 4, []⟩, ⟨.data, 0, 0, []⟩, ⟨.load, 0, 16, []⟩, ⟨.read, 0, 63, []⟩, ⟨.data, 0, 127, []⟩, ⟨.data, 0, 255, []⟩, ⟨.data, 0, 255, []⟩, ⟨.data, 0, 255, []⟩, ⟨.data, 0, 511, []⟩, ⟨.data, 0, 3071, []⟩, ⟨.data, 0, 8191, []⟩] := by kernel_rfl
theorem pl_11_10 (P : FuncId → Option (List AV → Option AV)) : (NC.withPrims P).plans 11 10 = [⟨.load, 0, 0, []⟩, ⟨.read, 0, 1, []⟩, ⟨.data, 0, 0, []⟩, ⟨.load, 0, 4, []⟩, ⟨.data, 0, 0, []⟩, ⟨.load, 0, 16, []⟩, ⟨.data, 0, 0, []⟩, ⟨.read, 0, 67, []⟩, ⟨.read, 0, 255, []⟩, ⟨.data, 0, 511, []⟩, ⟨.data, 0, 1023, []⟩, ⟨.data, 0, 1023, []⟩, ⟨.data, 0, 2047, []⟩, ⟨.data, 0, 8191, []⟩] := by kernel_rfl
theorem pl_11_13 (P : FuncId → Option (List AV → Option AV)) : (NC.withPrims P).plans 11 13 = [⟨.load, 0, 0, []⟩, ⟨.data, 0, 0, []⟩, ⟨.load, 0, 2, []⟩, ⟨.read, 0, 7, []⟩, ⟨.load, 0, 0, []⟩, ⟨.data, 0, 0, []⟩, ⟨.load, 0, 32, []⟩, ⟨.read, 0, 127, []⟩, ⟨.data, 0, 255, []⟩, ⟨.read, 0, 511, []⟩, ⟨.data, 0, 1023, []⟩] := by kernel_rfl
theorem pl_12_7 (P : FuncId → Option (List AV → Option AV)) : (NC.withPrims P).plans 12 7 = [⟨.data, 0, 0, []⟩, ⟨.load, 0, 1, []⟩, ⟨.data, 0, 0, []⟩, ⟨.data, 0, 4, []⟩, ⟨.data, 0, 12, []⟩, ⟨.load, 0, 28, []⟩, ⟨.data, 0, 60, []⟩, ⟨.data, 0, 0, []⟩, ⟨.load, 0, 128, []⟩, ⟨.read, 0, 384, []⟩, ⟨.data, 0, 1020, []⟩, ⟨.data, 0, 2047, []⟩, ⟨.load, 0, 4095, []⟩, ⟨.fresh, 0, 0, []⟩, ⟨.writeAt, 1, 16383, []⟩] := by kernel_rfl
theorem pl_12_8 (P : FuncId → Option (List AV → Option AV)) : (NC.withPrims P).plans 12 8 = [⟨.data, 0, 0, []⟩, ⟨.data, 0, 0, []⟩, ⟨.load, 0, 2, []⟩, ⟨.data, 0, 0, []⟩, ⟨.data, 0, 8, []⟩, ⟨.data, 0, 24, []⟩, ⟨.load, 0, 56, []⟩, ⟨.data, 0, 120, []⟩, ⟨.load, 0, 0, []⟩, ⟨.read, 0, 256, []⟩, ⟨.data, 0, 1016, []⟩, ⟨.data, 0, 2046, []⟩, ⟨.data, 0, 4095, []⟩, ⟨.writeAt, 0, 8191, []⟩] := by kernel_rfl
theorem pl_12_10 (P : FuncId → Option (List AV → Option AV)) : (NC.withPrims P).plans 12 10 = [⟨.load, 0, 0, []⟩, ⟨.read, 0, 1, []⟩, ⟨.data, 0, 0, []⟩, ⟨.load, 0, 4, []⟩, ⟨.data, 0, 0, []⟩, ⟨.load, 0, 16, []⟩, ⟨.read, 0, 63, []⟩, ⟨.data, 0, 127, []⟩, ⟨.data, 0, 255, []⟩, ⟨.data, 0, 255, []⟩, ⟨.data, 0, 255, []⟩, ⟨.data, 0, 511, []⟩, ⟨.data, 0, 3071, []⟩, ⟨.data, 0, 8191, []⟩] := by kernel_rfl
theorem pl_12_11 (P : FuncId → Option (List AV → Option AV)) : (NC.withPrims P).plans 12 11 = [⟨.load, 0, 0, []⟩, ⟨.read, 0, 1, []⟩, ⟨.data, 0, 0, []⟩, ⟨.load, 0, 4, []⟩, ⟨.data, 0, 0, []⟩, ⟨.load, 0, 16, []⟩, ⟨.read, 0, 63, []⟩, ⟨.data, 0, 127, []⟩, ⟨.data, 0, 255, []⟩, ⟨.data, 0, 255, []⟩, ⟨.data, 0, 255, []⟩, ⟨.data, 0, 511, []⟩, ⟨.data, 0, 3071, []⟩, ⟨.data, 0, 8191, []⟩] := by kernel_rfl
theorem pl_12_23 (P : FuncId → Option (List AV → Option AV)) : (NC.withPrims P).plans 12 23 = [⟨.load, 0, 0, []⟩, ⟨.read, 0, 1, []⟩, ⟨.data, 0, 0, []⟩, ⟨.load, 0, 4, []⟩, ⟨.data, 0, 0, []⟩, ⟨.load, 0, 16, []⟩, ⟨.data, 0, 0, []⟩, ⟨.read, 0, 67, []⟩, ⟨.read, 0, 195, []⟩, ⟨.read, 0, 511, []⟩, ⟨.data, 0, 1023, []⟩, ⟨.data, 0, 2047, []⟩, ⟨.data, 0, 2047, []⟩, ⟨.data, 0, 4095, []⟩, ⟨.data, 0, 16383, []⟩] := by kernel_rfl
theorem pl_12_24 (P : FuncId → Option (List AV → Option AV)) : (NC.withPrims P).plans 12 24 = [⟨.load, 0, 0, []⟩, ⟨.read, 0, 1, []⟩, ⟨.data, 0, 0, []⟩, ⟨.load, 0, 4, []⟩, ⟨.data, 0, 0, []⟩, ⟨.load, 0, 16, []⟩, ⟨.data, 0, 0, []⟩, ⟨.read, 0, 127, []⟩, ⟨.data, 0, 255, []⟩, ⟨.data, 0, 511, []⟩, ⟨.data, 0, 511, []⟩, ⟨.data, 0, 1023, []⟩, ⟨.data, 0, 4095, []⟩] := by kernel_rfl
theorem pl_12_27 (P : FuncId → Option (List AV → Option AV)) : (NC.withPrims P).plans 12 27 = [⟨.load, 0, 0, []⟩, ⟨.read, 0, 1, []⟩, ⟨.data, 0, 0, []⟩, ⟨.load, 0, 4, []⟩, ⟨.data, 0, 0, []⟩, ⟨.load, 0, 16, []⟩, ⟨.data, 0, 0, []⟩, ⟨.read, 0, 67, []⟩, ⟨.read, 0, 255, []⟩, ⟨.data, 0, 511, []⟩, ⟨.data, 0, 1023, []⟩, ⟨.data, 0, 1023, []⟩, ⟨.data, 0, 2047, []⟩, ⟨.data, 0, 8191, []⟩] := by kernel_rfl
theorem pl_12_33 (P : FuncId → Option (List AV → Option AV)) : (NC.withPrims P).plans 12 33 = [⟨.load, 0, 0, []⟩, ⟨.read, 0, 1, []⟩, ⟨.data, 0, 0, []⟩, ⟨.load, 0, 4, []⟩, ⟨.data, 0, 0, []⟩, ⟨.load, 0, 16, []⟩, ⟨.read, 0, 63, []⟩, ⟨.data, 0, 127, []⟩, ⟨.data, 0, 255, []⟩, ⟨.data, 0, 255, []⟩, ⟨.data, 0, 255, []⟩, ⟨.data, 0, 511, []⟩, ⟨.data, 0, 3071, []⟩, ⟨.data, 0, 8191, []⟩] := by kernel_rfl
theorem pl_12_34 (P : FuncId → Option (List AV → Option AV)) : (NC.withPrims P).plans 12 34 = [⟨.load, 0, 0, []⟩, ⟨.read, 0, 1, []⟩, ⟨.data, 0, 0, []⟩, ⟨.load, 0, 4, []⟩, ⟨.data, 0, 0, []⟩, ⟨.load, 0, 16, []⟩, ⟨.read, 0, 63, []⟩, ⟨.data, 0, 127, []⟩, ⟨.data, 0, 255, []⟩, ⟨.data, 0, 255, []⟩, ⟨.data, 0, 255, []⟩, ⟨.data, 0, 511, []⟩, ⟨.data, 0, 3071, []⟩, ⟨.data, 0, 8191, []⟩] := by kernel_rfl
theorem pl_12_37 (P : FuncId → Option (List AV → Option AV)) : (NC.withPrims P).plans 12 37 = [⟨.load, 0, 0, []⟩, ⟨.read, 0, 1, []⟩, ⟨.data, 0, 0, []⟩, ⟨.load, 0, 4, []⟩, ⟨.data, 0, 0, []⟩, ⟨.fresh, 0, 31, []⟩, ⟨.data, 1, 63, []⟩, ⟨.data, 1, 127, []⟩, ⟨.data, 1, 127, []⟩, ⟨.data, 1, 255, []⟩, ⟨.data, 1, 1023, []⟩] := by kernel_rfl
theorem pl_12_42 (P : FuncId → Option (List AV → Option AV)) : (NC.withPrims P).plans 12 42 = [⟨.load, 0, 0, []⟩, ⟨.read, 0, 1, []⟩, ⟨.data, 0, 0, []⟩, ⟨.load, 0, 4, []⟩, ⟨.data, 0, 0, []⟩, ⟨.data, 0, 16, []⟩, ⟨.fresh, 0, 63, []⟩, ⟨.data, 1, 127, []⟩, ⟨.data, 1, 255, []⟩, ⟨.data, 1, 255, []⟩, ⟨.data, 1, 511, []⟩, ⟨.data, 1, 2047, []⟩] := by kernel_rfl
theorem pl_14_10 (P : FuncId → Option (List AV → Option AV)) : (NC.withPrims P).plans 14 10 = [⟨.data, 0, 0, []⟩, ⟨.data, 0, 0, []⟩, ⟨.data, 0, 3, []⟩, ⟨.data, 0, 7, []⟩, ⟨.data, 0, 15, []⟩, ⟨.data, 0, 15, []⟩, ⟨.data, 0, 63, []⟩, ⟨.data, 0, 127, []⟩, ⟨.data, 0, 255, []⟩, ⟨.load, 0, 511, []⟩, ⟨.read, 0, 1023, []⟩, ⟨.load, 0, 511, []⟩, ⟨.read, 0, 4095, []⟩, ⟨.data, 0, 8191, []⟩, ⟨.data, 0, 16383, []⟩, ⟨.data, 0, 32767, []⟩, ⟨.data, 0, 32767, []⟩, ⟨.data, 0, 131071, []⟩, ⟨.data, 0, 262143, []⟩, ⟨.data, 0, 524287, []⟩, ⟨.data, 0, 1048575, []⟩, ⟨.data, 0, 1048575, []⟩, ⟨.data, 0, 4194303, []⟩, ⟨.data, 0, 8388607, []⟩, ⟨.data, 0, 16777215, []⟩] := by kernel_rfl
theorem pl_15_13 (P : FuncId → Option (List AV → Option AV)) : (NC.withPrims P).plans 15 13 = [⟨.data, 0, 0, []⟩, ⟨.data, 0, 1, []⟩, ⟨.data, 0, 3, []⟩, ⟨.data, 0, 7, []⟩, ⟨.data, 0, 15, []⟩, ⟨.data, 0, 31, []⟩, ⟨.data, 0, 63, []⟩, ⟨.data, 0, 127, []⟩, ⟨.data, 0, 255, []⟩, ⟨.data, 0, 511, []⟩, ⟨.data, 0, 1023, []⟩, ⟨.load, 0, 2047, []⟩, ⟨.read, 0, 4095, []⟩, ⟨.load, 0, 2047, []⟩, ⟨.read, 0, 16383, []⟩, ⟨.data, 0, 32767, []⟩, ⟨.data, 0, 65535, []⟩, ⟨.data, 0, 131071, []⟩, ⟨.data, 0, 262143, []⟩, ⟨.read, 0, 524287, []⟩, ⟨.read, 0, 1048575, []⟩, ⟨.data, 0, 262143, []⟩, ⟨.data, 0, 2359295, []⟩, ⟨.data, 0, 8388607, []⟩, ⟨.data, 0, 16777215, []⟩] := by kernel_rfl
theorem pl_25_9 (P : FuncId → Option (List AV → Option AV)) : (NC.withPrims P).plans 25 9 = [⟨.data, 0, 0, []⟩, ⟨.load, 0, 1, []⟩, ⟨.load, 0, 0, []⟩, ⟨.data, 0, 0, []⟩, ⟨.load, 0, 8, []⟩, ⟨.data, 0, 0, []⟩, ⟨.load, 0, 32, []⟩, ⟨.read, 0, 124, []⟩, ⟨.data, 0, 255, []⟩, ⟨.writeAt, 0, 511, []⟩, ⟨.data, 1, 1023, []⟩] := by kernel_rfl
theorem pl_28_1 (P : FuncId → Option (List AV → Option AV)) : (NC.withPrims P).plans 28 1 = [⟨.data, 0, 0, []⟩, ⟨.load, 0, 1, []⟩, ⟨.load, 0, 0, []⟩, ⟨.data, 0, 0, []⟩, ⟨.load, 0, 8, []⟩, ⟨.read, 0, 28, []⟩, ⟨.data, 0, 63, []⟩, ⟨.load, 0, 127, []⟩, ⟨.fresh, 0, 0, []⟩, ⟨.writeAt, 1, 511, []⟩] := by kernel_rfl
theorem pl_28_5 (P : FuncId → Option (List AV → Option AV)) : (NC.withPrims P).plans 28 5 = [⟨.data, 0, 0, []⟩, ⟨.load, 0, 1, []⟩, ⟨.load, 0, 0, []⟩, ⟨.data, 0, 0, []⟩, ⟨.read, 0, 12, []⟩, ⟨.data, 0, 31, []⟩, ⟨.data, 0, 63, []⟩] := by kernel_rfl
theorem pl_28_7 (P : FuncId → Option (List AV → Option AV)) : (NC.withPrims P).plans 28 7 = [⟨.data, 0, 0, []⟩, ⟨.load, 0, 1, []⟩, ⟨.data, 0, 0, []⟩, ⟨.data, 0, 0, []⟩, ⟨.load, 0, 8, []⟩, ⟨.data, 0, 0, []⟩, ⟨.data, 0, 56, []⟩, ⟨.load, 0, 120, []⟩, ⟨.data, 0, 0, []⟩, ⟨.read, 0, 504, []⟩, ⟨.data, 0, 1023, []⟩, ⟨.writeAt, 0, 2047, []⟩] := by kernel_rfl
theorem pl_29_4 (P : FuncId → Option (List AV → Option AV)) : (NC.withPrims P).plans 29 4 = [⟨.load, 0, 0, []⟩, ⟨.read, 0, 1, []⟩, ⟨.load, 0, 0, []⟩, ⟨.read, 0, 7, []⟩, ⟨.data, 0, 15, []⟩, ⟨.read, 0, 31, []⟩, ⟨.data, 0, 63, []⟩] := by kernel_rfl
theorem pl_32_15 (P : FuncId → Option (List AV → Option AV)) : (NC.withPrims P).plans 32 15 = [⟨.data, 0, 0, []⟩, ⟨.data, 0, 0, []⟩, ⟨.data, 0, 2, []⟩, ⟨.load, 0, 6, []⟩, ⟨.data, 0, 0, []⟩, ⟨.data, 0, 30, []⟩, ⟨.data, 0, 62, []⟩, ⟨.load, 0, 0, []⟩, ⟨.read, 0, 128, []⟩, ⟨.data, 0, 0, []⟩, ⟨.data, 0, 512, []⟩, ⟨.load, 0, 1536, []⟩, ⟨.data, 0, 0, []⟩, ⟨.data, 0, 7680, []⟩, ⟨.data, 0, 15872, []⟩, ⟨.data, 0, 32640, []⟩, ⟨.data, 0, 65534, []⟩, ⟨.data, 0, 131070, []⟩, ⟨.writeAt, 0, 262143, []⟩, ⟨.data, 1, 524287, []⟩] := by kernel_rfl
theorem pl_32_23 (P : FuncId → Option (List AV → Option AV)) : (NC.withPrims P).plans 32 23 = [⟨.data, 0, 0, []⟩, ⟨.data, 0, 0, []⟩, ⟨.data, 0, 3, []⟩, ⟨.data, 0, 7, []⟩, ⟨.data, 0, 15, []⟩, ⟨.load, 0, 31, []⟩, ⟨.data, 0, 15, []⟩, ⟨.data, 0, 15, []⟩, ⟨.data, 0, 207, []⟩, ⟨.data, 0, 463, []⟩, ⟨.data, 0, 975, []⟩, ⟨.load, 0, 1999, []⟩, ⟨.data, 0, 4095, []⟩, ⟨.data, 0, 8191, []⟩] := by kernel_rfl
theorem pl_32_24 (P : FuncId → Option (List AV → Option AV)) : (NC.withPrims P).plans 32 24 = [⟨.data, 0, 0, []⟩, ⟨.data, 0, 0, []⟩, ⟨.data, 0, 0, []⟩, ⟨.data, 0, 0, []⟩, ⟨.data, 0, 12, []⟩, ⟨.data, 0, 28, []⟩, ⟨.data, 0, 60, []⟩, ⟨.load, 0, 124, []⟩, ⟨.data, 0, 0, []⟩, ⟨.load, 0, 256, []⟩, ⟨.data, 0, 1020, []⟩, ⟨.data, 0, 2047, []⟩, ⟨.data, 0, 4095, []⟩, ⟨.data, 0, 8191, []⟩, ⟨.writeAt, 0, 16383, []⟩] := by kernel_rfl
theorem pl_37_5 (P : FuncId → Option (List AV → Option AV)) : (NC.withPrims P).plans 37 5 = [⟨.load, 0, 0, []⟩, ⟨.load, 0, 0, []⟩, ⟨.data, 0, 0, []⟩, ⟨.load, 0, 4, []⟩, ⟨.data, 0, 0, []⟩, ⟨.data, 0, 28, []⟩, ⟨.data, 0, 60, []⟩, ⟨.load, 0, 124, []⟩, ⟨.read, 0, 255, []⟩, ⟨.data, 0, 511, []⟩] := by kernel_rfl
theorem pl_38_14 (P : FuncId → Option (List AV → Option AV)) : (NC.withPrims P).plans 38 14 = [⟨.data, 0, 0, []⟩, ⟨.load, 0, 1, []⟩, ⟨.data, 0, 0, []⟩, ⟨.data, 0, 0, []⟩, ⟨.data, 0, 12, []⟩, ⟨.load, 0, 28, []⟩, ⟨.data, 0, 3, []⟩, ⟨.data, 0, 127, []⟩] := by kernel_rfl
theorem pl_39_6 (P : FuncId → Option (List AV → Option AV)) : (NC.withPrims P).plans 39 6 = [⟨.data, 0, 0, []⟩, ⟨.data, 0, 0, []⟩, ⟨.data, 0, 3, []⟩, ⟨.load, 0, 7, []⟩, ⟨.data, 0, 0, []⟩, ⟨.data, 0, 0, []⟩, ⟨.data, 0, 48, []⟩, ⟨.load, 0, 112, []⟩, ⟨.data, 0, 255, []⟩] := by kernel_rfl
theorem pl_42_1 (P : FuncId → Option (List AV → Option AV)) : (NC.withPrims P).plans 42 1 = [⟨.data, 0, 0, []⟩, ⟨.read, 0, 1, []⟩, ⟨.data, 0, 0, []⟩, ⟨.load, 0, 4, []⟩, ⟨.read, 0, 15, []⟩, ⟨.data, 0, 0, []⟩, ⟨.load, 0, 32, []⟩, ⟨.read, 0, 127, []⟩, ⟨.data, 0, 255, []⟩, ⟨.read, 0, 511, []⟩, ⟨.data, 0, 1023, []⟩] := by kernel_rfl
theorem pl_42_5 (P : FuncId → Option (List AV → Option AV)) : (NC.withPrims P).plans 42 5 = [⟨.load, 0, 0, []⟩, ⟨.data, 0, 0, []⟩, ⟨.data, 0, 2, []⟩, ⟨.read, 0, 6, []⟩, ⟨.writeAt, 0, 15, []⟩, ⟨.data, 1, 31, []⟩] := by kernel_rfl
theorem pl_44_7 (P : FuncId → Option (List AV → Option AV)) : (NC.withPrims P).plans 44 7 = [⟨.data, 0, 0, []⟩, ⟨.load, 0, 1, []⟩, ⟨.read, 0, 3, []⟩, ⟨.data, 0, 0, []⟩, ⟨.load, 0, 8, []⟩, ⟨.read, 0, 31, []⟩, ⟨.data, 0, 0, []⟩, ⟨.load, 0, 64, []⟩, ⟨.read, 0, 255, []⟩, ⟨.data, 0, 0, []⟩, ⟨.load, 0, 512, []⟩, ⟨.read, 0, 2047, []⟩, ⟨.data, 0, 0, []⟩, ⟨.load, 0, 4096, []⟩, ⟨.read, 0, 16383, []⟩, ⟨.data, 0, 32767, []⟩, ⟨.read, 0, 65535, []⟩, ⟨.data, 0, 131071, []⟩] := by kernel_rfl
theorem pl_44_19 (P : FuncId → Option (List AV → Option AV)) : (NC.withPrims P).plans 44 19 = [⟨.data, 0, 0, []⟩, ⟨.data, 0, 0, []⟩, ⟨.data, 0, 3, []⟩, ⟨.load, 0, 7, []⟩, ⟨.load, 0, 0, []⟩, ⟨.read, 0, 31, []⟩] := by kernel_rfl
theorem pl_45_5 (P : FuncId → Option (List AV → Option AV)) : (NC.withPrims P).plans 45 5 = [⟨.load, 0, 0, []⟩, ⟨.data, 0, 0, []⟩, ⟨.load, 0, 2, []⟩, ⟨.data, 0, 0, []⟩, ⟨.load, 0, 8, []⟩, ⟨.data, 0, 0, []⟩, ⟨.load, 0, 32, []⟩, ⟨.data, 0, 0, []⟩, ⟨.load, 0, 128, []⟩, ⟨.data, 0, 480, []⟩, ⟨.data, 0, 1016, []⟩, ⟨.read, 0, 2047, []⟩, ⟨.load, 0, 0, []⟩, ⟨.data, 0, 0, []⟩, ⟨.load, 0, 8192, []⟩, ⟨.data, 0, 0, []⟩, ⟨.load, 0, 32768, []⟩, ⟨.data, 0, 0, []⟩, ⟨.load, 0, 131072, []⟩, ⟨.data, 0, 0, []⟩, ⟨.load, 0, 524288, []⟩, ⟨.data, 0, 1966080, []⟩, ⟨.data, 0, 4161536, []⟩, ⟨.read, 0, 8388607, []⟩, ⟨.data, 0, 16777215, []⟩, ⟨.read, 0, 33554431, []⟩, ⟨.data, 0, 67108863, []⟩] := by kernel_rfl
theorem pl_46_1 (P : FuncId → Option (List AV → Option AV)) : (NC.withPrims P).plans 46 1 = [⟨.data, 0, 0, []⟩, ⟨.load, 0, 1, []⟩, ⟨.read, 0, 3, []⟩, ⟨.data, 0, 0, []⟩, ⟨.load, 0, 8, []⟩, ⟨.read, 0, 31, []⟩, ⟨.data, 0, 63, []⟩, ⟨.read, 0, 127, []⟩, ⟨.data, 0, 255, []⟩] := by kernel_rfl
theorem pl_49_11 (P : FuncId → Option (List AV → Option AV)) : (NC.withPrims P).plans 49 11 = [⟨.data, 0, 0, []⟩, ⟨.load, 0, 1, []⟩, ⟨.data, 0, 0, []⟩, ⟨.load, 0, 4, []⟩, ⟨.data, 0, 15, []⟩, ⟨.data, 0, 31, []⟩, ⟨.data, 0, 63, []⟩, ⟨.load, 0, 127, []⟩, ⟨.data, 0, 63, []⟩, ⟨.load, 0, 319, []⟩, ⟨.data, 0, 1023, []⟩, ⟨.data, 0, 2047, []⟩, ⟨.data, 0, 4095, []⟩, ⟨.load, 0, 8191, []⟩, ⟨.load, 0, 4095, []⟩, ⟨.read, 0, 20479, []⟩, ⟨.data, 0, 65535, []⟩, ⟨.data, 0, 131071, []⟩, ⟨.data, 0, 262143, []⟩] := by kernel_rfl
theorem pl_50_1 (P : FuncId → Option (List AV → Option AV)) : (NC.withPrims P).plans 50 1 = [⟨.data, 0, 0, []⟩, ⟨.read, 0, 1, []⟩, ⟨.load, 0, 0, []⟩, ⟨.read, 0, 7, []⟩, ⟨.load, 0, 0, []⟩, ⟨.read, 0, 31, []⟩, ⟨.data, 0, 63, []⟩, ⟨.read, 0, 127, []⟩, ⟨.data, 0, 255, []⟩] := by kernel_rfl
theorem pl_56_5 (P : FuncId → Option (List AV → Option AV)) : (NC.withPrims P).plans 56 5 = [⟨.data, 0, 0, []⟩, ⟨.data, 0, 1, []⟩, ⟨.data, 0, 0, []⟩, ⟨.read, 0, 4, []⟩, ⟨.data, 0, 15, []⟩, ⟨.data, 0, 31, []⟩, ⟨.data, 0, 63, []⟩, ⟨.data, 0, 63, []⟩, ⟨.data, 0, 255, []⟩, ⟨.load, 0, 511, []⟩, ⟨.data, 0, 63, []⟩, ⟨.data, 0, 63, []⟩, ⟨.data, 0, 2111, []⟩, ⟨.data, 0, 7231, []⟩, ⟨.load, 0, 15423, []⟩, ⟨.read, 0, 32767, []⟩, ⟨.data, 0, 65535, []⟩] := by kernel_rfl
theorem pl_56_8 (P : FuncId → Option (List AV → Option AV)) : (NC.withPrims P).plans 56 8 = [⟨.data, 0, 0, []⟩, ⟨.data, 0, 0, []⟩, ⟨.data, 0, 3, []⟩, ⟨.data, 0, 0, []⟩, ⟨.read, 0, 8, []⟩, ⟨.data, 0, 31, []⟩, ⟨.data, 0, 63, []⟩, ⟨.data, 0, 127, []⟩, ⟨.data, 0, 127, []⟩, ⟨.data, 0, 127, []⟩, ⟨.data, 0, 895, []⟩, ⟨.data, 0, 1919, []⟩, ⟨.data, 0, 4095, []⟩, ⟨.load, 0, 8191, []⟩, ⟨.data, 0, 127, []⟩, ⟨.data, 0, 127, []⟩, ⟨.data, 0, 127, []⟩, ⟨.data, 0, 98431, []⟩, ⟨.data, 0, 245887, []⟩, ⟨.load, 0, 508031, []⟩, ⟨.data, 0, 127, []⟩, ⟨.read, 0, 2097151, []⟩, ⟨.data, 0, 4194303, []⟩] := by kernel_rfl
theorem pl_56_10 (P : FuncId → Option (List AV → Option AV)) : (NC.withPrims P).plans 56 10 = [⟨.data, 0, 0, []⟩, ⟨.data, 0, 0, []⟩, ⟨.data, 0, 3, []⟩, ⟨.data, 0, 7, []⟩, ⟨.data, 0, 15, []⟩, ⟨.load, 0, 31, []⟩, ⟨.data, 0, 0, []⟩, ⟨.data, 0, 0, []⟩, ⟨.data, 0, 192, []⟩, ⟨.data, 0, 448, []⟩, ⟨.data, 0, 960, []⟩, ⟨.load, 0, 1984, []⟩, ⟨.data, 0, 0, []⟩, ⟨.data, 0, 0, []⟩, ⟨.data, 0, 0, []⟩, ⟨.data, 0, 24576, []⟩, ⟨.data, 0, 57344, []⟩, ⟨.data, 0, 122880, []⟩, ⟨.load, 0, 253952, []⟩, ⟨.data, 0, 0, []⟩, ⟨.data, 0, 0, []⟩, ⟨.data, 0, 1572864, []⟩, ⟨.data, 0, 3670016, []⟩, ⟨.data, 0, 7864320, []⟩, ⟨.load, 0, 16252928, []⟩, ⟨.data, 0, 0, []⟩, ⟨.data, 0, 33554432, []⟩, ⟨.data, 0, 134217727, []⟩, ⟨.fresh, 0, 0, []⟩, ⟨.writeAt, 1, 536870911, []⟩] := by kernel_rfl
theorem pl_57_8 (P : FuncId → Option (List AV → Option AV)) : (NC.withPrims P).plans 57 8 = [⟨.data, 0, 0, []⟩, ⟨.data, 0, 0, []⟩, ⟨.data, 0, 3, []⟩, ⟨.data, 0, 7, []⟩, ⟨.load, 0, 15, []⟩, ⟨.data, 0, 0, []⟩, ⟨.data, 0, 0, []⟩, ⟨.data, 0, 96, []⟩, ⟨.data, 0, 224, []⟩, ⟨.load, 0, 480, []⟩, ⟨.data, 0, 0, []⟩, ⟨.data, 0, 2016, []⟩, ⟨.data, 0, 4095, []⟩, ⟨.fresh, 0, 0, []⟩, ⟨.writeAt, 1, 16383, []⟩] := by kernel_rfl
theorem pl_58_5 (P : FuncId → Option (List AV → Option AV)) : (NC.withPrims P).plans 58 5 = [⟨.data, 0, 0, []⟩, ⟨.data, 0, 0, []⟩, ⟨.data, 0, 0, []⟩, ⟨.data, 0, 0, []⟩, ⟨.data, 0, 12, []⟩, ⟨.data, 0, 28, []⟩, ⟨.load, 0, 60, []⟩, ⟨.data, 0, 0, []⟩, ⟨.data, 0, 0, []⟩, ⟨.data, 0, 384, []⟩, ⟨.data, 0, 896, []⟩, ⟨.load, 0, 1920, []⟩, ⟨.data, 0, 4092, []⟩, ⟨.data, 0, 8191, []⟩, ⟨.writeAt, 0, 16383, []⟩] := by kernel_rfl
theorem pl_59_8 (P : FuncId → Option (List AV → Option AV)) : (NC.withPrims P).plans 59 8 = [⟨.data, 0, 0, []⟩, ⟨.data, 0, 0, []⟩, ⟨.data, 0, 0, []⟩, ⟨.data, 0, 6, []⟩, ⟨.data, 0, 14, []⟩, ⟨.load, 0, 30, []⟩, ⟨.load, 0, 0, []⟩, ⟨.data, 0, 126, []⟩, ⟨.data, 0, 254, []⟩, ⟨.writeAt, 0, 511, []⟩, ⟨.data, 1, 1023, []⟩] := by kernel_rfl
theorem pl_60_6 (P : FuncId → Option (List AV → Option AV)) : (NC.withPrims P).plans 60 6 = [⟨.data, 0, 0, []⟩, ⟨.data, 0, 0, []⟩, ⟨.data, 0, 3, []⟩, ⟨.load, 0, 7, []⟩, ⟨.data, 0, 0, []⟩, ⟨.data, 0, 0, []⟩, ⟨.data, 0, 48, []⟩, ⟨.load, 0, 112, []⟩, ⟨.data, 0, 255, []⟩] := by kernel_rfl
theorem pl_64_5 (P : FuncId → Option (List AV → Option AV)) : (NC.withPrims P).plans 64 5 = [⟨.data, 0, 0, []⟩, ⟨.data, 0, 0, []⟩, ⟨.load, 0, 2, []⟩, ⟨.data, 0, 0, []⟩, ⟨.load, 0, 8, []⟩, ⟨.read, 0, 24, []⟩, ⟨.data, 0, 0, []⟩, ⟨.load, 0, 64, []⟩, ⟨.read, 0, 248, []⟩, ⟨.data, 0, 510, []⟩, ⟨.data, 0, 1022, []⟩, ⟨.writeAt, 0, 2047, []⟩, ⟨.data, 1, 4095, []⟩] := by kernel_rfl
theorem pl_65_7 (P : FuncId → Option (List AV → Option AV)) : (NC.withPrims P).plans 65 7 = [⟨.data, 0, 0, []⟩, ⟨.data, 0, 0, []⟩, ⟨.data, 0, 3, []⟩, ⟨.data, 0, 7, []⟩, ⟨.load, 0, 15, []⟩, ⟨.load, 0, 0, []⟩, ⟨.read, 0, 63, []⟩, ⟨.data, 0, 127, []⟩, ⟨.data, 0, 255, []⟩, ⟨.data, 0, 255, []⟩, ⟨.fresh, 0, 0, []⟩, ⟨.writeAt, 1, 1535, []⟩, ⟨.data, 2, 4095, []⟩] := by kernel_rfl
theorem pl_65_27 (P : FuncId → Option (List AV → Option AV)) : (NC.withPrims P).plans 65 27 = [⟨.data, 0, 0, []⟩, ⟨.data, 0, 0, []⟩, ⟨.data, 0, 3, []⟩, ⟨.data, 0, 7, []⟩, ⟨.load, 0, 15, []⟩, ⟨.load, 0, 0, []⟩, ⟨.read, 0, 63, []⟩, ⟨.writeAt, 0, 127, []⟩, ⟨.data, 1, 255, []⟩] := by kernel_rfl
theorem pl_66_7 (P : FuncId → Option (List AV → Option AV)) : (NC.withPrims P).plans 66 7 = [⟨.data, 0, 0, []⟩, ⟨.data, 0, 0, []⟩, ⟨.data, 0, 3, []⟩, ⟨.data, 0, 7, []⟩, ⟨.load, 0, 15, []⟩, ⟨.read, 0, 31, []⟩, ⟨.data, 0, 0, []⟩, ⟨.data, 0, 64, []⟩, ⟨.data, 0, 255, []⟩, ⟨.data, 0, 511, []⟩, ⟨.data, 0, 511, []⟩, ⟨.data, 0, 2047, []⟩, ⟨.data, 0, 4095, []⟩, ⟨.load, 0, 8191, []⟩, ⟨.data, 0, 511, []⟩, ⟨.data, 0, 511, []⟩, ⟨.data, 0, 33279, []⟩, ⟨.data, 0, 98815, []⟩, ⟨.data, 0, 246271, []⟩, ⟨.data, 0, 508415, []⟩, ⟨.load, 0, 1032703, []⟩, ⟨.data, 0, 2097151, []⟩, ⟨.data, 0, 4194303, []⟩, ⟨.read, 0, 8388607, []⟩, ⟨.data, 0, 0, []⟩, ⟨.data, 0, 0, []⟩, ⟨.data, 0, 50331648, []⟩, ⟨.data, 0, 117440512, []⟩, ⟨.load, 0, 251658240, []⟩, ⟨.read, 0, 536870911, []⟩, ⟨.data, 0, 0, []⟩, ⟨.data, 0, 0, []⟩, ⟨.data, 0, 3221225472, []⟩, ⟨.data, 0, 7516192768, []⟩, ⟨.load, 0, 16106127360, []⟩, ⟨.read, 0, 34359738367, []⟩, ⟨.data, 0, 68719476735, []⟩, ⟨.read, 0, 137438953471, []⟩, ⟨.data, 0, 274877906943, []⟩] := by kernel_rfl
theorem pl_66_13 (P : FuncId → Option (List AV → Option AV)) : (NC.withPrims P).plans 66 13 = [⟨.data, 0, 0, []⟩, ⟨.data, 0, 0, []⟩, ⟨.data, 0, 3, []⟩, ⟨.data, 0, 7, []⟩, ⟨.load, 0, 15, []⟩, ⟨.data, 0, 0, []⟩, ⟨.data, 0, 0, []⟩, ⟨.data, 0, 64, []⟩, ⟨.data, 0, 224, []⟩, ⟨.data, 0, 480, []⟩, ⟨.load, 0, 992, []⟩, ⟨.data, 0, 0, []⟩, ⟨.data, 0, 0, []⟩, ⟨.data, 0, 6144, []⟩, ⟨.data, 0, 14336, []⟩, ⟨.load, 0, 30720, []⟩, ⟨.read, 0, 65535, []⟩, ⟨.data, 0, 131071, []⟩] := by kernel_rfl
theorem pl_68_4 (P : FuncId → Option (List AV → Option AV)) : (NC.withPrims P).plans 68 4 = [⟨.data, 0, 0, []⟩, ⟨.data, 0, 0, []⟩, ⟨.data, 0, 3, []⟩, ⟨.data, 0, 7, []⟩, ⟨.load, 0, 15, []⟩, ⟨.load, 0, 0, []⟩, ⟨.read, 0, 63, []⟩, ⟨.data, 0, 127, []⟩, ⟨.data, 0, 255, []⟩, ⟨.data, 0, 255, []⟩, ⟨.fresh, 0, 0, []⟩, ⟨.writeAt, 1, 1535, []⟩, ⟨.data, 2, 4095, []⟩] := by kernel_rfl
theorem pl_68_14 (P : FuncId → Option (List AV → Option AV)) : (NC.withPrims P).plans 68 14 = [⟨.data, 0, 0, []⟩, ⟨.data, 0, 0, []⟩, ⟨.data, 0, 3, []⟩, ⟨.data, 0, 7, []⟩, ⟨.load, 0, 15, []⟩, ⟨.load, 0, 0, []⟩, ⟨.read, 0, 63, []⟩, ⟨.data, 0, 127, []⟩, ⟨.data, 0, 255, []⟩, ⟨.data, 0, 255, []⟩, ⟨.writeAt, 0, 511, []⟩, ⟨.data, 1, 2047, []⟩] := by kernel_rfl
theorem pl_68_15 (P : FuncId → Option (List AV → Option AV)) : (NC.withPrims P).plans 68 15 = [⟨.data, 0, 0, []⟩, ⟨.data, 0, 0, []⟩, ⟨.data, 0, 3, []⟩, ⟨.data, 0, 7, []⟩, ⟨.load, 0, 15, []⟩, ⟨.load, 0, 0, []⟩, ⟨.read, 0, 63, []⟩, ⟨.data, 0, 127, []⟩, ⟨.data, 0, 255, []⟩, ⟨.data, 0, 255, []⟩, ⟨.writeAt, 0, 511, []⟩, ⟨.data, 1, 2047, []⟩] := by kernel_rfl
theorem pl_68_19 (P : FuncId → Option (List AV → Option AV)) : (NC.withPrims P).plans 68 19 = [⟨.data, 0, 0, []⟩, ⟨.data, 0, 0, []⟩, ⟨.data, 0, 3, []⟩, ⟨.data, 0, 7, []⟩, ⟨.load, 0, 15, []⟩, ⟨.load, 0, 0, []⟩, ⟨.read, 0, 63, []⟩, ⟨.writeAt, 0, 127, []⟩, ⟨.data, 1, 255, []⟩] := by kernel_rfl
theorem pl_69_8 (P : FuncId → Option (List AV → Option AV)) : (NC.withPrims P).plans 69 8 = [⟨.data, 0, 0, []⟩, ⟨.load, 0, 1, []⟩, ⟨.read, 0, 3, []⟩, ⟨.data, 0, 0, []⟩, ⟨.load, 0, 8, []⟩, ⟨.data, 0, 0, []⟩, ⟨.data, 0, 56, []⟩, ⟨.read, 0, 127, []⟩, ⟨.data, 0, 0, []⟩, ⟨.load, 0, 256, []⟩, ⟨.read, 0, 1023, []⟩, ⟨.data, 0, 0, []⟩, ⟨.load, 0, 2048, []⟩, ⟨.read, 0, 8191, []⟩, ⟨.data, 0, 16383, []⟩, ⟨.read, 0, 32767, []⟩, ⟨.data, 0, 65535, []⟩] := by kernel_rfl
theorem pl_69_14 (P : FuncId → Option (List AV → Option AV)) : (NC.withPrims P).plans 69 14 = [⟨.data, 0, 0, []⟩, ⟨.load, 0, 1, []⟩, ⟨.data, 0, 0, []⟩, ⟨.data, 0, 0, []⟩, ⟨.data, 0, 8, []⟩, ⟨.data, 0, 28, []⟩, ⟨.data, 0, 60, []⟩, ⟨.load, 0, 124, []⟩, ⟨.data, 0, 0, []⟩, ⟨.load, 0, 256, []⟩, ⟨.read, 0, 1023, []⟩, ⟨.data, 0, 2047, []⟩] := by kernel_rfl
theorem pl_71_7 (P : FuncId → Option (List AV → Option AV)) : (NC.withPrims P).plans 71 7 = [⟨.data, 0, 0, []⟩, ⟨.load, 0, 1, []⟩, ⟨.data, 0, 0, []⟩, ⟨.load, 0, 4, []⟩, ⟨.data, 0, 3, []⟩, ⟨.data, 0, 31, []⟩, ⟨.data, 0, 63, []⟩] := by kernel_rfl
theorem pl_72_10 (P : FuncId → Option (List AV → Option AV)) : (NC.withPrims P).plans 72 10 = [⟨.load, 0, 0, []⟩, ⟨.fresh, 0, 0, []⟩, ⟨.data, 1, 2, []⟩, ⟨.writeAt, 1, 7, []⟩] := by kernel_rfl
theorem pl_72_17 (P : FuncId → Option (List AV → Option AV)) : (NC.withPrims P).plans 72 17 = [⟨.data, 0, 0, []⟩, ⟨.load, 0, 0, []⟩, ⟨.read, 0, 2, []⟩, ⟨.data, 0, 7, []⟩, ⟨.data, 0, 0, []⟩, ⟨.load, 0, 16, []⟩, ⟨.data, 0, 0, []⟩, ⟨.load, 0, 64, []⟩, ⟨.data, 0, 240, []⟩, ⟨.data, 0, 15, []⟩, ⟨.writeAt, 0, 1023, []⟩] := by kernel_rfl
theorem pl_74_7 (P : FuncId → Option (List AV → Option AV)) : (NC.withPrims P).plans 74 7 = [⟨.load, 0, 0, []⟩, ⟨.data, 0, 0, []⟩, ⟨.data, 0, 0, []⟩, ⟨.data, 0, 6, []⟩, ⟨.data, 0, 14, []⟩, ⟨.load, 0, 30, []⟩, ⟨.data, 0, 0, []⟩, ⟨.data, 0, 0, []⟩, ⟨.data, 0, 192, []⟩, ⟨.data, 0, 448, []⟩, ⟨.load, 0, 960, []⟩, ⟨.read, 0, 2047, []⟩, ⟨.load, 0, 0, []⟩, ⟨.data, 0, 0, []⟩, ⟨.data, 0, 0, []⟩, ⟨.data, 0, 24576, []⟩, ⟨.data, 0, 57344, []⟩, ⟨.load, 0, 122880, []⟩, ⟨.data, 0, 0, []⟩, ⟨.data, 0, 0, []⟩, ⟨.data, 0, 786432, []⟩, ⟨.data, 0, 1835008, []⟩, ⟨.load, 0, 3932160, []⟩, ⟨.read, 0, 8388607, []⟩, ⟨.data, 0, 16777215, []⟩, ⟨.read, 0, 33554431, []⟩, ⟨.data, 0, 67108863, []⟩] := by kernel_rfl
theorem pl_75_1 (P : FuncId → Option (List AV → Option AV)) : (NC.withPrims P).plans 75 1 = [⟨.load, 0, 0, []⟩, ⟨.load, 0, 0, []⟩, ⟨.load, 0, 0, []⟩, ⟨.data, 0, 0, []⟩, ⟨.load, 0, 8, []⟩, ⟨.read, 0, 24, []⟩, ⟨.fresh, 0, 56, []⟩, ⟨.read, 1, 127, []⟩, ⟨.data, 1, 255, []⟩] := by kernel_rfl
theorem pl_75_8 (P : FuncId → Option (List AV → Option AV)) : (NC.withPrims P).plans 75 8 = [⟨.load, 0, 0, []⟩, ⟨.data, 0, 0, []⟩, ⟨.data, 0, 0, []⟩, ⟨.data, 0, 6, []⟩, ⟨.load, 0, 14, []⟩, ⟨.data, 0, 0, []⟩, ⟨.read, 0, 63, []⟩] := by kernel_rfl
theorem pl_76_2 (P : FuncId → Option (List AV → Option AV)) : (NC.withPrims P).plans 76 2 = [⟨.data, 0, 0, []⟩, ⟨.data, 0, 1, []⟩, ⟨.data, 0, 3, []⟩, ⟨.load, 0, 7, []⟩, ⟨.data, 0, 0, []⟩, ⟨.data, 0, 16, []⟩, ⟨.data, 0, 48, []⟩, ⟨.load, 0, 112, []⟩, ⟨.data, 0, 255, []⟩, ⟨.load, 0, 0, []⟩, ⟨.data, 0, 1023, []⟩, ⟨.data, 0, 2047, []⟩, ⟨.data, 0, 4095, []⟩, ⟨.load, 0, 8191, []⟩, ⟨.data, 0, 4095, []⟩, ⟨.load, 0, 20479, []⟩, ⟨.data, 0, 65535, []⟩, ⟨.load, 0, 4095, []⟩, ⟨.data, 0, 262143, []⟩, ⟨.data, 0, 524287, []⟩] := by kernel_rfl
theorem pl_76_7 (P : FuncId → Option (List AV → Option AV)) : (NC.withPrims P).plans 76 7 = [⟨.load, 0, 0, []⟩, ⟨.data, 0, 0, []⟩, ⟨.data, 0, 0, []⟩, ⟨.data, 0, 4, []⟩, ⟨.data, 0, 14, []⟩, ⟨.data, 0, 30, []⟩, ⟨.load, 0, 62, []⟩, ⟨.data, 0, 0, []⟩, ⟨.data, 0, 0, []⟩, ⟨.data, 0, 256, []⟩, ⟨.data, 0, 896, []⟩, ⟨.data, 0, 1920, []⟩, ⟨.load, 0, 3968, []⟩, ⟨.data, 0, 8190, []⟩, ⟨.data, 0, 0, []⟩, ⟨.data, 0, 0, []⟩, ⟨.data, 0, 49152, []⟩, ⟨.data, 0, 114688, []⟩, ⟨.load, 0, 245760, []⟩, ⟨.data, 0, 0, []⟩, ⟨.data, 0, 0, []⟩, ⟨.data, 0, 1572864, []⟩, ⟨.data, 0, 3670016, []⟩, ⟨.load, 0, 7864320, []⟩, ⟨.data, 0, 16760832, []⟩, ⟨.read, 0, 33554431, []⟩, ⟨.data, 0, 67108863, []⟩] := by kernel_rfl
theorem pl_77_5 (P : FuncId → Option (List AV → Option AV)) : (NC.withPrims P).plans 77 5 = [⟨.data, 0, 0, []⟩, ⟨.data, 0, 0, []⟩, ⟨.data, 0, 0, []⟩, ⟨.data, 0, 6, []⟩, ⟨.data, 0, 14, []⟩, ⟨.load, 0, 30, []⟩, ⟨.data, 0, 0, []⟩, ⟨.data, 0, 0, []⟩, ⟨.data, 0, 192, []⟩, ⟨.data, 0, 448, []⟩, ⟨.load, 0, 960, []⟩, ⟨.data, 0, 2046, []⟩, ⟨.read, 0, 4094, []⟩, ⟨.data, 0, 8191, []⟩, ⟨.data, 0, 16383, []⟩] := by kernel_rfl
theorem pl_78_6 (P : FuncId → Option (List AV → Option AV)) : (NC.withPrims P).plans 78 6 = [⟨.data, 0, 0, []⟩, ⟨.data, 0, 0, []⟩, ⟨.data, 0, 3, []⟩, ⟨.load, 0, 7, []⟩, ⟨.data, 0, 0, []⟩, ⟨.data, 0, 0, []⟩, ⟨.data, 0, 48, []⟩, ⟨.load, 0, 112, []⟩, ⟨.data, 0, 255, []⟩] := by kernel_rfl
theorem pl_82_1 (P : FuncId → Option (List AV → Option AV)) : (NC.withPrims P).plans 82 1 = [⟨.data, 0, 0, []⟩, ⟨.load, 0, 1, []⟩, ⟨.load, 0, 0, []⟩, ⟨.data, 0, 0, []⟩, ⟨.read, 0, 12, []⟩, ⟨.data, 0, 31, []⟩, ⟨.load, 0, 63, []⟩, ⟨.fresh, 0, 0, []⟩, ⟨.writeAt, 1, 255, []⟩] := by kernel_rfl
theorem pl_83_8 (P : FuncId → Option (List AV → Option AV)) : (NC.withPrims P).plans 83 8 = [⟨.load, 0, 0, []⟩, ⟨.data, 0, 0, []⟩, ⟨.load, 0, 2, []⟩, ⟨.data, 0, 0, []⟩, ⟨.data, 0, 14, []⟩, ⟨.load, 0, 30, []⟩, ⟨.data, 0, 0, []⟩, ⟨.read, 0, 127, []⟩, ⟨.data, 0, 255, []⟩] := by kernel_rfl
theorem pl_83_16 (P : FuncId → Option (List AV → Option AV)) : (NC.withPrims P).plans 83 16 = [⟨.load, 0, 0, []⟩, ⟨.data, 0, 0, []⟩, ⟨.load, 0, 2, []⟩, ⟨.data, 0, 0, []⟩, ⟨.data, 0, 14, []⟩, ⟨.load, 0, 30, []⟩, ⟨.data, 0, 0, []⟩, ⟨.read, 0, 127, []⟩, ⟨.data, 0, 0, []⟩, ⟨.data, 0, 511, []⟩] := by kernel_rfl
theorem pl_84_6 (P : FuncId → Option (List AV → Option AV)) : (NC.withPrims P).plans 84 6 = [⟨.data, 0, 0, []⟩, ⟨.data, 0, 0, []⟩, ⟨.data, 0, 3, []⟩, ⟨.load, 0, 7, []⟩, ⟨.data, 0, 0, []⟩, ⟨.data, 0, 0, []⟩, ⟨.data, 0, 48, []⟩, ⟨.load, 0, 112, []⟩, ⟨.data, 0, 255, []⟩] := by kernel_rfl
theorem pl_87_13 (P : FuncId → Option (List AV → Option AV)) : (NC.withPrims P).plans 87 13 = [⟨.data, 0, 0, []⟩, ⟨.data, 0, 0, []⟩, ⟨.load, 0, 2, []⟩, ⟨.read, 0, 6, []⟩, ⟨.data, 0, 0, []⟩, ⟨.load, 0, 16, []⟩, ⟨.read, 0, 62, []⟩, ⟨.load, 0, 0, []⟩, ⟨.data, 0, 0, []⟩, ⟨.load, 0, 256, []⟩, ⟨.read, 0, 1022, []⟩, ⟨.data, 0, 2046, []⟩, ⟨.write, 0, 4095, []⟩] := by kernel_rfl
theorem pl_87_19 (P : FuncId → Option (List AV → Option AV)) : (NC.withPrims P).plans 87 19 = [⟨.data, 0, 0, []⟩, ⟨.data, 0, 0, []⟩, ⟨.load, 0, 2, []⟩, ⟨.data, 0, 0, []⟩, ⟨.load, 0, 8, []⟩, ⟨.data, 0, 0, []⟩, ⟨.load, 0, 32, []⟩, ⟨.read, 0, 96, []⟩, ⟨.data, 0, 0, []⟩, ⟨.load, 0, 256, []⟩, ⟨.load, 0, 0, []⟩, ⟨.data, 0, 0, []⟩, ⟨.load, 0, 2048, []⟩, ⟨.read, 0, 7392, []⟩, ⟨.data, 0, 16382, []⟩, ⟨.write, 0, 32767, []⟩] := by kernel_rfl
theorem pl_87_24 (P : FuncId → Option (List AV → Option AV)) : (NC.withPrims P).plans 87 24 = [⟨.data, 0, 0, []⟩, ⟨.data, 0, 0, []⟩, ⟨.load, 0, 2, []⟩, ⟨.data, 0, 0, []⟩, ⟨.load, 0, 8, []⟩, ⟨.data, 0, 0, []⟩, ⟨.load, 0, 32, []⟩, ⟨.data, 0, 0, []⟩, ⟨.data, 0, 128, []⟩, ⟨.load, 0, 384, []⟩, ⟨.read, 0, 896, []⟩, ⟨.data, 0, 0, []⟩, ⟨.data, 0, 2048, []⟩, ⟨.load, 0, 6144, []⟩, ⟨.read, 0, 16256, []⟩, ⟨.data, 0, 32766, []⟩, ⟨.write, 0, 65535, []⟩] := by kernel_rfl
theorem pl_88_11 (P : FuncId → Option (List AV → Option AV)) : (NC.withPrims P).plans 88 11 = [⟨.data, 0, 0, []⟩, ⟨.data, 0, 1, []⟩, ⟨.data, 0, 3, []⟩, ⟨.data, 0, 7, []⟩, ⟨.data, 0, 15, []⟩, ⟨.data, 0, 31, []⟩, ⟨.data, 0, 63, []⟩, ⟨.read, 0, 127, []⟩, ⟨.data, 0, 127, []⟩, ⟨.data, 0, 511, []⟩, ⟨.data, 0, 1023, []⟩, ⟨.load, 0, 2047, []⟩, ⟨.load, 0, 127, []⟩, ⟨.data, 0, 8191, []⟩, ⟨.data, 0, 16383, []⟩] := by kernel_rfl
theorem pl_88_12 (P : FuncId → Option (List AV → Option AV)) : (NC.withPrims P).plans 88 12 = [⟨.data, 0, 0, []⟩, ⟨.load, 0, 0, []⟩, ⟨.writeAt, 0, 1, [1]⟩, ⟨.writeAt, 1, 7, []⟩, ⟨.writeAt, 2, 15, []⟩] := by kernel_rfl
theorem pl_88_16 (P : FuncId → Option (List AV → Option AV)) : (NC.withPrims P).plans 88 16 = [⟨.data, 0, 0, []⟩, ⟨.load, 0, 0, []⟩, ⟨.writeAt, 0, 1, [1]⟩, ⟨.writeAt, 1, 7, []⟩, ⟨.writeAt, 2, 15, []⟩] := by kernel_rfl
theorem pl_88_20 (P : FuncId → Option (List AV → Option AV)) : (NC.withPrims P).plans 88 20 = [⟨.data, 0, 0, []⟩, ⟨.load, 0, 0, []⟩, ⟨.data, 0, 0, []⟩, ⟨.writeAt, 0, 1, [1]⟩, ⟨.writeAt, 1, 11, []⟩, ⟨.writeAt, 2, 31, []⟩] := by kernel_rfl
theorem pl_89_10 (P : FuncId → Option (List AV → Option AV)) : (NC.withPrims P).plans 89 10 = [⟨.data, 0, 0, []⟩, ⟨.data, 0, 1, []⟩, ⟨.data, 0, 0, []⟩, ⟨.load, 0, 4, []⟩, ⟨.read, 0, 12, []⟩, ⟨.data, 0, 31, []⟩, ⟨.data, 0, 63, []⟩, ⟨.data, 0, 0, []⟩, ⟨.load, 0, 128, []⟩, ⟨.read, 0, 412, []⟩, ⟨.data, 0, 1023, []⟩, ⟨.data, 0, 2047, []⟩, ⟨.data, 0, 0, []⟩, ⟨.load, 0, 4096, []⟩, ⟨.read, 0, 13212, []⟩, ⟨.data, 0, 32767, []⟩, ⟨.data, 0, 65535, []⟩, ⟨.data, 0, 131071, []⟩] := by kernel_rfl
theorem pl_89_15 (P : FuncId → Option (List AV → Option AV)) : (NC.withPrims P).plans 89 15 = [⟨.data, 0, 0, []⟩, ⟨.data, 0, 1, []⟩, ⟨.data, 0, 0, []⟩, ⟨.load, 0, 4, []⟩, ⟨.data, 0, 15, []⟩, ⟨.data, 0, 31, []⟩, ⟨.data, 0, 0, []⟩, ⟨.load, 0, 64, []⟩, ⟨.data, 0, 255, []⟩, ⟨.data, 0, 511, []⟩, ⟨.data, 0, 0, []⟩, ⟨.load, 0, 1024, []⟩, ⟨.read, 0, 3072, []⟩, ⟨.data, 0, 8191, []⟩, ⟨.data, 0, 16383, []⟩, ⟨.data, 0, 0, []⟩, ⟨.load, 0, 32768, []⟩, ⟨.data, 0, 131071, []⟩, ⟨.data, 0, 262143, []⟩, ⟨.data, 0, 0, []⟩, ⟨.load, 0, 524288, []⟩, ⟨.read, 0, 1580032, []⟩, ⟨.data, 0, 4194303, []⟩, ⟨.data, 0, 8388607, []⟩, ⟨.data, 0, 16777215, []⟩] := by kernel_rfl
theorem pl_89_20 (P : FuncId → Option (List AV → Option AV)) : (NC.withPrims P).plans 89 20 = [⟨.data, 0, 0, []⟩, ⟨.data, 0, 1, []⟩, ⟨.data, 0, 0, []⟩, ⟨.load, 0, 4, []⟩, ⟨.data, 0, 15, []⟩, ⟨.data, 0, 31, []⟩, ⟨.data, 0, 0, []⟩, ⟨.load, 0, 64, []⟩, ⟨.data, 0, 255, []⟩, ⟨.data, 0, 511, []⟩, ⟨.data, 0, 0, []⟩, ⟨.load, 0, 1024, []⟩, ⟨.data, 0, 4095, []⟩, ⟨.data, 0, 8191, []⟩, ⟨.data, 0, 0, []⟩, ⟨.data, 0, 16384, []⟩, ⟨.load, 0, 49152, []⟩, ⟨.read, 0, 114688, []⟩, ⟨.data, 0, 262143, []⟩, ⟨.data, 0, 524287, []⟩, ⟨.data, 0, 0, []⟩, ⟨.data, 0, 1048576, []⟩, ⟨.load, 0, 3145728, []⟩, ⟨.read, 0, 7585792, []⟩, ⟨.data, 0, 16777215, []⟩, ⟨.data, 0, 33554431, []⟩, ⟨.data, 0, 67108863, []⟩] := by kernel_rfl
theorem pl_90_9 (P : FuncId → Option (List AV → Option AV)) : (NC.withPrims P).plans 90 9 = [⟨.load, 0, 0, []⟩, ⟨.data, 0, 0, []⟩, ⟨.data, 0, 0, []⟩, ⟨.data, 0, 6, []⟩, ⟨.load, 0, 14, []⟩, ⟨.read, 0, 30, []⟩, ⟨.read, 0, 63, []⟩, ⟨.data, 0, 127, []⟩, ⟨.data, 0, 255, []⟩, ⟨.data, 0, 255, []⟩, ⟨.data, 0, 255, []⟩, ⟨.fresh, 0, 0, []⟩, ⟨.writeAt, 1, 2559, []⟩, ⟨.data, 2, 7167, []⟩, ⟨.data, 2, 16383, []⟩] := by kernel_rfl
theorem pl_91_6 (P : FuncId → Option (List AV → Option AV)) : (NC.withPrims P).plans 91 6 = [⟨.data, 0, 0, []⟩, ⟨.load, 0, 1, []⟩, ⟨.data, 0, 0, []⟩, ⟨.data, 0, 7, []⟩, ⟨.data, 0, 15, []⟩, ⟨.load, 0, 31, []⟩, ⟨.data, 0, 0, []⟩, ⟨.load, 0, 64, []⟩, ⟨.data, 0, 0, []⟩, ⟨.data, 0, 448, []⟩, ⟨.data, 0, 960, []⟩, ⟨.load, 0, 1984, []⟩, ⟨.data, 0, 4095, []⟩, ⟨.data, 0, 8191, []⟩, ⟨.data, 0, 16383, []⟩, ⟨.load, 0, 32767, []⟩, ⟨.data, 0, 16383, []⟩, ⟨.data, 0, 131071, []⟩, ⟨.data, 0, 262143, []⟩, ⟨.load, 0, 524287, []⟩, ⟨.read, 0, 1048575, []⟩, ⟨.data, 0, 16383, []⟩, ⟨.load, 0, 2113535, []⟩, ⟨.data, 0, 16383, []⟩, ⟨.data, 0, 14696447, []⟩, ⟨.data, 0, 31473663, []⟩, ⟨.load, 0, 65028095, []⟩, ⟨.read, 0, 132136959, []⟩, ⟨.data, 0, 268435455, []⟩, ⟨.data, 0, 536870911, []⟩] := by kernel_rfl
theorem pl_91_11 (P : FuncId → Option (List AV → Option AV)) : (NC.withPrims P).plans 91 11 = [⟨.data, 0, 0, []⟩, ⟨.load, 0, 1, []⟩, ⟨.data, 0, 0, []⟩, ⟨.data, 0, 7, []⟩, ⟨.data, 0, 15, []⟩, ⟨.load, 0, 31, []⟩, ⟨.data, 0, 0, []⟩, ⟨.data, 0, 127, []⟩, ⟨.load, 0, 255, []⟩, ⟨.data, 0, 0, []⟩, ⟨.load, 0, 512, []⟩, ⟨.data, 0, 0, []⟩, ⟨.data, 0, 3584, []⟩, ⟨.data, 0, 7680, []⟩, ⟨.load, 0, 15872, []⟩, ⟨.data, 0, 0, []⟩, ⟨.data, 0, 65024, []⟩, ⟨.load, 0, 130560, []⟩, ⟨.data, 0, 262143, []⟩] := by kernel_rfl
theorem pl_91_16 (P : FuncId → Option (List AV → Option AV)) : (NC.withPrims P).plans 91 16 = [⟨.data, 0, 0, []⟩, ⟨.load, 0, 1, []⟩, ⟨.data, 0, 0, []⟩, ⟨.data, 0, 7, []⟩, ⟨.load, 0, 15, []⟩, ⟨.data, 0, 0, []⟩, ⟨.load, 0, 32, []⟩, ⟨.data, 0, 0, []⟩, ⟨.data, 0, 224, []⟩, ⟨.load, 0, 480, []⟩, ⟨.data, 0, 1023, []⟩] := by kernel_rfl
theorem pl_91_21 (P : FuncId → Option (List AV → Option AV)) : (NC.withPrims P).plans 91 21 = [⟨.data, 0, 0, []⟩, ⟨.load, 0, 1, []⟩, ⟨.data, 0, 0, []⟩, ⟨.data, 0, 7, []⟩, ⟨.load, 0, 15, []⟩, ⟨.data, 0, 0, []⟩, ⟨.load, 0, 32, []⟩, ⟨.data, 0, 0, []⟩, ⟨.data, 0, 224, []⟩, ⟨.load, 0, 480, []⟩, ⟨.data, 0, 1023, []⟩] := by kernel_rfl
theorem pl_100_2 (P : FuncId → Option (List AV → Option AV)) : (NC.withPrims P).plans 100 2 = [⟨.data, 0, 0, []⟩, ⟨.data, 0, 1, []⟩, ⟨.read, 0, 3, []⟩, ⟨.load, 0, 0, []⟩, ⟨.data, 0, 0, []⟩, ⟨.load, 0, 16, []⟩, ⟨.read, 0, 63, []⟩, ⟨.data, 0, 127, []⟩, ⟨.read, 0, 255, []⟩, ⟨.data, 0, 511, []⟩, ⟨.read, 0, 1023, []⟩, ⟨.data, 0, 2047, []⟩] := by kernel_rfl
theorem pl_101_8 (P : FuncId → Option (List AV → Option AV)) : (NC.withPrims P).plans 101 8 = [⟨.load, 0, 0, []⟩, ⟨.data, 0, 0, []⟩, ⟨.load, 0, 2, []⟩, ⟨.load, 0, 0, []⟩, ⟨.read, 0, 8, []⟩, ⟨.data, 0, 0, []⟩, ⟨.load, 0, 32, []⟩, ⟨.data, 0, 0, []⟩, ⟨.data, 0, 224, []⟩, ⟨.data, 0, 504, []⟩, ⟨.data, 0, 1022, []⟩, ⟨.data, 0, 1, []⟩, ⟨.writeAt, 0, 2073, [6, 2]⟩, ⟨.data, 1, 8191, []⟩, ⟨.writeAt, 1, 16383, []⟩] := by kernel_rfl
theorem pl_102_2 (P : FuncId → Option (List AV → Option AV)) : (NC.withPrims P).plans 102 2 = [⟨.data, 0, 0, []⟩, ⟨.data, 0, 1, []⟩, ⟨.read, 0, 3, []⟩, ⟨.data, 0, 0, []⟩, ⟨.load, 0, 8, []⟩, ⟨.data, 0, 24, []⟩, ⟨.data, 0, 63, []⟩, ⟨.data, 0, 127, []⟩, ⟨.load, 0, 255, []⟩, ⟨.data, 0, 127, []⟩, ⟨.load, 0, 639, []⟩, ⟨.read, 0, 1663, []⟩, ⟨.data, 0, 4095, []⟩, ⟨.data, 0, 8191, []⟩, ⟨.read, 0, 16383, []⟩, ⟨.data, 0, 32767, []⟩, ⟨.read, 0, 65535, []⟩, ⟨.data, 0, 131071, []⟩] := by kernel_rfl
theorem pl_103_2 (P : FuncId → Option (List AV → Option AV)) : (NC.withPrims P).plans 103 2 = [⟨.data, 0, 0, []⟩, ⟨.load, 0, 1, []⟩, ⟨.read, 0, 3, []⟩, ⟨.load, 0, 0, []⟩, ⟨.data, 0, 0, []⟩, ⟨.load, 0, 16, []⟩, ⟨.read, 0, 63, []⟩, ⟨.data, 0, 0, []⟩, ⟨.data, 0, 255, []⟩, ⟨.read, 0, 511, []⟩, ⟨.data, 0, 0, []⟩, ⟨.load, 0, 1024, []⟩, ⟨.read, 0, 3072, []⟩, ⟨.data, 0, 7168, []⟩, ⟨.read, 0, 16383, []⟩, ⟨.data, 0, 0, []⟩, ⟨.load, 0, 32768, []⟩, ⟨.read, 0, 98304, []⟩, ⟨.data, 0, 229376, []⟩, ⟨.read, 0, 524287, []⟩, ⟨.data, 0, 1048575, []⟩, ⟨.read, 0, 2097151, []⟩, ⟨.data, 0, 4194303, []⟩] := by kernel_rfl
theorem pl_104_8 (P : FuncId → Option (List AV → Option AV)) : (NC.withPrims P).plans 104 8 = [⟨.data, 0, 0, []⟩, ⟨.load, 0, 1, []⟩, ⟨.data, 0, 0, []⟩, ⟨.data, 0, 7, []⟩, ⟨.data, 0, 15, []⟩, ⟨.load, 0, 31, []⟩, ⟨.data, 0, 0, []⟩, ⟨.load, 0, 64, []⟩, ⟨.data, 0, 255, []⟩] := by kernel_rfl
theorem pl_104_10 (P : FuncId → Option (List AV → Option AV)) : (NC.withPrims P).plans 104 10 = [⟨.load, 0, 0, []⟩, ⟨.data, 0, 0, []⟩, ⟨.load, 0, 2, []⟩, ⟨.data, 0, 0, []⟩, ⟨.load, 0, 8, []⟩, ⟨.read, 0, 31, []⟩, ⟨.load, 0, 0, []⟩, ⟨.data, 0, 0, []⟩, ⟨.load, 0, 128, []⟩, ⟨.read, 0, 511, []⟩, ⟨.data, 0, 1023, []⟩, ⟨.read, 0, 2047, []⟩, ⟨.data, 0, 0, []⟩, ⟨.load, 0, 4096, []⟩, ⟨.data, 0, 0, []⟩, ⟨.load, 0, 16384, []⟩, ⟨.data, 0, 61440, []⟩, ⟨.read, 0, 131071, []⟩, ⟨.data, 0, 262143, []⟩, ⟨.read, 0, 524287, []⟩, ⟨.data, 0, 1048575, []⟩] := by kernel_rfl
theorem pl_105_8 (P : FuncId → Option (List AV → Option AV)) : (NC.withPrims P).plans 105 8 = [⟨.data, 0, 0, []⟩, ⟨.load, 0, 1, []⟩, ⟨.data, 0, 0, []⟩, ⟨.data, 0, 7, []⟩, ⟨.data, 0, 15, []⟩, ⟨.load, 0, 31, []⟩, ⟨.data, 0, 0, []⟩, ⟨.load, 0, 64, []⟩, ⟨.data, 0, 255, []⟩] := by kernel_rfl
theorem pl_105_10 (P : FuncId → Option (List AV → Option AV)) : (NC.withPrims P).plans 105 10 = [⟨.data, 0, 0, []⟩, ⟨.load, 0, 1, []⟩, ⟨.read, 0, 3, []⟩, ⟨.data, 0, 7, []⟩, ⟨.read, 0, 15, []⟩, ⟨.load, 0, 0, []⟩, ⟨.data, 0, 0, []⟩, ⟨.load, 0, 64, []⟩, ⟨.data, 0, 0, []⟩, ⟨.load, 0, 256, []⟩, ⟨.read, 0, 1023, []⟩, ⟨.data, 0, 2047, []⟩, ⟨.read, 0, 4095, []⟩, ⟨.data, 0, 8191, []⟩] := by kernel_rfl
theorem pl_110_8 (P : FuncId → Option (List AV → Option AV)) : (NC.withPrims P).plans 110 8 = [⟨.data, 0, 0, []⟩, ⟨.load, 0, 1, []⟩, ⟨.read, 0, 3, []⟩, ⟨.data, 0, 0, []⟩, ⟨.data, 0, 0, []⟩, ⟨.load, 0, 16, []⟩, ⟨.read, 0, 56, []⟩, ⟨.read, 0, 127, []⟩, ⟨.data, 0, 0, []⟩, ⟨.load, 0, 256, []⟩, ⟨.read, 0, 768, []⟩, ⟨.data, 0, 1792, []⟩, ⟨.read, 0, 4095, []⟩, ⟨.data, 0, 0, []⟩, ⟨.load, 0, 8192, []⟩, ⟨.read, 0, 24576, []⟩, ⟨.data, 0, 57344, []⟩, ⟨.read, 0, 131071, []⟩, ⟨.data, 0, 262143, []⟩, ⟨.read, 0, 524287, []⟩, ⟨.data, 0, 1048575, []⟩] := by kernel_rfl
theorem pl_112_9 (P : FuncId → Option (List AV → Option AV)) : (NC.withPrims P).plans 112 9 = [⟨.data, 0, 0, []⟩, ⟨.load, 0, 1, []⟩, ⟨.read, 0, 3, []⟩, ⟨.data, 0, 0, []⟩, ⟨.data, 0, 0, []⟩, ⟨.load, 0, 16, []⟩, ⟨.read, 0, 56, []⟩, ⟨.read, 0, 127, []⟩, ⟨.data, 0, 0, []⟩, ⟨.data, 0, 256, []⟩, ⟨.read, 0, 1023, []⟩, ⟨.load, 0, 0, []⟩, ⟨.data, 0, 0, []⟩, ⟨.load, 0, 4096, []⟩, ⟨.read, 0, 16383, []⟩, ⟨.data, 0, 32767, []⟩, ⟨.read, 0, 65535, []⟩, ⟨.data, 0, 0, []⟩, ⟨.data, 0, 131072, []⟩, ⟨.read, 0, 524287, []⟩, ⟨.data, 0, 0, []⟩, ⟨.load, 0, 1048576, []⟩, ⟨.data, 0, 0, []⟩, ⟨.load, 0, 4194304, []⟩, ⟨.data, 0, 15728640, []⟩, ⟨.read, 0, 33554431, []⟩, ⟨.data, 0, 67108863, []⟩, ⟨.read, 0, 134217727, []⟩, ⟨.data, 0, 268435455, []⟩] := by kernel_rfl
theorem pl_113_8 (P : FuncId → Option (List AV → Option AV)) : (NC.withPrims P).plans 113 8 = [⟨.data, 0, 0, []⟩, ⟨.load, 0, 1, []⟩, ⟨.read, 0, 3, []⟩, ⟨.data, 0, 0, []⟩, ⟨.data, 0, 0, []⟩, ⟨.load, 0, 16, []⟩, ⟨.read, 0, 56, []⟩, ⟨.read, 0, 127, []⟩, ⟨.data, 0, 0, []⟩, ⟨.load, 0, 256, []⟩, ⟨.read, 0, 1023, []⟩, ⟨.data, 0, 2047, []⟩, ⟨.read, 0, 4095, []⟩, ⟨.data, 0, 0, []⟩, ⟨.data, 0, 8192, []⟩, ⟨.read, 0, 32767, []⟩, ⟨.load, 0, 0, []⟩, ⟨.data, 0, 0, []⟩, ⟨.load, 0, 131072, []⟩, ⟨.read, 0, 524287, []⟩, ⟨.data, 0, 1048575, []⟩, ⟨.read, 0, 2097151, []⟩, ⟨.data, 0, 4194303, []⟩] := by kernel_rfl
theorem pl_123_1 (P : FuncId → Option (List AV → Option AV)) : (NC.withPrims P).plans 123 1 = [⟨.data, 0, 0, []⟩, ⟨.load, 0, 1, []⟩, ⟨.load, 0, 0, []⟩, ⟨.data, 0, 0, []⟩, ⟨.read, 0, 12, []⟩, ⟨.data, 0, 31, []⟩, ⟨.load, 0, 63, []⟩, ⟨.fresh, 0, 0, []⟩, ⟨.writeAt, 1, 255, []⟩] := by kernel_rfl
theorem pl_123_8 (P : FuncId → Option (List AV → Option AV)) : (NC.withPrims P).plans 123 8 = [⟨.load, 0, 0, []⟩, ⟨.data, 0, 0, []⟩, ⟨.load, 0, 2, []⟩, ⟨.data, 0, 0, []⟩, ⟨.data, 0, 14, []⟩, ⟨.load, 0, 30, []⟩, ⟨.data, 0, 0, []⟩, ⟨.read, 0, 127, []⟩, ⟨.data, 0, 255, []⟩] := by kernel_rfl
theorem pl_123_21 (P : FuncId → Option (List AV → Option AV)) : (NC.withPrims P).plans 123 21 = [⟨.data, 0, 0, []⟩, ⟨.data, 0, 0, []⟩, ⟨.data, 0, 3, []⟩, ⟨.load, 0, 7, []⟩, ⟨.data, 0, 0, []⟩, ⟨.data, 0, 0, []⟩, ⟨.data, 0, 0, []⟩, ⟨.data, 0, 96, []⟩, ⟨.load, 0, 224, []⟩, ⟨.data, 0, 496, []⟩, ⟨.read, 0, 1008, []⟩, ⟨.data, 0, 2047, []⟩, ⟨.data, 0, 4095, []⟩] := by kernel_rfl
theorem pl_124_4 (P : FuncId → Option (List AV → Option AV)) : (NC.withPrims P).plans 124 4 = [⟨.data, 0, 0, []⟩, ⟨.load, 0, 1, []⟩, ⟨.data, 0, 0, []⟩, ⟨.load, 0, 4, []⟩, ⟨.data, 0, 15, []⟩, ⟨.data, 0, 31, []⟩, ⟨.data, 0, 63, []⟩, ⟨.load, 0, 127, []⟩, ⟨.data, 0, 63, []⟩, ⟨.load, 0, 319, []⟩, ⟨.data, 0, 1023, []⟩, ⟨.data, 0, 2047, []⟩, ⟨.data, 0, 4095, []⟩, ⟨.data, 0, 8191, []⟩, ⟨.load, 0, 16383, []⟩, ⟨.load, 0, 8191, []⟩, ⟨.read, 0, 40959, []⟩, ⟨.data, 0, 131071, []⟩, ⟨.data, 0, 262143, []⟩] := by kernel_rfl
theorem pl_124_5 (P : FuncId → Option (List AV → Option AV)) : (NC.withPrims P).plans 124 5 = [⟨.data, 0, 0, []⟩, ⟨.load, 0, 1, []⟩, ⟨.load, 0, 0, []⟩, ⟨.data, 0, 0, []⟩, ⟨.load, 0, 8, []⟩, ⟨.read, 0, 28, []⟩, ⟨.data, 0, 63, []⟩, ⟨.writeAt, 0, 127, []⟩, ⟨.data, 1, 255, []⟩] := by kernel_rfl
theorem pl_126_4 (P : FuncId → Option (List AV → Option AV)) : (NC.withPrims P).plans 126 4 = [⟨.data, 0, 0, []⟩, ⟨.load, 0, 1, []⟩, ⟨.data, 0, 3, []⟩, ⟨.data, 0, 7, []⟩, ⟨.data, 0, 15, []⟩, ⟨.load, 0, 31, []⟩, ⟨.data, 0, 15, []⟩, ⟨.load, 0, 79, []⟩, ⟨.data, 0, 255, []⟩, ⟨.data, 0, 511, []⟩, ⟨.data, 0, 1023, []⟩, ⟨.data, 0, 2047, []⟩, ⟨.load, 0, 4095, []⟩, ⟨.data, 0, 2047, []⟩, ⟨.load, 0, 10239, []⟩, ⟨.data, 0, 2047, []⟩, ⟨.data, 0, 59391, []⟩, ⟨.load, 0, 124927, []⟩, ⟨.read, 0, 255999, []⟩, ⟨.data, 0, 524287, []⟩, ⟨.data, 0, 1048575, []⟩, ⟨.read, 0, 2097151, []⟩, ⟨.data, 0, 4194303, []⟩] := by kernel_rfl
theorem pl_127_1 (P : FuncId → Option (List AV → Option AV)) : (NC.withPrims P).plans 127 1 = [⟨.data, 0, 0, []⟩, ⟨.load, 0, 1, []⟩, ⟨.read, 0, 3, []⟩, ⟨.data, 0, 7, []⟩, ⟨.read, 0, 15, []⟩, ⟨.data, 0, 0, []⟩, ⟨.load, 0, 32, []⟩, ⟨.read, 0, 127, []⟩, ⟨.data, 0, 255, []⟩, ⟨.read, 0, 511, []⟩, ⟨.data, 0, 0, []⟩, ⟨.load, 0, 1024, []⟩, ⟨.read, 0, 4095, []⟩, ⟨.data, 0, 0, []⟩, ⟨.load, 0, 8192, []⟩, ⟨.read, 0, 32767, []⟩, ⟨.data, 0, 0, []⟩, ⟨.load, 0, 65536, []⟩, ⟨.read, 0, 262143, []⟩, ⟨.data, 0, 524287, []⟩, ⟨.read, 0, 1048575, []⟩, ⟨.data, 0, 2097151, []⟩] := by kernel_rfl
theorem pl_132_1 (P : FuncId → Option (List AV → Option AV)) : (NC.withPrims P).plans 132 1 = [⟨.load, 0, 0, []⟩, ⟨.data, 0, 0, []⟩, ⟨.load, 0, 2, []⟩, ⟨.data, 0, 0, []⟩, ⟨.load, 0, 8, []⟩, ⟨.load, 0, 0, []⟩, ⟨.read, 0, 32, []⟩, ⟨.data, 0, 120, []⟩, ⟨.read, 0, 255, []⟩, ⟨.load, 0, 0, []⟩, ⟨.data, 0, 0, []⟩, ⟨.load, 0, 1024, []⟩, ⟨.data, 0, 0, []⟩, ⟨.load, 0, 4096, []⟩, ⟨.data, 0, 0, []⟩, ⟨.load, 0, 16384, []⟩, ⟨.data, 0, 0, []⟩, ⟨.load, 0, 65536, []⟩, ⟨.data, 0, 245760, []⟩, ⟨.data, 0, 520192, []⟩, ⟨.read, 0, 1048575, []⟩, ⟨.data, 0, 2097151, []⟩, ⟨.read, 0, 4194303, []⟩, ⟨.data, 0, 8388607, []⟩] := by kernel_rfl
theorem pl_133_2 (P : FuncId → Option (List AV → Option AV)) : (NC.withPrims P).plans 133 2 = [⟨.data, 0, 0, []⟩, ⟨.data, 0, 1, []⟩, ⟨.read, 0, 3, []⟩, ⟨.load, 0, 0, []⟩, ⟨.load, 0, 0, []⟩, ⟨.read, 0, 31, []⟩, ⟨.data, 0, 63, []⟩, ⟨.read, 0, 127, []⟩, ⟨.data, 0, 255, []⟩] := by kernel_rfl
theorem pl_134_1 (P : FuncId → Option (List AV → Option AV)) : (NC.withPrims P).plans 134 1 = [⟨.data, 0, 0, []⟩, ⟨.data, 0, 0, []⟩, ⟨.load, 0, 2, []⟩, ⟨.data, 0, 7, []⟩, ⟨.load, 0, 0, []⟩, ⟨.read, 0, 16, []⟩, ⟨.data, 0, 63, []⟩, ⟨.data, 0, 127, []⟩] := by kernel_rfl
theorem pl_134_2 (P : FuncId → Option (List AV → Option AV)) : (NC.withPrims P).plans 134 2 = [⟨.data, 0, 0, []⟩, ⟨.data, 0, 0, []⟩, ⟨.data, 0, 2, []⟩, ⟨.data, 0, 6, []⟩, ⟨.data, 0, 14, []⟩, ⟨.data, 0, 14, []⟩, ⟨.load, 0, 46, []⟩, ⟨.data, 0, 126, []⟩, ⟨.data, 0, 254, []⟩, ⟨.data, 0, 15, []⟩, ⟨.data, 0, 1023, []⟩] := by kernel_rfl
theorem pl_135_10 (P : FuncId → Option (List AV → Option AV)) : (NC.withPrims P).plans 135 10 = [⟨.data, 0, 0, []⟩, ⟨.load, 0, 1, []⟩, ⟨.data, 0, 0, []⟩, ⟨.load, 0, 4, []⟩, ⟨.data, 0, 15, []⟩, ⟨.data, 0, 31, []⟩, ⟨.data, 0, 63, []⟩, ⟨.load, 0, 127, []⟩, ⟨.data, 0, 63, []⟩, ⟨.load, 0, 319, []⟩, ⟨.data, 0, 1023, []⟩, ⟨.data, 0, 2047, []⟩, ⟨.data, 0, 4095, []⟩, ⟨.data, 0, 8191, []⟩, ⟨.load, 0, 16383, []⟩, ⟨.load, 0, 8191, []⟩, ⟨.read, 0, 40959, []⟩, ⟨.data, 0, 131071, []⟩, ⟨.data, 0, 262143, []⟩] := by kernel_rfl
theorem pl_135_11 (P : FuncId → Option (List AV → Option AV)) : (NC.withPrims P).plans 135 11 = [⟨.load, 0, 0, []⟩, ⟨.data, 0, 0, []⟩, ⟨.load, 0, 2, []⟩, ⟨.read, 0, 7, []⟩, ⟨.load, 0, 0, []⟩, ⟨.load, 0, 0, []⟩, ⟨.read, 0, 47, []⟩, ⟨.data, 0, 111, []⟩, ⟨.read, 0, 255, []⟩, ⟨.data, 0, 511, []⟩, ⟨.data, 0, 1023, []⟩] := by kernel_rfl
theorem pl_137_1 (P : FuncId → Option (List AV → Option AV)) : (NC.withPrims P).plans 137 1 = [⟨.data, 0, 0, []⟩, ⟨.load, 0, 1, []⟩, ⟨.data, 0, 0, []⟩, ⟨.load, 0, 4, []⟩, ⟨.data, 0, 15, []⟩, ⟨.data, 0, 0, []⟩, ⟨.load, 0, 32, []⟩, ⟨.data, 0, 0, []⟩, ⟨.load, 0, 128, []⟩, ⟨.data, 0, 480, []⟩, ⟨.load, 0, 0, []⟩, ⟨.read, 0, 1024, []⟩, ⟨.data, 0, 4064, []⟩, ⟨.data, 0, 3103, []⟩, ⟨.data, 0, 16383, []⟩] := by kernel_rfl
theorem pl_139_7 (P : FuncId → Option (List AV → Option AV)) : (NC.withPrims P).plans 139 7 = [⟨.data, 0, 0, []⟩, ⟨.data, 0, 1, []⟩, ⟨.data, 0, 3, []⟩, ⟨.data, 0, 7, []⟩, ⟨.load, 0, 15, []⟩, ⟨.data, 0, 7, []⟩, ⟨.data, 0, 7, []⟩, ⟨.data, 0, 71, []⟩, ⟨.data, 0, 231, []⟩, ⟨.data, 0, 487, []⟩, ⟨.load, 0, 999, []⟩, ⟨.read, 0, 2047, []⟩, ⟨.data, 0, 4095, []⟩] := by kernel_rfl
theorem pl_142_19 (P : FuncId → Option (List AV → Option AV)) : (NC.withPrims P).plans 142 19 = [⟨.load, 0, 0, []⟩, ⟨.load, 0, 0, []⟩, ⟨.writeAt, 0, 1, [1]⟩, ⟨.data, 1, 7, []⟩] := by kernel_rfl
theorem pl_144_1 (P : FuncId → Option (List AV → Option AV)) : (NC.withPrims P).plans 144 1 = [⟨.load, 0, 0, []⟩, ⟨.data, 0, 0, []⟩, ⟨.load, 0, 2, []⟩, ⟨.data, 0, 0, []⟩, ⟨.load, 0, 8, []⟩, ⟨.data, 0, 30, []⟩, ⟨.read, 0, 63, []⟩, ⟨.load, 0, 0, []⟩, ⟨.data, 0, 0, []⟩, ⟨.load, 0, 256, []⟩, ⟨.data, 0, 0, []⟩, ⟨.load, 0, 1024, []⟩, ⟨.data, 0, 3840, []⟩, ⟨.read, 0, 8191, []⟩, ⟨.data, 0, 16383, []⟩, ⟨.read, 0, 32767, []⟩, ⟨.data, 0, 65535, []⟩] := by kernel_rfl
theorem pl_147_3 (P : FuncId → Option (List AV → Option AV)) : (NC.withPrims P).plans 147 3 = [⟨.data, 0, 0, []⟩, ⟨.data, 0, 0, []⟩, ⟨.data, 0, 0, []⟩, ⟨.writeAt, 0, 6, []⟩, ⟨.data, 0, 0, []⟩, ⟨.load, 0, 16, [3]⟩, ⟨.data, 0, 0, []⟩, ⟨.load, 0, 64, [3]⟩, ⟨.data, 0, 0, []⟩, ⟨.load, 0, 256, [3]⟩, ⟨.data, 0, 1008, []⟩, ⟨.data, 0, 2032, []⟩, ⟨.writeAt, 1, 4094, []⟩, ⟨.data, 2, 8190, []⟩, ⟨.writeAt, 2, 16383, []⟩, ⟨.data, 3, 32767, []⟩] := by kernel_rfl
theorem pl_147_7 (P : FuncId → Option (List AV → Option AV)) : (NC.withPrims P).plans 147 7 = [⟨.load, 0, 0, []⟩, ⟨.data, 0, 0, []⟩, ⟨.load, 0, 2, []⟩, ⟨.data, 0, 0, []⟩, ⟨.data, 0, 14, []⟩, ⟨.load, 0, 30, []⟩, ⟨.read, 0, 63, []⟩, ⟨.fresh, 0, 0, []⟩, ⟨.writeAt, 1, 255, []⟩] := by kernel_rfl
theorem pl_147_11 (P : FuncId → Option (List AV → Option AV)) : (NC.withPrims P).plans 147 11 = [⟨.data, 0, 0, []⟩, ⟨.data, 0, 0, []⟩, ⟨.data, 0, 3, []⟩, ⟨.load, 0, 7, []⟩, ⟨.data, 0, 15, []⟩, ⟨.data, 0, 31, []⟩, ⟨.data, 0, 63, []⟩, ⟨.data, 0, 127, []⟩, ⟨.load, 0, 255, []⟩, ⟨.data, 0, 31, []⟩, ⟨.load, 0, 543, []⟩, ⟨.data, 0, 2047, []⟩, ⟨.data, 0, 4095, []⟩] := by kernel_rfl
theorem pl_147_14 (P : FuncId → Option (List AV → Option AV)) : (NC.withPrims P).plans 147 14 = [⟨.data, 0, 0, []⟩, ⟨.data, 0, 0, []⟩, ⟨.writeAt, 0, 3, []⟩, ⟨.data, 0, 0, []⟩, ⟨.load, 0, 8, [2]⟩, ⟨.data, 0, 0, []⟩, ⟨.load, 0, 32, [2]⟩, ⟨.data, 0, 0, []⟩, ⟨.data, 0, 128, []⟩, ⟨.data, 0, 384, []⟩, ⟨.load, 0, 896, [2]⟩, ⟨.data, 0, 2040, []⟩, ⟨.data, 0, 4088, []⟩, ⟨.writeAt, 1, 8191, []⟩, ⟨.data, 2, 16383, []⟩] := by kernel_rfl
theorem pl_147_15 (P : FuncId → Option (List AV → Option AV)) : (NC.withPrims P).plans 147 15 = [⟨.data, 0, 0, []⟩, ⟨.load, 0, 0, []⟩, ⟨.data, 0, 0, []⟩, ⟨.data, 0, 0, []⟩, ⟨.data, 0, 8, []⟩, ⟨.data, 0, 24, []⟩, ⟨.load, 0, 56, []⟩, ⟨.load, 0, 0, []⟩, ⟨.data, 0, 0, []⟩, ⟨.read, 0, 510, []⟩, ⟨.writeAt, 0, 1023, []⟩, ⟨.data, 1, 2047, []⟩] := by kernel_rfl
theorem pl_148_8 (P : FuncId → Option (List AV → Option AV)) : (NC.withPrims P).plans 148 8 = [⟨.data, 0, 0, []⟩, ⟨.data, 0, 0, []⟩, ⟨.data, 0, 3, []⟩, ⟨.data, 0, 7, []⟩, ⟨.load, 0, 15, []⟩, ⟨.data, 0, 0, []⟩, ⟨.data, 0, 0, []⟩, ⟨.data, 0, 96, []⟩, ⟨.data, 0, 224, []⟩, ⟨.load, 0, 480, []⟩, ⟨.data, 0, 1023, []⟩] := by kernel_rfl
theorem pl_148_9 (P : FuncId → Option (List AV → Option AV)) : (NC.withPrims P).plans 148 9 = [⟨.load, 0, 0, []⟩, ⟨.data, 0, 0, []⟩, ⟨.data, 0, 0, []⟩, ⟨.data, 0, 6, []⟩, ⟨.data, 0, 14, []⟩, ⟨.load, 0, 30, []⟩, ⟨.read, 0, 63, []⟩, ⟨.load, 0, 0, []⟩, ⟨.data, 0, 0, []⟩, ⟨.data, 0, 0, []⟩, ⟨.data, 0, 768, []⟩, ⟨.data, 0, 1792, []⟩, ⟨.load, 0, 3840, []⟩, ⟨.read, 0, 8191, []⟩, ⟨.data, 0, 16383, []⟩, ⟨.data, 0, 32767, []⟩] := by kernel_rfl
theorem pl_148_10 (P : FuncId → Option (List AV → Option AV)) : (NC.withPrims P).plans 148 10 = [⟨.data, 0, 0, []⟩, ⟨.data, 0, 0, []⟩, ⟨.data, 0, 3, []⟩, ⟨.data, 0, 7, []⟩, ⟨.load, 0, 15, []⟩, ⟨.data, 0, 0, []⟩, ⟨.data, 0, 0, []⟩, ⟨.data, 0, 96, []⟩, ⟨.data, 0, 224, []⟩, ⟨.load, 0, 480, []⟩, ⟨.data, 0, 1023, []⟩] := by kernel_rfl
theorem pl_148_11 (P : FuncId → Option (List AV → Option AV)) : (NC.withPrims P).plans 148 11 = [⟨.data, 0, 0, []⟩, ⟨.data, 0, 0, []⟩, ⟨.data, 0, 3, []⟩, ⟨.data, 0, 7, []⟩, ⟨.load, 0, 15, []⟩, ⟨.data, 0, 0, []⟩, ⟨.data, 0, 0, []⟩, ⟨.data, 0, 96, []⟩, ⟨.data, 0, 224, []⟩, ⟨.load, 0, 480, []⟩, ⟨.data, 0, 1023, []⟩, ⟨.data, 0, 2047, []⟩] := by kernel_rfl
theorem pl_148_12 (P : FuncId → Option (List AV → Option AV)) : (NC.withPrims P).plans 148 12 = [⟨.data, 0, 0, []⟩, ⟨.data, 0, 0, []⟩, ⟨.data, 0, 3, []⟩, ⟨.data, 0, 7, []⟩, ⟨.load, 0, 15, []⟩, ⟨.data, 0, 0, []⟩, ⟨.data, 0, 0, []⟩, ⟨.data, 0, 96, []⟩, ⟨.data, 0, 224, []⟩, ⟨.load, 0, 480, []⟩, ⟨.data, 0, 1023, []⟩] := by kernel_rfl
theorem pl_148_13 (P : FuncId → Option (List AV → Option AV)) : (NC.withPrims P).plans 148 13 = [⟨.data, 0, 0, []⟩, ⟨.data, 0, 0, []⟩, ⟨.data, 0, 3, []⟩, ⟨.data, 0, 7, []⟩, ⟨.load, 0, 15, []⟩, ⟨.data, 0, 0, []⟩, ⟨.data, 0, 0, []⟩, ⟨.data, 0, 96, []⟩, ⟨.data, 0, 224, []⟩, ⟨.load, 0, 480, []⟩, ⟨.data, 0, 1023, []⟩, ⟨.data, 0, 2047, []⟩] := by kernel_rfl
theorem pl_149_4 (P : FuncId → Option (List AV → Option AV)) : (NC.withPrims P).plans 149 4 = [⟨.load, 0, 0, []⟩, ⟨.data, 0, 0, []⟩, ⟨.load, 0, 2, []⟩, ⟨.data, 0, 0, []⟩, ⟨.data, 0, 14, []⟩, ⟨.load, 0, 30, []⟩, ⟨.read, 0, 63, []⟩, ⟨.fresh, 0, 0, []⟩, ⟨.writeAt, 1, 255, []⟩] := by kernel_rfl
theorem pl_157_6 (P : FuncId → Option (List AV → Option AV)) : (NC.withPrims P).plans 157 6 = [⟨.data, 0, 0, []⟩, ⟨.data, 0, 0, []⟩, ⟨.data, 0, 3, []⟩, ⟨.load, 0, 7, []⟩, ⟨.data, 0, 0, []⟩, ⟨.data, 0, 0, []⟩, ⟨.data, 0, 48, []⟩, ⟨.load, 0, 112, []⟩, ⟨.data, 0, 255, []⟩] := by kernel_rfl
theorem pl_173_5 (P : FuncId → Option (List AV → Option AV)) : (NC.withPrims P).plans 173 5 = [⟨.data, 0, 0, []⟩, ⟨.load, 0, 1, []⟩, ⟨.data, 0, 0, []⟩, ⟨.data, 0, 4, []⟩, ⟨.load, 0, 12, []⟩, ⟨.data, 0, 28, []⟩, ⟨.data, 0, 60, []⟩, ⟨.writeAt, 0, 127, []⟩, ⟨.data, 1, 255, []⟩, ⟨.writeAt, 1, 511, []⟩] := by kernel_rfl
theorem pl_173_11 (P : FuncId → Option (List AV → Option AV)) : (NC.withPrims P).plans 173 11 = [⟨.data, 0, 0, []⟩, ⟨.load, 0, 1, []⟩, ⟨.data, 0, 0, []⟩, ⟨.data, 0, 0, []⟩, ⟨.load, 0, 8, []⟩, ⟨.data, 0, 0, []⟩, ⟨.data, 0, 56, []⟩, ⟨.data, 0, 120, []⟩, ⟨.load, 0, 248, []⟩, ⟨.data, 0, 0, []⟩, ⟨.data, 0, 0, []⟩, ⟨.data, 0, 0, []⟩, ⟨.data, 0, 2048, []⟩, ⟨.load, 0, 6144, []⟩, ⟨.data, 0, 14336, []⟩, ⟨.data, 0, 32256, []⟩, ⟨.data, 0, 65024, []⟩, ⟨.writeAt, 0, 131064, [1]⟩, ⟨.data, 1, 262143, []⟩, ⟨.data, 1, 524287, []⟩, ⟨.writeAt, 1, 1048575, []⟩] := by kernel_rfl
theorem pl_173_12 (P : FuncId → Option (List AV → Option AV)) : (NC.withPrims P).plans 173 12 = [⟨.load, 0, 0, []⟩, ⟨.data, 0, 0, []⟩, ⟨.data, 0, 2, []⟩, ⟨.data, 0, 6, []⟩, ⟨.data, 0, 14, []⟩, ⟨.data, 0, 30, []⟩, ⟨.data, 0, 62, []⟩, ⟨.data, 0, 126, []⟩, ⟨.load, 0, 254, []⟩, ⟨.data, 0, 510, []⟩, ⟨.data, 0, 1022, []⟩, ⟨.data, 0, 2046, []⟩, ⟨.data, 0, 4094, []⟩, ⟨.load, 0, 8190, []⟩, ⟨.data, 0, 16382, []⟩, ⟨.data, 0, 32766, []⟩, ⟨.data, 0, 65534, []⟩, ⟨.writeAt, 0, 2047, [13]⟩, ⟨.data, 1, 133119, []⟩, ⟨.data, 1, 524287, []⟩] := by kernel_rfl
theorem pl_173_15 (P : FuncId → Option (List AV → Option AV)) : (NC.withPrims P).plans 173 15 = [⟨.data, 0, 0, []⟩, ⟨.load, 0, 1, []⟩, ⟨.data, 0, 0, []⟩, ⟨.data, 0, 4, []⟩, ⟨.load, 0, 12, []⟩, ⟨.data, 0, 0, []⟩, ⟨.data, 0, 32, []⟩, ⟨.load, 0, 96, []⟩, ⟨.data, 0, 0, []⟩, ⟨.data, 0, 0, []⟩, ⟨.data, 0, 512, []⟩, ⟨.load, 0, 1536, []⟩, ⟨.data, 0, 0, []⟩, ⟨.data, 0, 4096, []⟩, ⟨.load, 0, 12288, []⟩, ⟨.data, 0, 28672, []⟩, ⟨.data, 0, 65532, []⟩, ⟨.data, 0, 131068, []⟩, ⟨.writeAt, 0, 262143, []⟩, ⟨.data, 1, 524287, []⟩, ⟨.writeAt, 1, 1048575, []⟩] := by kernel_rfl
theorem pl_173_16 (P : FuncId → Option (List AV → Option AV)) : (NC.withPrims P).plans 173 16 = [⟨.load, 0, 0, []⟩, ⟨.data, 0, 0, []⟩, ⟨.data, 0, 2, []⟩, ⟨.data, 0, 6, []⟩, ⟨.data, 0, 14, []⟩, ⟨.load, 0, 30, []⟩, ⟨.data, 0, 62, []⟩, ⟨.data, 0, 126, []⟩, ⟨.data, 0, 254, []⟩, ⟨.data, 0, 510, []⟩, ⟨.load, 0, 1022, []⟩, ⟨.data, 0, 2046, []⟩, ⟨.data, 0, 4094, []⟩, ⟨.data, 0, 8190, []⟩, ⟨.writeAt, 0, 255, [10]⟩, ⟨.data, 1, 16639, []⟩, ⟨.data, 1, 65535, []⟩] := by kernel_rfl
theorem pl_173_20 (P : FuncId → Option (List AV → Option AV)) : (NC.withPrims P).plans 173 20 = [⟨.data, 0, 0, []⟩, ⟨.load, 0, 1, []⟩, ⟨.data, 0, 0, []⟩, ⟨.data, 0, 4, []⟩, ⟨.load, 0, 12, []⟩, ⟨.data, 0, 0, []⟩, ⟨.data, 0, 32, []⟩, ⟨.load, 0, 96, []⟩, ⟨.data, 0, 0, []⟩, ⟨.data, 0, 256, []⟩, ⟨.load, 0, 768, []⟩, ⟨.data, 0, 0, []⟩, ⟨.data, 0, 0, []⟩, ⟨.data, 0, 6144, []⟩, ⟨.data, 0, 16380, []⟩, ⟨.data, 0, 32764, []⟩, ⟨.writeAt, 0, 65535, []⟩, ⟨.data, 1, 131071, []⟩, ⟨.writeAt, 1, 262143, []⟩] := by kernel_rfl
theorem pl_179_1 (P : FuncId → Option (List AV → Option AV)) : (NC.withPrims P).plans 179 1 = [⟨.data, 0, 0, []⟩, ⟨.load, 0, 1, []⟩, ⟨.read, 0, 3, []⟩, ⟨.data, 0, 0, []⟩, ⟨.load, 0, 8, []⟩, ⟨.read, 0, 31, []⟩, ⟨.data, 0, 63, []⟩, ⟨.read, 0, 127, []⟩, ⟨.data, 0, 255, []⟩] := by kernel_rfl
theorem pl_180_1 (P : FuncId → Option (List AV → Option AV)) : (NC.withPrims P).plans 180 1 = [⟨.data, 0, 0, []⟩, ⟨.load, 0, 1, []⟩, ⟨.read, 0, 3, []⟩, ⟨.data, 0, 0, []⟩, ⟨.load, 0, 8, []⟩, ⟨.read, 0, 31, []⟩, ⟨.load, 0, 0, []⟩, ⟨.read, 0, 127, []⟩, ⟨.data, 0, 255, []⟩, ⟨.data, 0, 511, []⟩, ⟨.load, 0, 1023, []⟩, ⟨.read, 0, 2047, []⟩, ⟨.data, 0, 4095, []⟩, ⟨.data, 0, 8191, []⟩, ⟨.read, 0, 16383, []⟩, ⟨.data, 0, 32767, []⟩, ⟨.read, 0, 65535, []⟩, ⟨.data, 0, 131071, []⟩] := by kernel_rfl
theorem pl_183_1 (P : FuncId → Option (List AV → Option AV)) : (NC.withPrims P).plans 183 1 = [⟨.data, 0, 0, []⟩, ⟨.load, 0, 1, []⟩, ⟨.data, 0, 0, []⟩, ⟨.load, 0, 4, []⟩, ⟨.data, 0, 15, []⟩, ⟨.data, 0, 31, []⟩, ⟨.load, 0, 63, []⟩, ⟨.data, 0, 63, []⟩, ⟨.load, 0, 191, []⟩, ⟨.read, 0, 511, []⟩, ⟨.data, 0, 1023, []⟩, ⟨.data, 0, 2047, []⟩, ⟨.data, 0, 4095, []⟩, ⟨.data, 0, 8191, []⟩, ⟨.load, 0, 16383, []⟩, ⟨.load, 0, 8191, []⟩, ⟨.read, 0, 40959, []⟩, ⟨.data, 0, 131071, []⟩, ⟨.data, 0, 262143, []⟩, ⟨.read, 0, 524287, []⟩, ⟨.data, 0, 1048575, []⟩] := by kernel_rfl
theorem pl_186_17 (P : FuncId → Option (List AV → Option AV)) : (NC.withPrims P).plans 186 17 = [⟨.data, 0, 0, []⟩, ⟨.data, 0, 1, []⟩, ⟨.data, 0, 3, []⟩, ⟨.data, 0, 7, []⟩, ⟨.data, 0, 7, []⟩, ⟨.data, 0, 7, []⟩, ⟨.data, 0, 39, []⟩, ⟨.data, 0, 119, []⟩, ⟨.load, 0, 247, []⟩, ⟨.data, 0, 7, []⟩, ⟨.data, 0, 7, []⟩, ⟨.data, 0, 1543, []⟩, ⟨.load, 0, 3591, []⟩, ⟨.write, 0, 8191, []⟩, ⟨.data, 1, 16383, []⟩, ⟨.data, 1, 32767, []⟩, ⟨.data, 1, 65535, []⟩] := by kernel_rfl
theorem pl_197_1 (P : FuncId → Option (List AV → Option AV)) : (NC.withPrims P).plans 197 1 = [⟨.data, 0, 0, []⟩, ⟨.load, 0, 1, []⟩, ⟨.data, 0, 0, []⟩, ⟨.load, 0, 4, []⟩, ⟨.read, 0, 15, []⟩, ⟨.data, 0, 0, []⟩, ⟨.load, 0, 32, []⟩, ⟨.data, 0, 0, []⟩, ⟨.load, 0, 128, []⟩, ⟨.read, 0, 511, []⟩, ⟨.data, 0, 1023, []⟩, ⟨.read, 0, 2047, []⟩, ⟨.data, 0, 4095, []⟩] := by kernel_rfl
theorem pl_198_3 (P : FuncId → Option (List AV → Option AV)) : (NC.withPrims P).plans 198 3 = [⟨.load, 0, 0, []⟩, ⟨.data, 0, 0, []⟩, ⟨.read, 0, 3, []⟩, ⟨.load, 0, 0, []⟩, ⟨.data, 0, 0, []⟩, ⟨.data, 0, 0, []⟩, ⟨.data, 0, 48, []⟩, ⟨.data, 0, 112, []⟩, ⟨.read, 0, 255, []⟩, ⟨.data, 0, 511, []⟩, ⟨.data, 0, 1023, []⟩, ⟨.writeAt, 0, 2047, []⟩] := by kernel_rfl
theorem pl_203_1 (P : FuncId → Option (List AV → Option AV)) : (NC.withPrims P).plans 203 1 = [⟨.data, 0, 0, []⟩, ⟨.load, 0, 1, []⟩, ⟨.data, 0, 0, []⟩, ⟨.load, 0, 4, []⟩, ⟨.read, 0, 15, []⟩, ⟨.data, 0, 0, []⟩, ⟨.load, 0, 32, []⟩, ⟨.read, 0, 96, []⟩, ⟨.data, 0, 0, []⟩, ⟨.load, 0, 256, []⟩, ⟨.read, 0, 768, []⟩, ⟨.read, 0, 2047, []⟩, ⟨.data, 0, 0, []⟩, ⟨.load, 0, 4096, []⟩, ⟨.data, 0, 0, []⟩, ⟨.load, 0, 16384, []⟩, ⟨.data, 0, 0, []⟩, ⟨.read, 0, 131071, []⟩, ⟨.data, 0, 262143, []⟩, ⟨.read, 0, 524287, []⟩, ⟨.data, 0, 1048575, []⟩] := by kernel_rfl
theorem pl_204_1 (P : FuncId → Option (List AV → Option AV)) : (NC.withPrims P).plans 204 1 = [⟨.data, 0, 0, []⟩, ⟨.load, 0, 1, []⟩, ⟨.fresh, 0, 3, []⟩, ⟨.load, 0, 0, []⟩, ⟨.data, 0, 8, []⟩, ⟨.writeAt, 1, 31, []⟩, ⟨.data, 0, 0, []⟩, ⟨.load, 0, 64, [5]⟩, ⟨.load, 0, 0, [5]⟩, ⟨.read, 2, 319, []⟩, ⟨.data, 2, 1023, []⟩, ⟨.data, 2, 2047, []⟩, ⟨.writeAt, 2, 4095, []⟩] := by kernel_rfl
theorem pl_207_3 (P : FuncId → Option (List AV → Option AV)) : (NC.withPrims P).plans 207 3 = [⟨.data, 0, 0, []⟩, ⟨.load, 0, 1, []⟩, ⟨.load, 0, 0, []⟩, ⟨.data, 0, 0, []⟩, ⟨.load, 0, 8, []⟩, ⟨.read, 0, 28, []⟩, ⟨.data, 0, 63, []⟩, ⟨.load, 0, 127, []⟩, ⟨.read, 0, 255, []⟩, ⟨.data, 0, 511, []⟩, ⟨.data, 0, 1023, []⟩] := by kernel_rfl
theorem pl_212_4 (P : FuncId → Option (List AV → Option AV)) : (NC.withPrims P).plans 212 4 = [⟨.load, 0, 0, []⟩, ⟨.data, 0, 0, []⟩, ⟨.data, 0, 2, []⟩, ⟨.data, 0, 7, []⟩, ⟨.load, 0, 0, []⟩, ⟨.data, 0, 0, []⟩, ⟨.data, 0, 32, []⟩, ⟨.data, 0, 112, []⟩, ⟨.data, 0, 15, []⟩, ⟨.writeAt, 0, 511, []⟩] := by kernel_rfl
theorem pl_217_6 (P : FuncId → Option (List AV → Option AV)) : (NC.withPrims P).plans 217 6 = [⟨.data, 0, 0, []⟩, ⟨.data, 0, 1, []⟩, ⟨.data, 0, 3, []⟩, ⟨.load, 0, 7, []⟩, ⟨.data, 0, 0, []⟩, ⟨.data, 0, 16, []⟩, ⟨.data, 0, 48, []⟩, ⟨.load, 0, 112, []⟩, ⟨.read, 0, 240, []⟩, ⟨.data, 0, 496, []⟩, ⟨.data, 0, 1023, []⟩, ⟨.data, 0, 2047, []⟩] := by kernel_rfl
theorem pl_217_7 (P : FuncId → Option (List AV → Option AV)) : (NC.withPrims P).plans 217 7 = [⟨.data, 0, 0, []⟩, ⟨.data, 0, 0, []⟩, ⟨.data, 0, 2, []⟩, ⟨.data, 0, 6, []⟩, ⟨.load, 0, 14, []⟩, ⟨.load, 0, 0, []⟩, ⟨.data, 0, 32, []⟩, ⟨.writeAt, 0, 126, []⟩, ⟨.data, 1, 255, []⟩, ⟨.data, 1, 511, []⟩, ⟨.writeAt, 1, 1023, []⟩] := by kernel_rfl
theorem pl_220_5 (P : FuncId → Option (List AV → Option AV)) : (NC.withPrims P).plans 220 5 = [⟨.data, 0, 0, []⟩, ⟨.data, 0, 0, []⟩, ⟨.data, 0, 2, []⟩, ⟨.data, 0, 6, []⟩, ⟨.load, 0, 14, []⟩, ⟨.load, 0, 0, []⟩, ⟨.data, 0, 32, []⟩, ⟨.writeAt, 0, 126, []⟩, ⟨.data, 1, 255, []⟩, ⟨.data, 1, 511, []⟩, ⟨.writeAt, 1, 1023, []⟩] := by kernel_rfl
theorem pl_221_5 (P : FuncId → Option (List AV → Option AV)) : (NC.withPrims P).plans 221 5 = [⟨.data, 0, 0, []⟩, ⟨.data, 0, 0, []⟩, ⟨.data, 0, 2, []⟩, ⟨.data, 0, 6, []⟩, ⟨.load, 0, 14, []⟩, ⟨.load, 0, 0, []⟩, ⟨.data, 0, 32, []⟩, ⟨.writeAt, 0, 126, []⟩, ⟨.data, 1, 255, []⟩, ⟨.data, 1, 511, []⟩, ⟨.writeAt, 1, 1023, []⟩] := by kernel_rfl
theorem pl_222_5 (P : FuncId → Option (List AV → Option AV)) : (NC.withPrims P).plans 222 5 = [⟨.data, 0, 0, []⟩, ⟨.load, 0, 1, []⟩, ⟨.data, 0, 0, []⟩, ⟨.load, 0, 4, []⟩, ⟨.data, 0, 0, []⟩, ⟨.data, 0, 28, []⟩, ⟨.data, 0, 60, []⟩, ⟨.load, 0, 124, []⟩, ⟨.data, 0, 0, []⟩, ⟨.data, 0, 0, []⟩, ⟨.load, 0, 512, []⟩, ⟨.data, 0, 0, []⟩, ⟨.data, 0, 3584, []⟩, ⟨.data, 0, 7680, []⟩, ⟨.load, 0, 15872, []⟩, ⟨.writeAt, 0, 32512, [7, 3, 1]⟩, ⟨.data, 1, 65532, []⟩, ⟨.data, 1, 131068, []⟩, ⟨.writeAt, 1, 262143, []⟩, ⟨.data, 2, 524287, []⟩, ⟨.writeAt, 2, 1048575, []⟩] := by kernel_rfl
theorem pl_226_1 (P : FuncId → Option (List AV → Option AV)) : (NC.withPrims P).plans 226 1 = [⟨.data, 0, 0, []⟩, ⟨.load, 0, 1, []⟩, ⟨.load, 0, 0, []⟩, ⟨.read, 0, 4, []⟩, ⟨.data, 0, 0, []⟩, ⟨.load, 0, 16, []⟩, ⟨.data, 0, 48, []⟩, ⟨.data, 0, 124, []⟩, ⟨.data, 0, 255, []⟩, ⟨.data, 0, 511, []⟩] := by kernel_rfl
theorem pl_230_4 (P : FuncId → Option (List AV → Option AV)) : (NC.withPrims P).plans 230 4 = [⟨.data, 0, 0, []⟩, ⟨.data, 0, 0, []⟩, ⟨.data, 0, 3, []⟩, ⟨.data, 0, 7, []⟩, ⟨.data, 0, 15, []⟩, ⟨.data, 0, 15, []⟩, ⟨.data, 0, 15, []⟩, ⟨.data, 0, 111, []⟩, ⟨.load, 0, 239, []⟩, ⟨.data, 0, 15, []⟩, ⟨.data, 0, 15, []⟩, ⟨.data, 0, 1039, []⟩, ⟨.data, 0, 3599, []⟩, ⟨.load, 0, 7695, []⟩, ⟨.write, 0, 16383, []⟩, ⟨.data, 1, 32767, []⟩, ⟨.data, 1, 65535, []⟩] := by kernel_rfl
theorem pl_230_6 (P : FuncId → Option (List AV → Option AV)) : (NC.withPrims P).plans 230 6 = [⟨.data, 0, 0, []⟩, ⟨.data, 0, 0, []⟩, ⟨.data, 0, 0, []⟩, ⟨.data, 0, 0, []⟩, ⟨.data, 0, 8, []⟩, ⟨.data, 0, 0, []⟩, ⟨.data, 0, 0, []⟩, ⟨.data, 0, 64, []⟩, ⟨.data, 0, 224, []⟩, ⟨.load, 0, 480, []⟩, ⟨.data, 0, 0, []⟩, ⟨.data, 0, 0, []⟩, ⟨.data, 0, 3072, []⟩, ⟨.load, 0, 7168, []⟩, ⟨.data, 0, 16355, []⟩, ⟨.writeAt, 0, 32739, []⟩, ⟨.data, 1, 65535, []⟩, ⟨.writeAt, 1, 131071, []⟩] := by kernel_rfl

end Go.Sim

/-
Ranges over functions.
-/
namespace Go.Sim
open Go

variable {C : Cfg} {lo : Nat} {fid : FuncId} {rnd : Bool}

theorem op_callY {rec : Rec} {T : TT AV} {H : Heap} {K : AV → Heap → Prop} {d : Option Tmp} {t : TypeId} {p : String} {af : Array Edge} {gd : Option (Nat × Bool)} (x : Operand) (xs : Array Operand) (ts : Array TypeId) {l : Nat} (h : evalO C T x = some (.yld l)) :
    VO (aop C rec fid lo ⟨d, .call ⟨.value x, xs, ts⟩, t, p, af, gd⟩ T H) K = AO (evalOs C T xs.toList) fun ys => AO (rec (.yield lo l (ys.map AV.strip) H)) fun o => K o.val o.s.H := by
  simp only [aop, acall]
  cases evalOs C T xs.toList with
  | none => rfl
  | some ys =>
    simp only [h, AO_some]
    cases rec (.yield lo l (ys.map AV.strip) H) <;> rfl

theorem evalO_nilf (T : TT AV) : evalO C T (.const .nilFunc) = some .nilf := rfl
theorem shutMarks_cons (d : Nat) (r : List Nat) (H : Heap) : shutMarks (d :: r) H = match H.get d with
    | .defr => shutMarks r (H.set d .dead)
    | _ => none := rfl
theorem ofVal_v (v : AV) (H : Heap) : (Out.ofVal v H).val = v := rfl
theorem ofVal_H (v : AV) (H : Heap) : (Out.ofVal v H).s.H = H := rfl
/-- append. -/
def appO (C : Cfg) (fid : FuncId) (lo : Nat) (H : Heap) (ts tx : TypeId) (s x : AV) : Option (AV × Heap) :=
  match elemOf C.P ts, C.P.underlying tx with
  | some e, some dx => if isIntT dx then none else
    match szOf C.P e, bytesOf C.P e, zeroOf C.P e with
    | some sz, some bytes, some z => if z.cells.length = sz && decide (bytes ≤ 4096) then
        match rowsIn H sz x with
        | some rx => if C.refApp fid ts then appR lo H sz e s rx else appP lo H sz e s rx
        | none => none
      else none
    | _, _, _ => none
  | _, _ => none

theorem op_append {rec : Rec} {T : TT AV} {H : Heap} {K : AV → Heap → Prop} {d : Option Tmp} {t : TypeId} {p : String} {af : Array Edge} {gd : Option (Nat × Bool)} (a b : Operand) (ts tx : TypeId) :
    VO (aop C rec fid lo ⟨d, .call ⟨.builtin .append, #[a, b], #[ts, tx]⟩, t, p, af, gd⟩ T H) K = AO (evalO C T a) fun s => AO (evalO C T b) fun x => VO (appO C fid lo H ts tx s x) K := by
  simp only [aop, acall, evalOs]
  cases evalO C T a with
  | none => rfl
  | some s => cases evalO C T b with
    | none => rfl
    | some x => rfl

theorem isIntT_slice (e : TypeId) : isIntT (.slice e) = false := rfl

/-- The first element of a slice that is nil yet. -/
theorem app_first {lo : Nat} {H : Heap} {sz : Nat} {e : TypeId} {rx : List (List AV)} (h0 : rx ≠ []) (h1 : rx.length ≤ maxRows) (h2 : rx.all pureRow = true) (h3 : 0 < sz) :
    appP lo H sz e (.ps .nil []) rx = some (.ps (.tok H.n) (rx.map (List.map AV.strip0)), H.push (.row [] sz e)) := by
  cases rx with
  | nil => exact absurd rfl h0
  | cons a r =>
    unfold appP
    simp only [List.length_nil, Nat.zero_add, h1, h2, h3, decide_true, Bool.true_and, Bool.and_true, List.all_nil, if_true, List.nil_append]

/-- A further one. -/
theorem app_next {lo : Nat} {H : Heap} {sz k : Nat} {e : TypeId} {rows rx : List (List AV)} (h0 : rx ≠ []) (h1 : rows.length + rx.length ≤ maxRows) (h2 : rx.all pureRow = true) (h3 : 0 < sz) (h4 : rows.all (fun r => r.length = sz) = true) (h5 : H.get k = .row [] sz e) (h6 : lo ≤ k) (h7 : rows ≠ []) :
    appP lo H sz e (.ps (.tok k) rows) rx = some (.ps (.tok H.n) (rows ++ rx.map (List.map AV.strip0)), (H.set k .dead).push (.row [] sz e)) := by
  cases rx with
  | nil => exact absurd rfl h0
  | cons a r =>
    have h8 : rows.isEmpty = false := by cases rows with
      | nil => exact absurd rfl h7
      | cons _ _ => rfl
    unfold appP
    simp only [h1, h2, h3, h4, h5, h6, h8, decide_true, Bool.true_and, Bool.and_true, if_true, Bool.not_false]

/-! ### What is touched -/

def accP (w : Bool) (v : Option AV) : Option Acc := match v with
  | some (.ptr id _) => some (if w then .wr id else .rd id)
  | _ => none
theorem accP_rd (id off : Nat) : accP false (some (.ptr id off)) = some (.rd id) := rfl
theorem accP_wr (id off : Nat) : accP true (some (.ptr id off)) = some (.wr id) := rfl
theorem accP_pptr (w : Bool) (cs : List AV) : accP w (some (.pptr cs)) = none := rfl
theorem acc_load (T : TT AV) (n : Nat) (d : Option Tmp) (t' : TypeId) (a : Operand) (t : TypeId) (p : String) (af : Array Edge) (gd : Option (Nat × Bool)) : accOf C T n .load ⟨d, .load t' a, t, p, af, gd⟩ = accP false (evalO C T a) := by
  unfold accOf accP
  simp only []
  cases evalO C T a with
  | none => rfl
  | some v => cases v <;> rfl
theorem acc_read (T : TT AV) (n : Nat) (o : Oper) : accOf C T n .read o = some (.all n) := rfl
theorem acc_store (T : TT AV) (n : Nat) (d : Option Tmp) (t' : TypeId) (a x : Operand) (t : TypeId) (p : String) (af : Array Edge) (gd : Option (Nat × Bool)) : accOf C T n .writeAt ⟨d, .store t' a x, t, p, af, gd⟩ = accP true (evalO C T a) := by
  unfold accOf accP
  simp only []
  cases evalO C T a with
  | none => rfl
  | some v => cases v <;> rfl
theorem acc_fresh (T : TT AV) (n : Nat) (o : Oper) : accOf C T n .fresh o = none := by
  unfold accOf
  cases o.op <;> rfl
theorem record_some (i : Nat) (a : Acc) (rd : List (Nat × Acc)) : record i (some a) rd = (i, a) :: rd := rfl
theorem record_none (i : Nat) (rd : List (Nat × Acc)) : record i none rd = rd := rfl
theorem clashes_none (conf : List Nat) (rd : List (Nat × Acc)) : clashes none conf rd = false := rfl
theorem clashes_some (a : Acc) (c : Nat) (cs : List Nat) (rd : List (Nat × Acc)) : clashes (some a) (c :: cs) rd = rd.any fun p => (c :: cs).contains p.1 && !a.apart p.2 := rfl
theorem apart_rw (i j : Nat) : Acc.apart (.rd i) (.wr j) = !decide (i = j) := by
  show (i != j) = _
  by_cases h : i = j <;> simp [h]
theorem apart_wr (i j : Nat) : Acc.apart (.wr j) (.rd i) = !decide (i = j) := by
  show (i != j) = _
  by_cases h : i = j <;> simp [h]
theorem apart_aw (i j : Nat) : Acc.apart (.all i) (.wr j) = decide (i ≤ j) := rfl
theorem apart_wa (i j : Nat) : Acc.apart (.wr j) (.all i) = decide (i ≤ j) := rfl

theorem AO_iff {α : Type} {x : Option α} {K : α → Prop} : AO x K ↔ ∃ v, x = some v ∧ K v := by
  cases x with
  | none => simp [AO]
  | some v => simp [AO]

/-- A round of a range over a function. -/
theorem R_yield {l : Nat} {args : List AV} {H : Heap} {r0 : ALoop} (hl : H.get l = .loop r0) (hs : r0.state = .ready) (hp : r0.params.length = args.length) (hlo : lo ≤ l) {Y : Bool → Heap → Prop}
    (h : W C lo r0.fid true r0.assign (setParams r0.params args r0.tmps) H [] fun e T1 H1 M1 => e = .nrm ∧ H1.get l = .loop r0 ∧
      W C lo r0.fid true r0.body T1 (H1.set l (.loop { r0 with state := .busy })) M1 fun e T2 H2 M2 => H2.get l = .loop { r0 with state := .busy } ∧
        next e (Y true (H2.set l (.loop { r0 with state := .ready, pending := none }))) (Y false (H2.set l (.loop { r0 with state := .done, pending := some e })))) :
    ∃ v H', R C (.yield lo l args H) = some (.ofVal (.bool v) H') ∧ Y v H' := by
  rw [W_iff] at h
  obtain ⟨e, T1, H1, M1, h1, rfl, h2, h3⟩ := h
  rw [W_iff] at h3
  obtain ⟨e, T2, H2, M2, h4, h5, h6⟩ := h3
  rw [R_eq]
  have hc : (decide (r0.params.length = args.length) && decide (lo ≤ l)) = true := by simp [hp, hlo]
  simp only [astep, hl, hc, if_true, h1, h2, hs, h4, h5]
  cases e with
  | nrm => exact ⟨true, _, rfl, h6⟩
  | ext i => exact ⟨false, _, rfl, h6⟩
  | gto i => exact ⟨false, _, rfl, h6⟩
  | ret => exact ⟨false, _, rfl, h6⟩

/-- A range over a function: what the function's run says. -/
theorem W_rangeFunc {g : Operand} {params : Array Tmp} {assign body : Code} {T : TT AV} {H : Heap} {M : List Nat} {Q : AExit → TT AV → Heap → List Nat → Prop} {f : FuncId} {caps : List AV}
    (hg : evalO C T g = some (.fn f [] caps))
    (h : ∃ v H', R C (.call lo f (.yld (H.n + 1) :: caps.map AV.strip) ((H.push .defr).push (.loop ⟨fid, T, params.toList, assign, body, .ready, none, H.n⟩))) = some (.ofVal v H') ∧
      ∃ rc, H'.get (H.n + 1) = .loop rc ∧ rc.state ≠ .busy ∧ (match rc.pending with
        | none => Q .nrm T (H'.set (H.n + 1) .dead) (H.n :: M)
        | some e => Q e T (H'.set (H.n + 1) .dead) (H.n :: M))) :
    W C lo fid false (.rangeFunc g params assign body) T H M Q := by
  obtain ⟨v, H', h1, rc, h2, h3, h4⟩ := h
  unfold W
  rw [R_eq]
  simp only [astep, hg, h1, Out.ofVal, h2]
  cases hp : rc.pending with
  | none => rw [hp] at h4; cases hs : rc.state <;> first | exact absurd hs h3 | (simp only [OO_some]; exact h4)
  | some e => rw [hp] at h4; cases hs : rc.state <;> first | exact absurd hs h3 | (simp only [OO_some]; exact h4)

/-- A function whose mode is 'fresh'. -/
theorem enter_fresh {rec : Rec} {f : FuncId} {args : List AV} {H : Heap} {K : AV → Heap → Prop} (hm : C.memo f args = none) (hp : C.prim f = none) (hh : C.hprim f = none) (ht : C.twice f = false) (hmo : C.mode f = .fresh) :
    VO (aenter C rec lo f args H) K = AO (rec (.call H.n f args H)) fun o => K o.val o.s.H := by
  unfold aenter
  simp only [hm, hp, hh, ht, hmo, Bool.false_and, Bool.false_eq_true, if_false]
  cases rec (.call H.n f args H) <;> rfl

theorem enter_pure {rec : Rec} {f : FuncId} {args : List AV} {H : Heap} {K : AV → Heap → Prop} (hm : C.memo f args = none) (hp : C.prim f = none) (hh : C.hprim f = none) (ht : C.twice f = false) (hmo : C.mode f = .pure) :
    VO (aenter C rec lo f args H) K = AO (rec (.call H.n f args H)) fun o => o.val.strip.pure = true ∧ K o.val.strip H := by
  unfold aenter
  simp only [hm, hp, hh, ht, hmo, Bool.false_and, Bool.false_eq_true, if_false]
  cases h : rec (.call H.n f args H) with
  | none => rfl
  | some o => cases hv : o.val.strip.pure <;> simp [VO, AO, hv]

end Go.Sim

/-
The data of the statements, and how they are told to the abstract interpreter.
-/
namespace Go.Sim
open Go Go.Proofs

structure Pc where
  len : Int
  post : Int
  back : Bool

structure Ln where
  name : List Nat
  ps : List Pc

structure Sw where
  name : List Nat
  line : List Nat
  metre : Int
  other : List Nat
  last : Bool

structure Stc where
  name : List Nat
  kind : List Nat
  line : List Nat
  fr : Int
  till : Int

structure Net where
  lines : List Ln
  sws : List Sw
  sts : List Stc

abbrev i64 (n : Int) : AV := .int .i64 n

def Pc.row (p : Pc) : List AV := [i64 p.len, i64 p.post, .bool p.back]
def Ln.row (l : Ln) : List AV := [.str l.name, .ps .unk (l.ps.map Pc.row)]
def Sw.row (s : Sw) : List AV := [.str s.name, .str s.line, i64 s.metre, .str s.other, .bool s.last]
def Stc.row (s : Stc) : List AV := [.str s.name, .str s.kind, .str s.line, i64 s.fr, i64 s.till]
def Net.cells (n : Net) : List AV := [.ps .unk (n.lines.map Ln.row), .ps .unk (n.sws.map Sw.row), .ps .unk (n.sts.map Stc.row)]

theorem map_inj {α β : Type} {f : α → β} (h : ∀ a b, f a = f b → a = b) : ∀ {l m : List α}, l.map f = m.map f → l = m
  | [], [], _ => rfl
  | [], _ :: _, e => by simp at e
  | _ :: _, [], e => by simp at e
  | a :: l, b :: m, e => by
    simp only [List.map_cons, List.cons.injEq] at e
    rw [h a b e.1, map_inj h e.2]

theorem Pc.row_inj (a b : Pc) (h : a.row = b.row) : a = b := by
  cases a; cases b; simp [Pc.row] at h; obtain ⟨rfl, rfl, rfl⟩ := h; rfl
theorem Ln.row_inj (a b : Ln) (h : a.row = b.row) : a = b := by
  cases a; cases b
  simp only [Ln.row, List.cons.injEq, AV.str.injEq, AV.ps.injEq, and_true, true_and] at h
  rw [h.1, map_inj Pc.row_inj h.2]
theorem Sw.row_inj (a b : Sw) (h : a.row = b.row) : a = b := by
  cases a; cases b; simp [Sw.row] at h; obtain ⟨rfl, rfl, rfl, rfl, rfl⟩ := h; rfl
theorem Stc.row_inj (a b : Stc) (h : a.row = b.row) : a = b := by
  cases a; cases b; simp [Stc.row] at h; obtain ⟨rfl, rfl, rfl, rfl, rfl⟩ := h; rfl
theorem Net.cells_inj (a b : Net) (h : a.cells = b.cells) : a = b := by
  cases a; cases b
  simp only [Net.cells, List.cons.injEq, AV.ps.injEq, and_true, true_and] at h
  rw [map_inj Ln.row_inj h.1, map_inj Sw.row_inj h.2.1, map_inj Stc.row_inj h.2.2]

theorem Pc.row_len (p : Pc) : p.row.length = 3 := rfl
theorem Ln.row_len (p : Ln) : p.row.length = 2 := rfl
theorem Sw.row_len (p : Sw) : p.row.length = 5 := rfl
theorem Stc.row_len (p : Stc) : p.row.length = 5 := rfl

/-! ### Contracts over data -/

open Classical in
/-- A function that is known on data. -/
noncomputable def primOf {α : Type} (enc : α → List AV) (pre : α → Prop) (spec : α → AV) : List AV → Option AV := fun args =>
  if h : ∃ x, enc x = args ∧ pre x then some (spec h.choose) else none

theorem primOf_inv {α : Type} {enc : α → List AV} {pre : α → Prop} {spec : α → AV} {args : List AV} {v : AV} (h : primOf enc pre spec args = some v) : ∃ x, args = enc x ∧ pre x ∧ v = spec x := by
  unfold primOf at h
  split at h
  · rename_i hx
    simp at h
    exact ⟨hx.choose, hx.choose_spec.1.symm, hx.choose_spec.2, h.symm⟩
  · cases h

theorem primOf_enc {α : Type} {enc : α → List AV} {pre : α → Prop} {spec : α → AV} (hi : ∀ x y, enc x = enc y → x = y) (x : α) (hp : pre x) : primOf enc pre spec (enc x) = some (spec x) := by
  unfold primOf
  have hx : ∃ y, enc y = enc x ∧ pre y := ⟨x, rfl, hp⟩
  rw [dif_pos hx]
  rw [hi _ _ hx.choose_spec.1]

/-- The first error. -/
def firstI : List Int → Int
  | [] => 0
  | e :: r => if e = 0 then firstI r else e

def whenI (b : Bool) (e : Int) : Int := if b then e else 0

theorem withPrims_P (P : FuncId → Option (List AV → Option AV)) : (NC.withPrims P).P = NC.P := rfl
theorem frzP (P : FuncId → Option (List AV → Option AV)) (f : FuncId) (t : TypeId) : (NC.withPrims P).frz f t = false := Eq.trans rfl rfl

abbrev P0 : FuncId → Option (List AV → Option AV) := fun _ => none

end Go.Sim

/-
Open tests, one case each.
-/
namespace Go.Sim
open Go

theorem branch_cases {x : Bool} {a b : Prop} {t : Tag (a ∧ b)} (h1 : x = true → a) (h2 : x = false → b) : branch (some (.bool x)) a b t := ⟨h1, h2⟩
theorem pick_cases {x : Bool} {a b : Prop} {t : Tag (a ∧ b)} (h1 : x = true → a) (h2 : x = false → b) : pickO (.bool x) a b t := ⟨h1, h2⟩
theorem guardT_cases {x : Bool} {a b : Prop} {t : Tag (a ∧ b)} (h1 : x = true → a) (h2 : x = false → b) : guardO true (.bool x) a b t := ⟨h1, fun h => h2 (by cases x <;> simp_all)⟩
theorem guardF_cases {x : Bool} {a b : Prop} {t : Tag (a ∧ b)} (h1 : x = false → a) (h2 : x = true → b) : guardO false (.bool x) a b t := ⟨h1, fun h => h2 (by cases x <;> simp_all)⟩

theorem Heap.get_push_lt {H : Heap} {b : ABlk} {i : Nat} (h : i < H.n) : (H.push b).get i = H.get i := by rw [Heap.get_push, if_neg (by omega)]
theorem Heap.get_push_at {H : Heap} {b : ABlk} {i : Nat} (h : i = H.n) : (H.push b).get i = b := by rw [Heap.get_push, if_pos h]
theorem Heap.get_set_ne {H : Heap} {b : ABlk} {i j : Nat} (h : i ≠ j) : (H.set j b).get i = H.get i := by rw [Heap.get_set, if_neg h]
theorem Heap.get_set_at {H : Heap} {b : ABlk} {i j : Nat} (h : i = j) : (H.set j b).get i = b := by rw [Heap.get_set, if_pos h]

section
variable {C : Cfg} {lo : Nat} {fid : FuncId} {rec : Rec} {T : TT AV} {H : Heap} {K : AV → Heap → Prop} {d : Option Tmp} {t : TypeId} {p : String} {af : Array Edge} {gd : Option (Nat × Bool)}

theorem evalOpt_none : evalOpt C T none = some none := rfl
theorem evalOpt_some (o : Operand) : evalOpt C T (some o) = match evalO C T o with
    | some v => some (some v)
    | none => none := rfl

theorem op_slice (t' : TypeId) (x : Operand) (a b c : Option Operand) : VO (aop C rec fid lo ⟨d, .slice t' x a b c, t, p, af, gd⟩ T H) K =
    AO (evalO C T x) fun x => AO (evalOpt C T a) fun a => AO (evalOpt C T b) fun b => AO (evalOpt C T c) fun c => AO (aslice C.P t' x a b c) fun v => K v H := by
  simp only [aop]
  cases evalO C T x with
  | none => rfl
  | some x => cases evalOpt C T a with
    | none => rfl
    | some a => cases evalOpt C T b with
      | none => rfl
      | some b => cases evalOpt C T c with
        | none => rfl
        | some c => show VO (same H (aslice C.P t' x a b c)) K = _; cases h : aslice C.P t' x a b c <;> simp [AO, h, VO, same]

/-- The greater, the lesser of two. -/
def maxI (a b : Int) : Int := if a < b then b else a
def minI (a b : Int) : Int := if b < a then b else a
def amax (a b : AV) : Option AV := afold2 (fun x y => if y > x then y else x) a [b]
def amin (a b : AV) : Option AV := afold2 (fun x y => if y < x then y else x) a [b]
theorem amax_int (k l : IntKind) (a b : Int) : amax (.int k a) (.int l b) = some (.int k (maxI a b)) := rfl
theorem amin_int (k l : IntKind) (a b : Int) : amin (.int k a) (.int l b) = some (.int k (minI a b)) := rfl

theorem op_max2 (x y : Operand) (ts : Array TypeId) : VO (aop C rec fid lo ⟨d, .call ⟨.builtin .max, #[x, y], ts⟩, t, p, af, gd⟩ T H) K = AO (evalO C T x) fun a => AO (evalO C T y) fun b => AO (amax a b) fun v => K v H := by
  simp only [aop, acall, evalOs]
  cases evalO C T x with
  | none => rfl
  | some x => cases evalO C T y with
    | none => rfl
    | some y => show VO (same H (amax x y)) K = _; cases h : amax x y <;> simp [AO, h, VO, same]
theorem op_min2 (x y : Operand) (ts : Array TypeId) : VO (aop C rec fid lo ⟨d, .call ⟨.builtin .min, #[x, y], ts⟩, t, p, af, gd⟩ T H) K = AO (evalO C T x) fun a => AO (evalO C T y) fun b => AO (amin a b) fun v => K v H := by
  simp only [aop, acall, evalOs]
  cases evalO C T x with
  | none => rfl
  | some x => cases evalO C T y with
    | none => rfl
    | some y => show VO (same H (amin x y)) K = _; cases h : amin x y <;> simp [AO, h, VO, same]

def amax3 (a b c : AV) : Option AV := afold2 (fun x y => if y > x then y else x) a [b, c]
theorem amax3_int (k l m : IntKind) (a b c : Int) : amax3 (.int k a) (.int l b) (.int m c) = some (.int k (maxI (maxI a b) c)) := rfl
theorem op_max3 (x y z : Operand) (ts : Array TypeId) : VO (aop C rec fid lo ⟨d, .call ⟨.builtin .max, #[x, y, z], ts⟩, t, p, af, gd⟩ T H) K = AO (evalO C T x) fun a => AO (evalO C T y) fun b => AO (evalO C T z) fun c => AO (amax3 a b c) fun v => K v H := by
  simp only [aop, acall, evalOs]
  cases evalO C T x with
  | none => rfl
  | some x => cases evalO C T y with
    | none => rfl
    | some y => cases evalO C T z with
      | none => rfl
      | some z => show VO (same H (amax3 x y z)) K = _; cases h : amax3 x y z <;> simp [AO, h, VO, same]

/-- A call of a function value. -/
def fnO (C : Cfg) (rec : Rec) (lo : Nat) (v : AV) (l : List AV) (H : Heap) (K : AV → Heap → Prop) (_t : Tag K := ⟨⟩) : Prop := match v with
  | .fn f first caps => VO (aenter C rec lo f ((first ++ l ++ caps).map AV.strip) H) K
  | .yld i => AO (rec (.yield lo i (l.map AV.strip) H)) fun o => K o.val o.s.H
  | _ => False
theorem fnO_yld (i : Nat) (l : List AV) : fnO C rec lo (.yld i) l H K = AO (rec (.yield lo i (l.map AV.strip) H)) fun o => K o.val o.s.H := rfl
theorem fnO_fn (f : FuncId) (first caps l : List AV) : fnO C rec lo (.fn f first caps) l H K = VO (aenter C rec lo f ((first ++ l ++ caps).map AV.strip) H) K := rfl
theorem op_callT (x : Tmp) (xs : Array Operand) (ts : Array TypeId) : VO (aop C rec fid lo ⟨d, .call ⟨.value (.tmp x), xs, ts⟩, t, p, af, gd⟩ T H) K = AO (evalOs C T xs.toList) fun l => fnO C rec lo (getT T x) l H K := by
  simp only [aop, acall]
  cases evalOs C T xs.toList with
  | none => rfl
  | some l =>
    simp only [evalO]
    cases getT T x with
    | yld i => show VO (match rec (.yield lo i (l.map AV.strip) H) with | some o => some (o.val, o.s.H) | none => none) K = AO (rec (.yield lo i (l.map AV.strip) H)) fun o => K o.val o.s.H
               cases rec (.yield lo i (l.map AV.strip) H) <;> rfl
    | _ => rfl

/-- A function whose mode is 'free'. -/
theorem enter_free {f : FuncId} {args : List AV} (hm : C.memo f args = none) (hp : C.prim f = none) (hh : C.hprim f = none) (ht : C.twice f = false) (hmo : C.mode f = .free) :
    VO (aenter C rec lo f args H) K = AO (rec (.call lo f args H)) fun o => K o.val o.s.H := by
  unfold aenter
  simp only [hm, hp, hh, ht, hmo, Bool.false_and, Bool.false_eq_true, if_false]
  cases rec (.call lo f args H) <;> rfl
end

/-- What a map's update, an append writes. -/
def accM (v : Option AV) : Option Acc := match v with
  | some (.map id) => some (.wr id)
  | _ => none
theorem accM_map (id : Nat) : accM (some (.map id)) = some (.wr id) := rfl
theorem acc_mapUpdate {C : Cfg} (T : TT AV) (n : Nat) (d : Option Tmp) (t' : TypeId) (m k x : Operand) (t : TypeId) (p : String) (af : Array Edge) (gd : Option (Nat × Bool)) : accOf C T n .writeAt ⟨d, .mapUpdate t' m k x, t, p, af, gd⟩ = accM (evalO C T m) := by
  unfold accOf
  cases h : evalO C T m with
  | none => simp [h, accM]
  | some v => cases v <;> simp [h, accM]
def accS (v : Option AV) : Option Acc := match v with
  | some (.ps (.tok k) _) => some (.wr k)
  | some (.rs id _ _ _ _) => some (.wr id)
  | _ => none
theorem accS_tok (k : Nat) (rows : List (List AV)) : accS (some (.ps (.tok k) rows)) = some (.wr k) := rfl
theorem accS_nil (rows : List (List AV)) : accS (some (.ps .nil rows)) = none := rfl
theorem accS_exact (rows : List (List AV)) : accS (some (.ps .exact rows)) = none := rfl
theorem accS_rs (a b c d : Nat) (e : Option Nat) : accS (some (.rs a b c d e)) = some (.wr a) := rfl
theorem acc_append {C : Cfg} (T : TT AV) (n : Nat) (d : Option Tmp) (a b : Operand) (ts : Array TypeId) (t : TypeId) (p : String) (af : Array Edge) (gd : Option (Nat × Bool)) : accOf C T n .writeAt ⟨d, .call ⟨.builtin .append, #[a, b], ts⟩, t, p, af, gd⟩ = accS (evalO C T a) := by
  unfold accOf
  cases h : evalO C T a with
  | none => simp [h, accS]
  | some v => cases v with
    | ps t rows => cases t <;> simp [h, accS]
    | _ => simp [h, accS]

/-- The heap behind a task. -/
noncomputable def hEnd (C : Cfg) (t : Task) : Heap := match R C t with
  | some o => o.s.H
  | none => .empty
theorem ex_eq {C : Cfg} {t : Task} {v : AV} (h : ∃ H', R C t = some (.ofVal v H')) : R C t = some (.ofVal v (hEnd C t)) := by
  obtain ⟨H', h⟩ := h
  unfold hEnd
  rw [h]; rfl
theorem self_eq_add (a b : Nat) : (a = a + b) = (b = 0) := by simp
theorem add_eq_self (a b : Nat) : (a + b = a) = (b = 0) := by simp

theorem aslice_take {P : Program} {t e : TypeId} {sz : Nat} {rows : List (List AV)} {n : Nat} {k : IntKind} (hu : P.underlying t = some (.slice e)) (hs : szOf P e = some sz) (hr : rows.all (fun r => decide (r.length = sz)) = true) (hn : n ≤ rows.length) :
    aslice P t (.ps .unk rows) none (some (.int k (n : Nat))) none = some (.ps .unk (rows.take n)) := by
  unfold aslice
  simp only [hu, hs, hr, if_true]
  have h1 : natOf (rows.length + 1) (.int k (n : Nat)) = some n := by
    rw [natOf_cast, if_pos (by omega)]
  simp only [asliceRows, boundOf, h1, List.drop_zero]
  rfl
theorem aslice_drop {P : Program} {t e : TypeId} {sz : Nat} {rows : List (List AV)} {n : Nat} {k : IntKind} (hu : P.underlying t = some (.slice e)) (hs : szOf P e = some sz) (hr : rows.all (fun r => decide (r.length = sz)) = true) (hn : n ≤ rows.length) :
    aslice P t (.ps .unk rows) (some (.int k (n : Nat))) none none = some (.ps .unk (rows.drop n)) := by
  unfold aslice
  simp only [hu, hs, hr, if_true]
  have h1 : natOf (rows.length + 1) (.int k (n : Nat)) = some n := by
    rw [natOf_cast, if_pos (by omega)]
  simp only [asliceRows, boundOf, h1, List.take_length]
  rfl
theorem wrap_pred {k n : Nat} (hk : 0 < k) (h : k ≤ n) (hn : n ≤ maxRows) : wrapq .i64 (Int.sub (k : Int) 1) = ((k - 1 : Nat) : Int) := by
  have e : Int.sub (k : Int) 1 = ((k - 1 : Nat) : Int) := by show (k : Int) - 1 = _; omega
  rw [e]; exact wrap_nat (by unfold maxRows at hn; omega)

end Go.Sim

/-
The rules of the interpreter and the facts of this program, laid into one set.
-/
namespace Go.Sim
open Go Go.Proofs
attribute [go_sem ↓] W_seq W_block W_region W_draw draw_nil draw_data draw_load draw_read draw_fresh draw_writeAt draw_write draw_guard
attribute [go_sem ↓] okO_false W_skip W_cond W_ret W_exit next_nrm next_ret next_ext shut_nrm shut_ret shut_ext branch_true
attribute [go_sem ↓] branch_false WO_some VO_some AO_some OO_some aops_op aops_guard dstG_some aops_nil op_move op_assign op_pick
attribute [go_sem ↓] pickO_true pickO_false op_alloc op_box op_load op_store op_bin op_un op_conv op_build op_buildSlice op_makeFunc
attribute [go_sem ↓] op_makeMap op_fieldAddr op_field op_indexAddr op_index op_range op_next op_lookup op_mapUpdate op_extract op_len op_append
attribute [go_sem ↓] op_callF op_callT fnO_fn fnO_yld op_slice op_max2 op_min2 op_max3 guardO_tt guardO_tf guardO_ff guardO_ft
attribute [go_sem ↓] guardO_undef
attribute [go_sem] clashes_nil clashes_none clashes_some acc_load acc_read acc_store acc_fresh acc_mapUpdate accM_map acc_append accS_tok accS_nil
attribute [go_sem] accS_exact accS_rs accP_rd accP_wr accP_pptr record_some record_none apart_rw apart_wr apart_aw apart_wa List.any_cons
attribute [go_sem] List.any_nil List.contains_cons List.contains_nil Bool.not_eq_true' backH_zero backH_s below_load below_callF below_len below_lookup belowL_nil belowL_cons
attribute [go_sem] belowO under_int under_bool under_str under_unk under_nil under_exact under_agg under_map under_ptr under_fn underAll_nil
attribute [go_sem] underAll_cons blt_dec pure_int pure_bool pure_str pure_unk pure_nil abuildSlice rowsOf Option.isSome_some afill dstOf
attribute [go_sem] putT_some putT_none frzP withPrims_P arange anext evalOpt_none evalOpt_some amax_int amin_int amax3_int tupO_tup
attribute [go_sem] evalO_tmp evalO_int evalO_bool evalO_func evalO_nils evalOs_nil evalOs_cons evalParts_nil evalParts_cons getT_setT Heap.get_set Heap.get_push
attribute [go_sem] Heap.n_set Heap.n_push Nat.lt_add_one Nat.add_zero Nat.zero_add Bool.false_eq_true if_true if_false ite_true ite_false and_true true_and
attribute [go_sem] and_self aload readCells blkCells sub? loadV alen abin aun_not kcode ibin ltI_iff
attribute [go_sem] eqI_iff List.length_cons List.length_nil List.drop_succ_cons List.drop_zero List.drop_nil List.take_succ_cons List.take_zero List.take_nil List.getElem?_cons_zero List.getElem?_cons_succ afield
attribute [go_sem] aindexAddr aindex part? natOf_cast natOf_0 natOf_1 decide_true decide_false AV.cells AV.one List.all_cons List.all_nil
attribute [go_sem] Bool.and_true Bool.true_and Bool.and_self astore setBlk over List.append_nil List.nil_append List.cons_append List.map_cons List.map_nil cond_true
attribute [go_sem] cond_false Nat.beq_refl not_true_eq_false not_false_eq_true i64 bodyPost shutMarks_nil ar_nil ar_tmp ar_cell empty_n argsT_nil
attribute [go_sem] argsT_cons AV.strip AV.strip0 Cls.chain or_true true_or Bool.not_true Bool.not_false Bool.or_true Bool.or_false Bool.true_or Bool.false_or
attribute [go_sem] Bool.and_false Bool.false_and Int.ofNat_lt cast0 eq_self List.length_map ofVal_v ofVal_H self_eq_add add_eq_self Nat.zero_le Nat.le_refl
attribute [go_sem] sz_26 ag_26 sz_9 ag_9 un_9 sz_28 ag_28 ze_42 sz_42 sz_30 ag_30 ze_45
attribute [go_sem] sz_45 ze_30 ze_28 sz_22 ag_22 un_22 sz_56 ag_56 un_3 un_33 ag_42 ag_45
attribute [go_sem] sz_3 ag_3 el_70 ze_3 un_70 un_63 un_72 un_79 un_80 un_83 un_4 ze_56
attribute [go_sem] bs_45 fp_45_0 fp_45_1 un_95 ze_4 sz_54 ag_54 un_54 sz_97 sz_4 ag_4 un_94
attribute [go_sem] un_98 un_107 un_113 un_114 un_117 sz_128 ag_128 ze_128 el_129 sz_83 ze_83 un_129
attribute [go_sem] ag_83 sz_130 ag_130 ze_130 ze_133 un_131 sz_5 ag_5 un_5 un_133 sz_135 un_132
attribute [go_sem] sz_137 ag_137 un_137 un_138 sz_141 ag_141 ze_141 un_142 ze_156 un_155 sz_132 un_156
attribute [go_sem] sz_157 ag_157 ze_157 bs_157 fp_157_0 fp_157_1 fp_157_2 el_142 by_157 un_163 un_160 ze_40
attribute [go_sem] sz_40 ze_26 ag_40 sz_23 ag_23 un_23 sz_24 ag_24 un_24 bs_42 fp_42_0 fp_42_1
attribute [go_sem] fp_42_2 bs_30 fp_30_0 fp_30_1 fp_30_2 el_163 bs_141 fp_141_0 fp_141_1 fp_141_2 el_138 ze_183
attribute [go_sem] bs_183 fp_183_0 fp_183_1 ze_185 bs_185 fp_185_0 fp_185_1 el_72 sz_185 bs_130 fp_130_0 fp_130_1
attribute [go_sem] fp_130_2 fp_130_3 fp_130_4 fp_130_5 el_83 ze_188 bs_188 fp_188_0 fp_188_1 fp_188_2 el_117 sz_188
attribute [go_sem] bs_128 fp_128_0 fp_128_1 fp_128_2 fp_128_3 fp_128_4 fp_128_5 el_79 sz_191 ag_191 ze_191 sz_193
attribute [go_sem] ag_193 ze_193 ze_196 sz_196 ag_196 bs_196 fp_196_0 fp_196_1 ag_97 ze_97 sz_194 ag_194
attribute [go_sem] el_194 sz_200 ze_200 un_194 by_200 sz_36 ag_36 el_36 un_36 by_196 sz_37 ag_37
attribute [go_sem] el_37 sz_201 ze_201 un_37 by_201 sz_38 ag_38 el_38 sz_202 ze_202 un_38 by_202
attribute [go_sem] bs_28 fp_28_0 fp_28_1 el_234 sz_33 ze_33 un_234 el_314 un_314 un_216 sz_220 ag_220
attribute [go_sem] ze_220 el_218 sz_183 un_218 by_183 ag_183 sz_224 ze_224 bs_224 fp_224_0 fp_224_1 el_63
attribute [go_sem] by_224 ag_202 by_185 ag_185 ag_224 by_130 ag_200 el_98 by_42 by_128 ze_137 el_107
attribute [go_sem] by_137 sz_79 ag_79 ag_135 ze_135 by_188 ag_188 ze_246 sz_246 sz_142 ag_142 un_254
attribute [go_sem] un_252 sz_138 ag_138 by_141 ag_201 un_259 ze_262 bs_262 fp_262_0 fp_262_1 el_258 sz_262
attribute [go_sem] un_258 by_262 by_30 el_160 ze_9 by_9 ze_272 sz_281 ag_281 un_281 bs_40 fp_40_0
attribute [go_sem] fp_40_1 fp_40_2 ze_291 bs_291 fp_291_0 fp_291_1 un_293 sz_296 sz_294 ag_294 sz_160 ag_160
attribute [go_sem] bs_26 fp_26_0 fp_26_1 fp_26_2 bs_56 fp_56_0 fp_56_1 el_54 by_97 el_22 by_56 el_23
attribute [go_sem] by_191 el_24 by_193 bs_200 fp_200_0 fp_200_1 fp_200_2 bs_201 fp_201_0 fp_201_1 fp_201_2 fp_201_3
attribute [go_sem] fp_201_4 bs_202 fp_202_0 fp_202_1 fp_202_2 fp_202_3 un_310 ag_33 bs_220 fp_220_0 fp_220_1 el_216
attribute [go_sem] ze_259 sz_259 un_316 by_220 un_320 by_3 by_33 bs_246 fp_246_0 fp_246_1 ag_259 ze_334
attribute [go_sem] un_334 ag_246 el_252 ze_138 by_138 el_254 by_4 ag_262 ag_296 ze_296 bs_296 fp_296_0
attribute [go_sem] fp_296_1 fp_296_2 el_293 bs_97 fp_97_0 fp_97_1 fp_97_2 bs_191 fp_191_0 fp_191_1 fp_191_2 fp_191_3
attribute [go_sem] fp_191_4 bs_193 fp_193_0 fp_193_1 fp_193_2 fp_193_3 un_21 ze_316 sz_316 ag_316 un_359 un_361
attribute [go_sem] fb_28_0 fa_28_0 fb_30_0 fa_30_0 fb_26_0 fa_26_0 fb_62_1 fa_62_1 fb_62_0 fa_62_0 fb_56_0 fa_56_0
attribute [go_sem] fb_42_0 fa_42_0 fb_42_1 fa_42_1 fb_56_1 fa_56_1 fb_42_2 fa_42_2 fb_97_2 fa_97_2 fb_97_1 fa_97_1
attribute [go_sem] fb_128_2 fa_128_2 fb_128_0 fa_128_0 fb_128_1 fa_128_1 fb_45_0 fa_45_0 fb_128_3 fa_128_3 fb_45_1 fa_45_1
attribute [go_sem] fb_128_4 fa_128_4 fb_130_2 fa_130_2 fb_130_0 fa_130_0 fb_130_1 fa_130_1 fb_135_0 fa_135_0 fb_135_1 fa_135_1
attribute [go_sem] fb_141_0 fa_141_0 fb_157_0 fa_157_0 fb_157_2 fa_157_2 fb_157_1 fa_157_1 fb_26_1 fa_26_1 fb_26_2 fa_26_2
attribute [go_sem] fb_191_0 fa_191_0 fb_191_1 fa_191_1 fb_191_3 fa_191_3 fb_193_0 fa_193_0 fb_193_1 fa_193_1 fb_193_2 fa_193_2
attribute [go_sem] fb_196_1 fa_196_1 fb_40_0 fa_40_0 fb_40_1 fa_40_1 fb_40_2 fa_40_2 fb_28_1 fa_28_1 fb_30_1 fa_30_1
attribute [go_sem] fb_30_2 fa_30_2 fb_97_0 fa_97_0 fb_220_1 fa_220_1 fb_220_0 fa_220_0 fb_196_0 fa_196_0 fb_183_0 fa_183_0
attribute [go_sem] fb_224_1 fa_224_1 fb_183_1 fa_183_1 fb_202_1 fa_202_1 fb_202_2 fa_202_2 fb_202_3 fa_202_3 fb_202_0 fa_202_0
attribute [go_sem] fb_185_1 fa_185_1 fb_193_3 fa_193_3 fb_128_5 fa_128_5 fb_135_2 fa_135_2 fb_188_1 fa_188_1 fb_188_2 fa_188_2
attribute [go_sem] fb_188_0 fa_188_0 fb_246_0 fa_246_0 fb_246_1 fa_246_1 fb_141_1 fa_141_1 fb_141_2 fa_141_2 fb_224_0 fa_224_0
attribute [go_sem] fb_200_0 fa_200_0 fb_200_1 fa_200_1 fb_200_2 fa_200_2 fb_201_0 fa_201_0 fb_201_1 fa_201_1 fb_201_2 fa_201_2
attribute [go_sem] fb_201_3 fa_201_3 fb_201_4 fa_201_4 fb_296_1 fa_296_1 fb_296_2 fa_296_2 fb_291_1 fa_291_1 fb_291_0 fa_291_0
attribute [go_sem] fb_191_2 fa_191_2 fb_191_4 fa_191_4 fb_130_3 fa_130_3 fb_130_4 fa_130_4 fb_130_5 fa_130_5 fb_262_1 fa_262_1
attribute [go_sem] fb_262_0 fa_262_0 fb_296_0 fa_296_0 pl_3_3 pl_3_4 pl_3_5 pl_3_12 pl_3_15 pl_4_3 pl_4_4 pl_5_3
attribute [go_sem] pl_5_5 pl_5_12 pl_5_13 pl_6_6 pl_6_16 pl_6_17 pl_6_23 pl_6_25 pl_6_29 pl_6_41 pl_8_3 pl_8_4
attribute [go_sem] pl_9_23 pl_9_24 pl_9_25 pl_9_26 pl_9_29 pl_9_30 pl_9_53 pl_10_9 pl_10_11 pl_10_12 pl_10_16 pl_10_17
attribute [go_sem] pl_10_20 pl_10_23 pl_10_26 pl_10_29 pl_10_30 pl_11_9 pl_11_10 pl_11_13 pl_12_7 pl_12_8 pl_12_10 pl_12_11
attribute [go_sem] pl_12_23 pl_12_24 pl_12_27 pl_12_33 pl_12_34 pl_12_37 pl_12_42 pl_14_10 pl_15_13 pl_25_9 pl_28_1 pl_28_5
attribute [go_sem] pl_28_7 pl_29_4 pl_32_15 pl_32_23 pl_32_24 pl_37_5 pl_38_14 pl_39_6 pl_42_1 pl_42_5 pl_44_7 pl_44_19
attribute [go_sem] pl_45_5 pl_46_1 pl_49_11 pl_50_1 pl_56_5 pl_56_8 pl_56_10 pl_57_8 pl_58_5 pl_59_8 pl_60_6 pl_64_5
attribute [go_sem] pl_65_7 pl_65_27 pl_66_7 pl_66_13 pl_68_4 pl_68_14 pl_68_15 pl_68_19 pl_69_8 pl_69_14 pl_71_7 pl_72_10
attribute [go_sem] pl_72_17 pl_74_7 pl_75_1 pl_75_8 pl_76_2 pl_76_7 pl_77_5 pl_78_6 pl_82_1 pl_83_8 pl_83_16 pl_84_6
attribute [go_sem] pl_87_13 pl_87_19 pl_87_24 pl_88_11 pl_88_12 pl_88_16 pl_88_20 pl_89_10 pl_89_15 pl_89_20 pl_90_9 pl_91_6
attribute [go_sem] pl_91_11 pl_91_16 pl_91_21 pl_100_2 pl_101_8 pl_102_2 pl_103_2 pl_104_8 pl_104_10 pl_105_8 pl_105_10 pl_110_8
attribute [go_sem] pl_112_9 pl_113_8 pl_123_1 pl_123_8 pl_123_21 pl_124_4 pl_124_5 pl_126_4 pl_127_1 pl_132_1 pl_133_2 pl_134_1
attribute [go_sem] pl_134_2 pl_135_10 pl_135_11 pl_137_1 pl_139_7 pl_142_19 pl_144_1 pl_147_3 pl_147_7 pl_147_11 pl_147_14 pl_147_15
attribute [go_sem] pl_148_8 pl_148_9 pl_148_10 pl_148_11 pl_148_12 pl_148_13 pl_149_4 pl_157_6 pl_173_5 pl_173_11 pl_173_12 pl_173_15
attribute [go_sem] pl_173_16 pl_173_20 pl_179_1 pl_180_1 pl_183_1 pl_186_17 pl_197_1 pl_198_3 pl_203_1 pl_204_1 pl_207_3 pl_212_4
attribute [go_sem] pl_217_6 pl_217_7 pl_220_5 pl_221_5 pl_222_5 pl_226_1 pl_230_4 pl_230_6

end Go.Sim

/-
Contracts of the functions that call no others.
-/
namespace Go.Sim
open Go Go.Proofs
set_option maxRecDepth 100000
set_option maxHeartbeats 1000000

/-! ### when, When -/

theorem c121 (b : Bool) (e : Int) : ∀ lo H, CallOk NC lo 121 [.bool b, i64 e] H (i64 (whenI b e)) H := by
  refine contract saneNC primsOk_none (fn := Tryz.f121) (by kernel_rfl) Tryz.func121 rfl rfl (by rfl) (by rfl) ?_
  cases b <;> simp only [go_sem, reduceIte, Nat.reduceEqDiff, Nat.reduceAdd, Nat.reduceMul, Nat.reduceSub, Nat.reduceLeDiff, Nat.reduceLT, Nat.reduceBEq, reduceCtorEq] <;> simp [whenI]

theorem c48 (b : Bool) (e : Int) : ∀ lo H, CallOk NC lo 48 [.bool b, i64 e] H (i64 (whenI b e)) H := by
  refine contract saneNC primsOk_none (fn := Tryz.f48) (by kernel_rfl) Tryz.func48 rfl rfl (by rfl) (by rfl) ?_
  cases b <;> simp only [go_sem, reduceIte, Nat.reduceEqDiff, Nat.reduceAdd, Nat.reduceMul, Nat.reduceSub, Nat.reduceLeDiff, Nat.reduceLT, Nat.reduceBEq, reduceCtorEq] <;> simp [whenI]

def stepI (b : Bool) : Int := if b then -1 else 1

theorem c178 (p : Pc) : ∀ lo H, CallOk NC lo 178 [.agg p.row] H (i64 (stepI p.back)) H := by
  refine contract saneNC primsOk_none (fn := Tryz.f178) (by kernel_rfl) Tryz.func178 rfl rfl (by rfl) (by rfl) ?_
  obtain ⟨l, q, b⟩ := p
  cases b <;> simp only [go_sem, reduceIte, Nat.reduceEqDiff, Nat.reduceAdd, Nat.reduceMul, Nat.reduceSub, Nat.reduceLeDiff, Nat.reduceLT, Nat.reduceBEq, reduceCtorEq, Pc.row] <;> simp [stepI]

def shortB (s : List Nat) : Bool := !decide ((40 : Int) < (s.length : Int))

theorem c97 (s : List Nat) : ∀ lo H, CallOk NC lo 97 [.str s] H (.bool (shortB s)) H := by
  refine contract saneNC primsOk_none (fn := Tryz.f97) (by kernel_rfl) Tryz.func97 rfl rfl (by rfl) (by rfl) ?_
  simp only [go_sem, reduceIte, Nat.reduceEqDiff, Nat.reduceAdd, Nat.reduceMul, Nat.reduceSub, Nat.reduceLeDiff, Nat.reduceLT, Nat.reduceBEq, reduceCtorEq]
  rfl

def postI (p : Pc) (i : Int) : Int := if p.back then wrapq .i64 (p.post - i) else wrapq .i64 (p.post + i)

theorem c109 (p : Pc) (i : Int) : ∀ lo H, CallOk NC lo 109 [.agg p.row, i64 i] H (i64 (postI p i)) H := by
  refine contract saneNC primsOk_none (fn := Tryz.f109) (by kernel_rfl) Tryz.func109 rfl rfl (by rfl) (by rfl) ?_
  obtain ⟨l, q, b⟩ := p
  cases b <;> simp only [go_sem, reduceIte, Nat.reduceEqDiff, Nat.reduceAdd, Nat.reduceMul, Nat.reduceSub, Nat.reduceLeDiff, Nat.reduceLT, Nat.reduceBEq, reduceCtorEq, Pc.row] <;> simp [postI] <;> rfl


/-! ### First, first -/

def intRows (es : List Int) : List (List AV) := es.map fun e => [i64 e]

theorem intRows_at {es : List Int} {k : Nat} {e : Int} (h : es[k]? = some e) : (intRows es)[k]? = some [i64 e] := by simp [intRows, h]
theorem intRows_len (es : List Int) : (intRows es).length = es.length := by simp [intRows]

theorem firstI_drop {es : List Int} {k : Nat} {e : Int} (h : es[k]? = some e) : firstI (es.drop k) = if e = 0 then firstI (es.drop (k + 1)) else e := by
  have hlt := (List.getElem?_eq_some_iff.1 h).1
  have : es.drop k = e :: es.drop (k + 1) := by
    rw [List.drop_eq_getElem_cons hlt]
    rw [(List.getElem?_eq_some_iff.1 h).2]
  rw [this]; rfl

theorem c34 (es : List Int) (hl : es.length ≤ maxRows) : ∀ lo H, CallOk NC lo 34 [.ps .unk (intRows es)] H (i64 (firstI es)) H := by
  refine contract saneNC primsOk_none (fn := Tryz.f34) (by kernel_rfl) Tryz.func34 rfl rfl (by rfl) (by rfl) ?_
  simp only [go_sem, reduceIte, Nat.reduceEqDiff, Nat.reduceAdd, Nat.reduceMul, Nat.reduceSub, Nat.reduceLeDiff, Nat.reduceLT, Nat.reduceBEq, reduceCtorEq]
  refine W_for (fun k T H M => M = [] ∧ getT T 0 = .ps .unk (intRows es) ∧ getT T 3 = i64 k ∧ firstI es = firstI (es.drop k)) es.length ?_ ?_ ?_
  · simp only [go_sem, reduceIte, Nat.reduceEqDiff, Nat.reduceAdd, Nat.reduceMul, Nat.reduceSub, Nat.reduceLeDiff, Nat.reduceLT, Nat.reduceBEq, reduceCtorEq, List.drop_zero]
  · rintro k T H M hk ⟨rfl, h0, h3, hf⟩
    obtain ⟨e, he⟩ : ∃ e, es[k]? = some e := ⟨es[k], by simp⟩
    have hr := intRows_at he
    have hw := wrap_succ hk hl
    have hfd := firstI_drop he
    by_cases hz : e = 0
    · simp only [go_sem, reduceIte, Nat.reduceEqDiff, Nat.reduceAdd, Nat.reduceMul, Nat.reduceSub, Nat.reduceLeDiff, Nat.reduceLT, Nat.reduceBEq, reduceCtorEq, h0, h3, hr, intRows_len, Int.ofNat_lt, hk, hw, hz]
      simp [hf, hfd, hz]
    · simp only [go_sem, reduceIte, Nat.reduceEqDiff, Nat.reduceAdd, Nat.reduceMul, Nat.reduceSub, Nat.reduceLeDiff, Nat.reduceLT, Nat.reduceBEq, reduceCtorEq, h0, h3, hr, intRows_len, Int.ofNat_lt, hk, hw, hz]
      simp [hf, hfd, hz]
  · rintro T H M ⟨rfl, h0, h3, hf⟩
    simp only [go_sem, reduceIte, Nat.reduceEqDiff, Nat.reduceAdd, Nat.reduceMul, Nat.reduceSub, Nat.reduceLeDiff, Nat.reduceLT, Nat.reduceBEq, reduceCtorEq, h0, h3, intRows_len, Int.ofNat_lt, Nat.lt_irrefl]
    simp [hf, firstI]


theorem c111 (es : List Int) (hl : es.length ≤ maxRows) : ∀ lo H, CallOk NC lo 111 [.ps .unk (intRows es)] H (i64 (firstI es)) H := by
  refine contract saneNC primsOk_none (fn := Tryz.f111) (by kernel_rfl) Tryz.func111 rfl rfl (by rfl) (by rfl) ?_
  simp only [go_sem, reduceIte, Nat.reduceEqDiff, Nat.reduceAdd, Nat.reduceMul, Nat.reduceSub, Nat.reduceLeDiff, Nat.reduceLT, Nat.reduceBEq, reduceCtorEq]
  refine W_for (fun k T H M => M = [] ∧ getT T 5 = .ps .unk (intRows es) ∧ getT T 6 = i64 (es.length : Nat) ∧ getT T 7 = i64 k ∧ firstI es = firstI (es.drop k)) es.length ?_ ?_ ?_
  · simp only [go_sem, reduceIte, Nat.reduceEqDiff, Nat.reduceAdd, Nat.reduceMul, Nat.reduceSub, Nat.reduceLeDiff, Nat.reduceLT, Nat.reduceBEq, reduceCtorEq, intRows_len, List.drop_zero]
  · rintro k T H M hk ⟨rfl, h0, h1, h3, hf⟩
    obtain ⟨e, he⟩ : ∃ e, es[k]? = some e := ⟨es[k], by simp⟩
    have hr := intRows_at he
    have hw := wrap_succ hk hl
    have hfd := firstI_drop he
    by_cases hz : e = 0
    · simp only [go_sem, reduceIte, Nat.reduceEqDiff, Nat.reduceAdd, Nat.reduceMul, Nat.reduceSub, Nat.reduceLeDiff, Nat.reduceLT, Nat.reduceBEq, reduceCtorEq, h0, h1, h3, hr, intRows_len, hk, hw, hz]
      simp [hf, hfd, hz]
    · simp only [go_sem, reduceIte, Nat.reduceEqDiff, Nat.reduceAdd, Nat.reduceMul, Nat.reduceSub, Nat.reduceLeDiff, Nat.reduceLT, Nat.reduceBEq, reduceCtorEq, h0, h1, h3, hr, intRows_len, hk, hw, hz]
      simp [hf, hfd, hz]
  · rintro T H M ⟨rfl, h0, h1, h3, hf⟩
    simp only [go_sem, reduceIte, Nat.reduceEqDiff, Nat.reduceAdd, Nat.reduceMul, Nat.reduceSub, Nat.reduceLeDiff, Nat.reduceLT, Nat.reduceBEq, reduceCtorEq, h0, h1, h3, intRows_len, Nat.lt_irrefl]
    simp [hf, firstI]

/-! ### Metres, begin, FindLine -/

/-- The lengths, added up as the machine adds. -/
def sumW : List Pc → Int → Int
  | [], s => s
  | p :: r, s => sumW r (wrapq .i64 (Int.add s p.len))

theorem drop_at {α : Type} {l : List α} {k : Nat} {x : α} (h : l[k]? = some x) : l.drop k = x :: l.drop (k + 1) := by
  have hlt := (List.getElem?_eq_some_iff.1 h).1
  rw [List.drop_eq_getElem_cons hlt, (List.getElem?_eq_some_iff.1 h).2]

theorem map_at {α β : Type} {f : α → β} {l : List α} {k : Nat} {x : α} (h : l[k]? = some x) : (l.map f)[k]? = some (f x) := by simp [h]

theorem c26 (l : Ln) (hl : l.ps.length ≤ maxRows) : ∀ lo H, CallOk NC lo 26 [.agg l.row] H (i64 (sumW l.ps 0)) H := by
  refine contract saneNC primsOk_none (fn := Tryz.f26) (by kernel_rfl) Tryz.func26 rfl rfl (by rfl) (by rfl) ?_
  simp only [go_sem, reduceIte, Nat.reduceEqDiff, Nat.reduceAdd, Nat.reduceMul, Nat.reduceSub, Nat.reduceLeDiff, Nat.reduceLT, Nat.reduceBEq, reduceCtorEq, Ln.row]
  refine W_for (fun k T H M => M = [] ∧ getT T 1 = .ptr 0 0 ∧ H.get 0 = .cells [.str l.name, .ps .unk (l.ps.map Pc.row)] 56 ∧ getT T 4 = i64 k ∧ ∃ s, getT T 3 = i64 s ∧ sumW l.ps 0 = sumW (l.ps.drop k) s) l.ps.length ?_ ?_ ?_
  · simp only [go_sem, reduceIte, Nat.reduceEqDiff, Nat.reduceAdd, Nat.reduceMul, Nat.reduceSub, Nat.reduceLeDiff, Nat.reduceLT, Nat.reduceBEq, reduceCtorEq]; exact ⟨0, rfl, rfl⟩
  · rintro k T H M hk ⟨rfl, h1, hH, h4, s, h3, hs⟩
    obtain ⟨p, hp⟩ : ∃ p, l.ps[k]? = some p := ⟨l.ps[k], by simp⟩
    have hr := map_at (f := Pc.row) hp
    have hw := wrap_succ hk hl
    rw [drop_at hp] at hs
    simp only [go_sem, reduceIte, Nat.reduceEqDiff, Nat.reduceAdd, Nat.reduceMul, Nat.reduceSub, Nat.reduceLeDiff, Nat.reduceLT, Nat.reduceBEq, reduceCtorEq, h1, hH, h3, h4, List.length_map, hk, hr, hw, Pc.row]
    exact ⟨_, rfl, hs⟩
  · rintro T H M ⟨rfl, h1, hH, h4, s, h3, hs⟩
    simp only [go_sem, reduceIte, Nat.reduceEqDiff, Nat.reduceAdd, Nat.reduceMul, Nat.reduceSub, Nat.reduceLeDiff, Nat.reduceLT, Nat.reduceBEq, reduceCtorEq, h1, hH, h3, h4, List.length_map, Nat.lt_irrefl]
    simp [hs, sumW]

theorem c108 (l : Ln) (n : Nat) (hn : n ≤ l.ps.length) (hl : l.ps.length ≤ maxRows) : ∀ lo H, CallOk NC lo 108 [.agg l.row, i64 n] H (i64 (sumW (l.ps.take n) 0)) H := by
  refine contract saneNC primsOk_none (fn := Tryz.f108) (by kernel_rfl) Tryz.func108 rfl rfl (by rfl) (by rfl) ?_
  simp only [go_sem, reduceIte, Nat.reduceEqDiff, Nat.reduceAdd, Nat.reduceMul, Nat.reduceSub, Nat.reduceLeDiff, Nat.reduceLT, Nat.reduceBEq, reduceCtorEq, Ln.row]
  refine W_for (fun k T H M => M = [] ∧ getT T 2 = .ptr 0 0 ∧ H.get 0 = .cells [.str l.name, .ps .unk (l.ps.map Pc.row)] 56 ∧ getT T 1 = i64 n ∧ getT T 6 = i64 k ∧ ∃ s, getT T 5 = i64 s ∧ sumW (l.ps.take n) 0 = sumW ((l.ps.take n).drop k) s) n ?_ ?_ ?_
  · simp only [go_sem, reduceIte, Nat.reduceEqDiff, Nat.reduceAdd, Nat.reduceMul, Nat.reduceSub, Nat.reduceLeDiff, Nat.reduceLT, Nat.reduceBEq, reduceCtorEq]; exact ⟨0, rfl, rfl⟩
  · rintro k T H M hk ⟨rfl, h2, hH, h1, h6, s, h5, hs⟩
    obtain ⟨p, hp⟩ : ∃ p, l.ps[k]? = some p := ⟨l.ps[k]'(by omega), by simp⟩
    have hr := map_at (f := Pc.row) hp
    have hlt : k < l.ps.length := by omega
    have hw := wrap_succ hlt hl
    have hp' : (l.ps.take n)[k]? = some p := by rw [List.getElem?_take_of_lt hk]; exact hp
    rw [drop_at hp'] at hs
    simp only [go_sem, reduceIte, Nat.reduceEqDiff, Nat.reduceAdd, Nat.reduceMul, Nat.reduceSub, Nat.reduceLeDiff, Nat.reduceLT, Nat.reduceBEq, reduceCtorEq, h1, h2, hH, h5, h6, List.length_map, hk, hlt, hr, hw, Pc.row]
    exact ⟨_, rfl, hs⟩
  · rintro T H M ⟨rfl, h2, hH, h1, h6, s, h5, hs⟩
    simp only [go_sem, reduceIte, Nat.reduceEqDiff, Nat.reduceAdd, Nat.reduceMul, Nat.reduceSub, Nat.reduceLeDiff, Nat.reduceLT, Nat.reduceBEq, reduceCtorEq, h1, h2, hH, h5, h6, List.length_map, Nat.lt_irrefl]
    simp [hs, sumW, List.drop_eq_nil_of_le]

/-- Where a line with a name stands. -/
def findL (ls : List Ln) (s : List Nat) : Option Nat := ls.findIdx? fun l => beqL l.name s

def findI (ls : List Ln) (s : List Nat) : Int := match findL ls s with
  | some i => (i : Int)
  | none => -1

theorem findL_drop {ls : List Ln} {s : List Nat} {k : Nat} (h : ∀ j l, j < k → ls[j]? = some l → beqL l.name s = false) {l : Ln} (hk : ls[k]? = some l) (hb : beqL l.name s = true) : findL ls s = some k := by
  unfold findL
  rw [List.findIdx?_eq_some_iff_getElem]
  obtain ⟨hlt, he⟩ := List.getElem?_eq_some_iff.1 hk
  refine ⟨hlt, by rw [he]; exact hb, fun j hj => ?_⟩
  have := h j (ls[j]'(by omega)) hj (by simp)
  rw [this]; simp

theorem findL_none {ls : List Ln} {s : List Nat} (h : ∀ j l, j < ls.length → ls[j]? = some l → beqL l.name s = false) : findL ls s = none := by
  unfold findL
  rw [List.findIdx?_eq_none_iff]
  intro l hl
  obtain ⟨j, hj⟩ := List.mem_iff_getElem?.1 hl
  exact h j l (List.getElem?_eq_some_iff.1 hj).1 hj

theorem c27 (n : Net) (s : List Nat) (hl : n.lines.length ≤ maxRows) : ∀ lo H, CallOk NC lo 27 [.agg n.cells, .str s] H (i64 (findI n.lines s)) H := by
  refine contract saneNC primsOk_none (fn := Tryz.f27) (by kernel_rfl) Tryz.func27 rfl rfl (by rfl) (by rfl) ?_
  simp only [go_sem, reduceIte, Nat.reduceEqDiff, Nat.reduceAdd, Nat.reduceMul, Nat.reduceSub, Nat.reduceLeDiff, Nat.reduceLT, Nat.reduceBEq, reduceCtorEq, Net.cells]
  refine W_for (fun k T H M => M = [] ∧ getT T 2 = .ptr 0 0 ∧ H.get 0 = .cells n.cells 26 ∧ getT T 1 = .str s ∧ getT T 5 = i64 k ∧ ∀ j l, j < k → n.lines[j]? = some l → beqL l.name s = false) n.lines.length ?_ ?_ ?_
  · simp only [go_sem, reduceIte, Nat.reduceEqDiff, Nat.reduceAdd, Nat.reduceMul, Nat.reduceSub, Nat.reduceLeDiff, Nat.reduceLT, Nat.reduceBEq, reduceCtorEq]; exact ⟨rfl, fun j l hj => by omega⟩
  · rintro k T H M hk ⟨rfl, h2, hH, h1, h5, hf⟩
    obtain ⟨l, hp⟩ : ∃ p, n.lines[k]? = some p := ⟨n.lines[k], by simp⟩
    have hr := map_at (f := Ln.row) hp
    have hw := wrap_succ hk hl
    cases hb : beqL l.name s with
    | true =>
      simp only [go_sem, reduceIte, Nat.reduceEqDiff, Nat.reduceAdd, Nat.reduceMul, Nat.reduceSub, Nat.reduceLeDiff, Nat.reduceLT, Nat.reduceBEq, reduceCtorEq, h1, h2, hH, h5, List.length_map, hk, hr, hw, Ln.row, Net.cells, hb]
      simp [findI, findL_drop hf hp hb]
    | false =>
      simp only [go_sem, reduceIte, Nat.reduceEqDiff, Nat.reduceAdd, Nat.reduceMul, Nat.reduceSub, Nat.reduceLeDiff, Nat.reduceLT, Nat.reduceBEq, reduceCtorEq, h1, h2, hH, h5, List.length_map, hk, hr, hw, Ln.row, Net.cells, hb]
      intro j l' hj hl'
      by_cases e : j = k
      · subst e; rw [hp] at hl'; cases hl'; exact hb
      · exact hf j l' (by omega) hl'
  · rintro T H M ⟨rfl, h2, hH, h1, h5, hf⟩
    simp only [go_sem, reduceIte, Nat.reduceEqDiff, Nat.reduceAdd, Nat.reduceMul, Nat.reduceSub, Nat.reduceLeDiff, Nat.reduceLT, Nat.reduceBEq, reduceCtorEq, h1, h2, hH, h5, List.length_map, Net.cells, Nat.lt_irrefl]
    simp [findI, findL_none hf]

end Go.Sim

/-
Names: what is one, by the program and by the reference.
-/
namespace Go.Sim
open Go Go.Proofs
set_option maxRecDepth 100000
set_option maxHeartbeats 1000000

def numB (have' e bad want : Int) : Bool := decide (e = bad) && (!decide (bad = 0) && decide (have' = 0) || decide (bad = 0) && decide (have' = want))

theorem c30 (h e b w : Int) : ∀ lo H, CallOk NC lo 30 [i64 h, i64 e, i64 b, i64 w] H (.bool (numB h e b w)) H := by
  refine contract saneNC primsOk_none (fn := Tryz.f30) (by kernel_rfl) Tryz.func30 rfl rfl (by rfl) (by rfl) ?_
  rcases Classical.propComplete (e = b) with h1 | h1 <;> rcases Classical.propComplete (b = 0) with h2 | h2 <;> rcases Classical.propComplete (h = 0) with h3 | h3 <;> rcases Classical.propComplete (h = w) with h4 | h4 <;> simp only [go_sem, reduceIte, Nat.reduceEqDiff, Nat.reduceAdd, Nat.reduceMul, Nat.reduceSub, Nat.reduceLeDiff, Nat.reduceLT, Nat.reduceBEq, reduceCtorEq, h1, h2, h3, h4] <;> simp [numB, h1, h2, h3, h4]

def letB (x : Int) : Bool := !decide (x < 65) && !decide (90 < x) || !decide (x < 97) && !decide (122 < x)
def digB (x : Int) : Bool := !decide (x < 48) && !decide (57 < x)

theorem c189 (x : Int) : ∀ lo H, CallOk NC lo 189 [.int .u8 x] H (.bool (letB x)) H := by
  refine contract saneNC primsOk_none (fn := Tryz.f189) (by kernel_rfl) Tryz.func189 rfl rfl (by rfl) (by rfl) ?_
  by_cases h1 : x < 65 <;> by_cases h2 : 90 < x <;> by_cases h3 : x < 97 <;> by_cases h4 : 122 < x <;> simp only [go_sem, reduceIte, Nat.reduceEqDiff, Nat.reduceAdd, Nat.reduceMul, Nat.reduceSub, Nat.reduceLeDiff, Nat.reduceLT, Nat.reduceBEq, reduceCtorEq, h1, h2, h3, h4] <;> simp [letB, h1, h2, h3, h4]

theorem c190 (x : Int) : ∀ lo H, CallOk NC lo 190 [.int .u8 x] H (.bool (digB x)) H := by
  refine contract saneNC primsOk_none (fn := Tryz.f190) (by kernel_rfl) Tryz.func190 rfl rfl (by rfl) (by rfl) ?_
  by_cases h1 : x < 48 <;> by_cases h2 : 57 < x <;> simp only [go_sem, reduceIte, Nat.reduceEqDiff, Nat.reduceAdd, Nat.reduceMul, Nat.reduceSub, Nat.reduceLeDiff, Nat.reduceLT, Nat.reduceBEq, reduceCtorEq, h1, h2] <;> simp [digB, h1, h2]

theorem c227 (x : Int) : ∀ lo H, CallOk NC lo 227 [.int .i32 x] H (.bool (letB x)) H := by
  refine contract saneNC primsOk_none (fn := Tryz.f227) (by kernel_rfl) Tryz.func227 rfl rfl (by rfl) (by rfl) ?_
  by_cases h1 : x < 65 <;> by_cases h2 : 90 < x <;> by_cases h3 : x < 97 <;> by_cases h4 : 122 < x <;> simp only [go_sem, reduceIte, Nat.reduceEqDiff, Nat.reduceAdd, Nat.reduceMul, Nat.reduceSub, Nat.reduceLeDiff, Nat.reduceLT, Nat.reduceBEq, reduceCtorEq, h1, h2, h3, h4] <;> simp [letB, h1, h2, h3, h4]

theorem c228 (x : Int) : ∀ lo H, CallOk NC lo 228 [.int .i32 x] H (.bool (digB x)) H := by
  refine contract saneNC primsOk_none (fn := Tryz.f228) (by kernel_rfl) Tryz.func228 rfl rfl (by rfl) (by rfl) ?_
  by_cases h1 : x < 48 <;> by_cases h2 : 57 < x <;> simp only [go_sem, reduceIte, Nat.reduceEqDiff, Nat.reduceAdd, Nat.reduceMul, Nat.reduceSub, Nat.reduceLeDiff, Nat.reduceLT, Nat.reduceBEq, reduceCtorEq, h1, h2] <;> simp [digB, h1, h2]

noncomputable def p189 : List AV → Option AV := primOf (α := Int) (fun x => [.int .u8 x]) (fun _ => True) (fun x => .bool (letB x))
theorem pok189 : ∀ args v, p189 args = some v → ∀ lo H, CallOk NC lo 189 args H v H := by
  intro args v h
  obtain ⟨x, rfl, hp, rfl⟩ := primOf_inv h
  clear h
  revert x
  intro x; exact c189 x
theorem pe189 (x : Int) (hp : (fun _ => True) x) : p189 ((fun x => [.int .u8 x]) x) = some ((fun x => .bool (letB x)) x) := primOf_enc (by intro x y h; simpa using h) x hp
noncomputable def p190 : List AV → Option AV := primOf (α := Int) (fun x => [.int .u8 x]) (fun _ => True) (fun x => .bool (digB x))
theorem pok190 : ∀ args v, p190 args = some v → ∀ lo H, CallOk NC lo 190 args H v H := by
  intro args v h
  obtain ⟨x, rfl, hp, rfl⟩ := primOf_inv h
  clear h
  revert x
  intro x; exact c190 x
theorem pe190 (x : Int) (hp : (fun _ => True) x) : p190 ((fun x => [.int .u8 x]) x) = some ((fun x => .bool (digB x)) x) := primOf_enc (by intro x y h; simpa using h) x hp
noncomputable def p227 : List AV → Option AV := primOf (α := Int) (fun x => [.int .i32 x]) (fun _ => True) (fun x => .bool (letB x))
theorem pok227 : ∀ args v, p227 args = some v → ∀ lo H, CallOk NC lo 227 args H v H := by
  intro args v h
  obtain ⟨x, rfl, hp, rfl⟩ := primOf_inv h
  clear h
  revert x
  intro x; exact c227 x
theorem pe227 (x : Int) (hp : (fun _ => True) x) : p227 ((fun x => [.int .i32 x]) x) = some ((fun x => .bool (letB x)) x) := primOf_enc (by intro x y h; simpa using h) x hp
noncomputable def p228 : List AV → Option AV := primOf (α := Int) (fun x => [.int .i32 x]) (fun _ => True) (fun x => .bool (digB x))
theorem pok228 : ∀ args v, p228 args = some v → ∀ lo H, CallOk NC lo 228 args H v H := by
  intro args v h
  obtain ⟨x, rfl, hp, rfl⟩ := primOf_inv h
  clear h
  revert x
  intro x; exact c228 x
theorem pe228 (x : Int) (hp : (fun _ => True) x) : p228 ((fun x => [.int .i32 x]) x) = some ((fun x => .bool (digB x)) x) := primOf_enc (by intro x y h; simpa using h) x hp
theorem e189 (x : Int) : p189 [.int .u8 x] = some (.bool (letB x)) := pe189 x trivial
theorem e190 (x : Int) : p190 [.int .u8 x] = some (.bool (digB x)) := pe190 x trivial
theorem e227 (x : Int) : p227 [.int .i32 x] = some (.bool (letB x)) := pe227 x trivial
theorem e228 (x : Int) : p228 [.int .i32 x] = some (.bool (digB x)) := pe228 x trivial

noncomputable def PPA : FuncId → Option (List AV → Option AV) := addPrim 228 p228 (addPrim 227 p227 (addPrim 190 p190 (addPrim 189 p189 (fun _ => none))))
theorem primsA : PrimsOk NC PPA := primsOk_add (primsOk_add (primsOk_add (primsOk_add (primsOk_none) (by kernel_rfl) (by kernel_rfl) pok189) (by kernel_rfl) (by kernel_rfl) pok190) (by kernel_rfl) (by kernel_rfl) pok227) (by kernel_rfl) (by kernel_rfl) pok228
theorem enA_189 {rec : Rec} {lo : Nat} {args : List AV} {H : Heap} {K : AV → Heap → Prop} : VO (aenter (NC.withPrims PPA) rec lo 189 args H) K = AO (p189 args) fun v => K v H := enter_prim (by rfl) (by kernel_rfl)
theorem enA_190 {rec : Rec} {lo : Nat} {args : List AV} {H : Heap} {K : AV → Heap → Prop} : VO (aenter (NC.withPrims PPA) rec lo 190 args H) K = AO (p190 args) fun v => K v H := enter_prim (by rfl) (by kernel_rfl)
theorem enA_227 {rec : Rec} {lo : Nat} {args : List AV} {H : Heap} {K : AV → Heap → Prop} : VO (aenter (NC.withPrims PPA) rec lo 227 args H) K = AO (p227 args) fun v => K v H := enter_prim (by rfl) (by kernel_rfl)
theorem enA_228 {rec : Rec} {lo : Nat} {args : List AV} {H : Heap} {K : AV → Heap → Prop} : VO (aenter (NC.withPrims PPA) rec lo 228 args H) K = AO (p228 args) fun v => K v H := enter_prim (by rfl) (by kernel_rfl)
attribute [go_sem ↓] enA_189 enA_190 enA_227 enA_228


/-- May this byte stand in a name behind its first one? -/
def restB (x : Int) : Bool := letB x || digB x || decide (x = 95)

def nameB : List Nat → Bool
  | [] => false
  | c :: r => decide ((c :: r).length ≤ 24) && letB c && r.all fun x => restB x

theorem nameB_at {s : List Nat} (h0 : s ≠ []) (h1 : s.length ≤ 24) (h2 : ∀ c : Nat, s[0]? = some c → letB c = true) (h3 : ∀ (i c : Nat), 1 ≤ i → s[i]? = some c → restB c = true) : nameB s = true := by
  cases s with
  | nil => exact absurd rfl h0
  | cons c r =>
    unfold nameB
    simp only [Bool.and_eq_true, decide_eq_true_eq, List.all_eq_true]
    refine ⟨⟨h1, h2 c rfl⟩, fun x hx => ?_⟩
    obtain ⟨i, hi⟩ := List.mem_iff_getElem?.1 hx
    exact h3 (i + 1) x (by omega) (by simpa using hi)

theorem nameB_not0 {s : List Nat} {c : Nat} (h : s[0]? = some c) (hl : letB c = false) : nameB s = false := by
  cases s with
  | nil => simp at h
  | cons d r => simp at h; subst h; simp [nameB, hl]

theorem nameB_not {s : List Nat} {i c : Nat} (hi : 1 ≤ i) (h : s[i]? = some c) (hl : restB c = false) : nameB s = false := by
  cases s with
  | nil => simp at h
  | cons d r =>
    unfold nameB
    have : (r.all fun x => restB x) = false := by
      rw [List.all_eq_false]
      refine ⟨c, ?_, by simp [hl]⟩
      obtain ⟨j, rfl⟩ : ∃ j, i = j + 1 := ⟨i - 1, by omega⟩
      exact List.mem_of_getElem? (by simpa using h)
    simp [this]

theorem c122 (s : List Nat) : ∀ lo H, CallOk NC lo 122 [.str s] H (.bool (nameB s)) H := by
  refine contract saneNC primsA (fn := Tryz.f122) (by kernel_rfl) Tryz.func122 rfl rfl (by rfl) (by rfl) ?_
  by_cases h0 : s.length = 0
  · have : s = [] := List.length_eq_zero_iff.1 h0
    subst this
    simp only [go_sem, reduceIte, Nat.reduceEqDiff, Nat.reduceAdd, Nat.reduceMul, Nat.reduceSub, Nat.reduceLeDiff, Nat.reduceLT, Nat.reduceBEq, reduceCtorEq]
    simp [nameB]
  · have h0' : ¬ ((s.length : Int) = 0) := by omega
    by_cases h1 : (24 : Int) < s.length
    · simp only [go_sem, reduceIte, Nat.reduceEqDiff, Nat.reduceAdd, Nat.reduceMul, Nat.reduceSub, Nat.reduceLeDiff, Nat.reduceLT, Nat.reduceBEq, reduceCtorEq, h0', h1]
      cases s with
      | nil => simp [nameB]
      | cons c r => simp [nameB]; intro h; simp at h1; omega
    · obtain ⟨c, hc⟩ : ∃ c, s[0]? = some c := ⟨s[0]'(by omega), by simp⟩
      have hlt : 0 < s.length := by omega
      cases hb : letB c with
      | false =>
        simp only [go_sem, reduceIte, Nat.reduceEqDiff, Nat.reduceAdd, Nat.reduceMul, Nat.reduceSub, Nat.reduceLeDiff, Nat.reduceLT, Nat.reduceBEq, reduceCtorEq, h0', h1, hlt, hc, hb, e189]
        simp [nameB_not0 hc hb]
      | true =>
        simp only [go_sem, reduceIte, Nat.reduceEqDiff, Nat.reduceAdd, Nat.reduceMul, Nat.reduceSub, Nat.reduceLeDiff, Nat.reduceLT, Nat.reduceBEq, reduceCtorEq, h0', h1, hlt, hc, hb, e189]
        refine W_for (fun k T H M => M = [] ∧ getT T 0 = .str s ∧ getT T 3 = i64 ((k + 1 : Nat) : Int) ∧ ∀ (i c : Nat), 1 ≤ i → i < k + 1 → s[i]? = some c → restB c = true) (s.length - 1) ?_ ?_ ?_
        · simp only [go_sem, reduceIte, Nat.reduceEqDiff, Nat.reduceAdd, Nat.reduceMul, Nat.reduceSub, Nat.reduceLeDiff, Nat.reduceLT, Nat.reduceBEq, reduceCtorEq]; exact ⟨rfl, fun i c h1 h2 => by omega⟩
        · rintro k T H M hk ⟨rfl, g0, g3, hf⟩
          have hk' : k + 1 < s.length := by omega
          obtain ⟨c', hc'⟩ : ∃ c, s[k + 1]? = some c := ⟨s[k + 1], by simp⟩
          have hw := wrap_succ (k := k + 1) (n := 24) (by omega) (by unfold maxRows; omega)
          by_cases q1 : letB c' = true
          · simp only [go_sem, reduceIte, Nat.reduceEqDiff, Nat.reduceAdd, Nat.reduceMul, Nat.reduceSub, Nat.reduceLeDiff, Nat.reduceLT, Nat.reduceBEq, reduceCtorEq, g0, g3, hk', hc', hw, e189, q1]
            intro i d hi hj hd
            by_cases e : i = k + 1
            · subst e; rw [hc'] at hd; cases hd; simp [restB, q1]
            · exact hf i d hi (by omega) hd
          · rw [Bool.not_eq_true] at q1
            by_cases q2 : digB c' = true
            · simp only [go_sem, reduceIte, Nat.reduceEqDiff, Nat.reduceAdd, Nat.reduceMul, Nat.reduceSub, Nat.reduceLeDiff, Nat.reduceLT, Nat.reduceBEq, reduceCtorEq, g0, g3, hk', hc', hw, e189, e190, q1, q2]
              intro i d hi hj hd
              by_cases e : i = k + 1
              · subst e; rw [hc'] at hd; cases hd; simp [restB, q2]
              · exact hf i d hi (by omega) hd
            · rw [Bool.not_eq_true] at q2
              rcases Classical.propComplete (((c' : Nat) : Int) = 95) with q3 | q3
              · simp only [go_sem, reduceIte, Nat.reduceEqDiff, Nat.reduceAdd, Nat.reduceMul, Nat.reduceSub, Nat.reduceLeDiff, Nat.reduceLT, Nat.reduceBEq, reduceCtorEq, g0, g3, hk', hc', hw, e189, e190, q1, q2, q3]
                intro i d hi hj hd
                by_cases e : i = k + 1
                · subst e; rw [hc'] at hd; cases hd; simp [restB, q3]
                · exact hf i d hi (by omega) hd
              · simp only [go_sem, reduceIte, Nat.reduceEqDiff, Nat.reduceAdd, Nat.reduceMul, Nat.reduceSub, Nat.reduceLeDiff, Nat.reduceLT, Nat.reduceBEq, reduceCtorEq, g0, g3, hk', hc', hw, e189, e190, q1, q2, q3]
                simp [nameB_not (by omega) hc' (show restB c' = false by simp [restB, q1, q2, q3])]
        · rintro T H M ⟨rfl, g0, g3, hf⟩
          have hn : ¬ (s.length - 1 + 1 < s.length) := by omega
          simp only [go_sem, reduceIte, Nat.reduceEqDiff, Nat.reduceAdd, Nat.reduceMul, Nat.reduceSub, Nat.reduceLeDiff, Nat.reduceLT, Nat.reduceBEq, reduceCtorEq, g0, g3, hn]
          have := nameB_at (s := s) (by intro e; rw [e] at h0; simp at h0) (by omega) (fun d hd => by rw [hc] at hd; cases hd; exact hb) (fun i d hi hd => hf i d hi (by have := (List.getElem?_eq_some_iff.1 hd).1; omega) hd)
          simp [this]

end Go.Sim

/-
Names, as the program tests them.
-/
namespace Go.Sim
open Go Go.Proofs
set_option maxRecDepth 100000
set_option maxHeartbeats 1000000

theorem dec_ascii {s : List Nat} {k c : Nat} (h : s[k]? = some c) (hc : c < 128) : adecode s k = (c, 1) := by
  unfold adecode
  have : s.getD (k + 0) 0 = c := by simp [h]
  simp only [this]
  rw [if_pos hc]

theorem dec_high {s : List Nat} {k c : Nat} (h : s[k]? = some c) (hc : ¬ c < 128) : 128 ≤ (adecode s k).1 := by
  unfold adecode
  have h0 : s.getD (k + 0) 0 = c := by simp [h]
  simp only [h0]
  rw [if_neg hc]
  have he : (128 : Nat) ≤ Utf8.runeError := by decide
  split
  · split
    · rename_i h1; exact h1
    · exact he
  · split
    · split
      · rename_i h1; simp only [Bool.and_eq_true, decide_eq_true_eq] at h1; exact Nat.le_trans (by decide) h1.1
      · exact he
    · split
      · split
        · rename_i h1; simp only [Bool.and_eq_true, decide_eq_true_eq] at h1; exact Nat.le_trans (by decide) h1.1
        · exact he
      · exact he

theorem letB_high {x : Nat} (h : 128 ≤ x) : letB x = false := by
  have h1 : ¬ ((x : Int) < 65) := by omega
  have h2 : (90 : Int) < x := by omega
  have h3 : ¬ ((x : Int) < 97) := by omega
  have h4 : (122 : Int) < x := by omega
  simp [letB, h2, h4]
theorem digB_high {x : Nat} (h : 128 ≤ x) : digB x = false := by
  have h2 : (57 : Int) < x := by omega
  simp [digB, h2]

theorem c182 (s : List Nat) (hl : s.length ≤ maxRows) : ∀ lo H, CallOk NC lo 182 [.str s] H (.bool (nameB s)) H := by
  refine contract saneNC primsA (fn := Tryz.f182) (by kernel_rfl) Tryz.func182 rfl rfl (by rfl) (by rfl) ?_
  simp only [go_sem, reduceIte, Nat.reduceEqDiff, Nat.reduceAdd, Nat.reduceMul, Nat.reduceSub, Nat.reduceLeDiff, Nat.reduceLT, Nat.reduceBEq, reduceCtorEq]
  refine W_for (fun k T H M => M = [] ∧ getT T 0 = .str s ∧ getT T 6 = .ptr 0 0 ∧ H.get 0 = .sit s k ∧ (∀ c, 0 < k → s[0]? = some c → letB (c : Nat) = true) ∧ ∀ (i c : Nat), 1 ≤ i → i < k → s[i]? = some c → restB c = true) s.length ?_ ?_ ?_
  · simp only [go_sem, reduceIte, Nat.reduceEqDiff, Nat.reduceAdd, Nat.reduceMul, Nat.reduceSub, Nat.reduceLeDiff, Nat.reduceLT, Nat.reduceBEq, reduceCtorEq]; exact ⟨fun c h => h.elim, fun i c h1 h2 => by omega⟩
  · rintro k T H M hk ⟨rfl, g0, g6, gH, hf0, hf⟩
    obtain ⟨c, hc⟩ : ∃ c, s[k]? = some c := ⟨s[k], by simp⟩
    by_cases hasc : c < 128
    · have hd := dec_ascii hc hasc
      cases q1 : letB (c : Nat) with
      | true =>
        simp only [go_sem, reduceIte, Nat.reduceEqDiff, Nat.reduceAdd, Nat.reduceMul, Nat.reduceSub, Nat.reduceLeDiff, Nat.reduceLT, Nat.reduceBEq, reduceCtorEq, g0, g6, gH, hk, hd, e227, e228, q1]
        refine ⟨fun d _ hd0 => ?_, fun i d hi hj hdi => ?_⟩
        · by_cases e : k = 0
          · subst e; rw [hc] at hd0; cases hd0; exact q1
          · exact hf0 d (by omega) hd0
        · by_cases e : i = k
          · subst e; rw [hc] at hdi; cases hdi; simp [restB, q1]
          · exact hf i d hi (by omega) hdi
      | false =>
        by_cases e : k = 0
        · subst e
          simp only [go_sem, reduceIte, Nat.reduceEqDiff, Nat.reduceAdd, Nat.reduceMul, Nat.reduceSub, Nat.reduceLeDiff, Nat.reduceLT, Nat.reduceBEq, reduceCtorEq, g0, g6, gH, hk, hd, e227, e228, q1]
          simp [nameB_not0 hc q1]
        · have e' : ((k : Int) = 0) = False := by simp; omega
          cases q2 : digB (c : Nat) with
          | true =>
            simp only [go_sem, reduceIte, Nat.reduceEqDiff, Nat.reduceAdd, Nat.reduceMul, Nat.reduceSub, Nat.reduceLeDiff, Nat.reduceLT, Nat.reduceBEq, reduceCtorEq, g0, g6, gH, hk, hd, e227, e228, q1, q2, e']
            refine ⟨fun d _ hd0 => hf0 d (by omega) hd0, fun i d hi hj hdi => ?_⟩
            by_cases e : i = k
            · subst e; rw [hc] at hdi; cases hdi; simp [restB, q2]
            · exact hf i d hi (by omega) hdi
          | false =>
            rcases Classical.propComplete (((c : Nat) : Int) = 95) with q3 | q3
            · simp only [go_sem, reduceIte, Nat.reduceEqDiff, Nat.reduceAdd, Nat.reduceMul, Nat.reduceSub, Nat.reduceLeDiff, Nat.reduceLT, Nat.reduceBEq, reduceCtorEq, g0, g6, gH, hk, hd, e227, e228, q1, q2, q3, e']
              refine ⟨fun d _ hd0 => hf0 d (by omega) hd0, fun i d hi hj hdi => ?_⟩
              by_cases e : i = k
              · subst e; rw [hc] at hdi; cases hdi; simp [restB, q3]
              · exact hf i d hi (by omega) hdi
            · simp only [go_sem, reduceIte, Nat.reduceEqDiff, Nat.reduceAdd, Nat.reduceMul, Nat.reduceSub, Nat.reduceLeDiff, Nat.reduceLT, Nat.reduceBEq, reduceCtorEq, g0, g6, gH, hk, hd, e227, e228, q1, q2, q3, e']
              simp [nameB_not (by omega) hc (show restB (c : Nat) = false by simp [restB, q1, q2, q3])]
    · have hd := dec_high hc hasc
      have q1 := letB_high hd
      have q2 := digB_high hd
      have q3 : (((adecode s k).1 : Int) = 95) = False := by simp; omega
      have r1 : letB (c : Nat) = false := letB_high (by omega)
      have r2 : digB (c : Nat) = false := digB_high (by omega)
      have r3 : ¬ ((c : Int) = 95) := by omega
      by_cases e : k = 0
      · subst e
        simp only [go_sem, reduceIte, Nat.reduceEqDiff, Nat.reduceAdd, Nat.reduceMul, Nat.reduceSub, Nat.reduceLeDiff, Nat.reduceLT, Nat.reduceBEq, reduceCtorEq, g0, g6, gH, hk, e227, e228, q1]
        simp [nameB_not0 hc r1]
      · have e' : ((k : Int) = 0) = False := by simp; omega
        simp only [go_sem, reduceIte, Nat.reduceEqDiff, Nat.reduceAdd, Nat.reduceMul, Nat.reduceSub, Nat.reduceLeDiff, Nat.reduceLT, Nat.reduceBEq, reduceCtorEq, g0, g6, gH, hk, e227, e228, q1, q2, q3, e']
        simp [nameB_not (by omega) hc (show restB (c : Nat) = false by simp [restB, r1, r2, r3])]
  · rintro T H M ⟨rfl, g0, g6, gH, hf0, hf⟩
    rcases Classical.propComplete ((0 : Int) < (s.length : Int)) with h1 | h1
    · rcases Classical.propComplete ((24 : Int) < (s.length : Int)) with h2 | h2
      · simp only [go_sem, reduceIte, Nat.reduceEqDiff, Nat.reduceAdd, Nat.reduceMul, Nat.reduceSub, Nat.reduceLeDiff, Nat.reduceLT, Nat.reduceBEq, reduceCtorEq, g0, g6, gH, Nat.lt_irrefl, h1, h2]
        have h2' := of_eq_true h2
        cases s with
        | nil => simp [nameB]
        | cons c r => simp [nameB]; intro h; simp at h2'; omega
      · simp only [go_sem, reduceIte, Nat.reduceEqDiff, Nat.reduceAdd, Nat.reduceMul, Nat.reduceSub, Nat.reduceLeDiff, Nat.reduceLT, Nat.reduceBEq, reduceCtorEq, g0, g6, gH, Nat.lt_irrefl, h1, h2]
        have h1' := of_eq_true h1
        have h2' := of_eq_false h2
        have := nameB_at (s := s) (by intro e; rw [e] at h1'; simp at h1') (by omega) (fun d hd => hf0 d (by omega) hd) (fun i d hi hd => hf i d hi (List.getElem?_eq_some_iff.1 hd).1 hd)
        simp [this]
    · simp only [go_sem, reduceIte, Nat.reduceEqDiff, Nat.reduceAdd, Nat.reduceMul, Nat.reduceSub, Nat.reduceLeDiff, Nat.reduceLT, Nat.reduceBEq, reduceCtorEq, g0, g6, gH, Nat.lt_irrefl, h1]
      have h1' := of_eq_false h1
      have : s = [] := List.length_eq_zero_iff.1 (by omega)
      subst this
      simp [nameB]

end Go.Sim

/-
The reference: small functions.
-/
namespace Go.Sim
open Go Go.Proofs
set_option maxRecDepth 100000
set_option maxHeartbeats 1000000

theorem pair_inj {f : Bool × Int → List AV} (hf : f = fun x => [.bool x.1, i64 x.2]) (x y : Bool × Int) (h : f x = f y) : x = y := by
  subst hf; obtain ⟨a, b⟩ := x; obtain ⟨c, d⟩ := y; simp at h; obtain ⟨rfl, rfl⟩ := h; rfl
theorem intRows_inj (x y : List Int) (h : [AV.ps .unk (intRows x)] = [AV.ps .unk (intRows y)]) : x = y := by
  simp only [List.cons.injEq, AV.ps.injEq, and_true, true_and] at h
  exact map_inj (by intro a b e; simpa using e) h
theorem row1_inj (x y : Ln) (h : [AV.agg x.row] = [AV.agg y.row]) : x = y := by
  simp only [List.cons.injEq, AV.agg.injEq, and_true] at h; exact Ln.row_inj _ _ h
theorem pc1_inj (x y : Pc) (h : [AV.agg x.row] = [AV.agg y.row]) : x = y := by
  simp only [List.cons.injEq, AV.agg.injEq, and_true] at h; exact Pc.row_inj _ _ h

noncomputable def p48 : List AV → Option AV := primOf (α := Bool × Int) (fun x => [.bool x.1, i64 x.2]) (fun _ => True) (fun x => i64 (whenI x.1 x.2))
theorem pok48 : ∀ args v, p48 args = some v → ∀ lo H, CallOk NC lo 48 args H v H := by
  intro args v h
  obtain ⟨x, rfl, hp, rfl⟩ := primOf_inv h
  clear h
  revert x
  intro x; exact c48 x.1 x.2
theorem pe48 (x : Bool × Int) (hp : (fun _ => True) x) : p48 ((fun x => [.bool x.1, i64 x.2]) x) = some ((fun x => i64 (whenI x.1 x.2)) x) := primOf_enc (by intro x y h; exact pair_inj rfl x y h) x hp
theorem e48 (b : Bool) (e : Int) : p48 [.bool b, .int .i64 e] = some (.int .i64 (whenI b e)) := pe48 (b, e) trivial
noncomputable def p121 : List AV → Option AV := primOf (α := Bool × Int) (fun x => [.bool x.1, i64 x.2]) (fun _ => True) (fun x => i64 (whenI x.1 x.2))
theorem pok121 : ∀ args v, p121 args = some v → ∀ lo H, CallOk NC lo 121 args H v H := by
  intro args v h
  obtain ⟨x, rfl, hp, rfl⟩ := primOf_inv h
  clear h
  revert x
  intro x; exact c121 x.1 x.2
theorem pe121 (x : Bool × Int) (hp : (fun _ => True) x) : p121 ((fun x => [.bool x.1, i64 x.2]) x) = some ((fun x => i64 (whenI x.1 x.2)) x) := primOf_enc (by intro x y h; exact pair_inj rfl x y h) x hp
theorem e121 (b : Bool) (e : Int) : p121 [.bool b, .int .i64 e] = some (.int .i64 (whenI b e)) := pe121 (b, e) trivial
noncomputable def p34 : List AV → Option AV := primOf (α := List Int) (fun x => [.ps .unk (intRows x)]) (fun x => x.length ≤ maxRows) (fun x => i64 (firstI x))
theorem pok34 : ∀ args v, p34 args = some v → ∀ lo H, CallOk NC lo 34 args H v H := by
  intro args v h
  obtain ⟨x, rfl, hp, rfl⟩ := primOf_inv h
  clear h
  revert x
  intro x hx; exact c34 x hx
theorem pe34 (x : List Int) (hp : (fun x => x.length ≤ maxRows) x) : p34 ((fun x => [.ps .unk (intRows x)]) x) = some ((fun x => i64 (firstI x)) x) := primOf_enc (by intro x y h; exact intRows_inj x y h) x hp
theorem e34_2 (a b : Int) : p34 [.ps .unk [[.int .i64 a], [.int .i64 b]]] = some (.int .i64 (firstI [a, b])) := pe34 [a, b] (by show 2 ≤ 1073741824; decide)
theorem e34_3 (a b c : Int) : p34 [.ps .unk [[.int .i64 a], [.int .i64 b], [.int .i64 c]]] = some (.int .i64 (firstI [a, b, c])) := pe34 [a, b, c] (by show 3 ≤ 1073741824; decide)
theorem e34_4 (a b c d : Int) : p34 [.ps .unk [[.int .i64 a], [.int .i64 b], [.int .i64 c], [.int .i64 d]]] = some (.int .i64 (firstI [a, b, c, d])) := pe34 [a, b, c, d] (by show 4 ≤ 1073741824; decide)
noncomputable def p111 : List AV → Option AV := primOf (α := List Int) (fun x => [.ps .unk (intRows x)]) (fun x => x.length ≤ maxRows) (fun x => i64 (firstI x))
theorem pok111 : ∀ args v, p111 args = some v → ∀ lo H, CallOk NC lo 111 args H v H := by
  intro args v h
  obtain ⟨x, rfl, hp, rfl⟩ := primOf_inv h
  clear h
  revert x
  intro x hx; exact c111 x hx
theorem pe111 (x : List Int) (hp : (fun x => x.length ≤ maxRows) x) : p111 ((fun x => [.ps .unk (intRows x)]) x) = some ((fun x => i64 (firstI x)) x) := primOf_enc (by intro x y h; exact intRows_inj x y h) x hp
theorem e111_2 (a b : Int) : p111 [.ps .unk [[.int .i64 a], [.int .i64 b]]] = some (.int .i64 (firstI [a, b])) := pe111 [a, b] (by show 2 ≤ 1073741824; decide)
theorem e111_3 (a b c : Int) : p111 [.ps .unk [[.int .i64 a], [.int .i64 b], [.int .i64 c]]] = some (.int .i64 (firstI [a, b, c])) := pe111 [a, b, c] (by show 3 ≤ 1073741824; decide)
theorem e111_4 (a b c d : Int) : p111 [.ps .unk [[.int .i64 a], [.int .i64 b], [.int .i64 c], [.int .i64 d]]] = some (.int .i64 (firstI [a, b, c, d])) := pe111 [a, b, c, d] (by show 4 ≤ 1073741824; decide)
theorem e111_5 (a b c d e : Int) : p111 [.ps .unk [[.int .i64 a], [.int .i64 b], [.int .i64 c], [.int .i64 d], [.int .i64 e]]] = some (.int .i64 (firstI [a, b, c, d, e])) := pe111 [a, b, c, d, e] (by show 5 ≤ 1073741824; decide)
theorem e111_6 (a b c d e f : Int) : p111 [.ps .unk [[.int .i64 a], [.int .i64 b], [.int .i64 c], [.int .i64 d], [.int .i64 e], [.int .i64 f]]] = some (.int .i64 (firstI [a, b, c, d, e, f])) := pe111 [a, b, c, d, e, f] (by show 6 ≤ 1073741824; decide)
noncomputable def p26 : List AV → Option AV := primOf (α := Ln) (fun x => [.agg x.row]) (fun x => x.ps.length ≤ maxRows) (fun x => i64 (sumW x.ps 0))
theorem pok26 : ∀ args v, p26 args = some v → ∀ lo H, CallOk NC lo 26 args H v H := by
  intro args v h
  obtain ⟨x, rfl, hp, rfl⟩ := primOf_inv h
  clear h
  revert x
  intro x hx; exact c26 x hx
theorem pe26 (x : Ln) (hp : (fun x => x.ps.length ≤ maxRows) x) : p26 ((fun x => [.agg x.row]) x) = some ((fun x => i64 (sumW x.ps 0)) x) := primOf_enc (by intro x y h; exact row1_inj x y h) x hp
noncomputable def p178 : List AV → Option AV := primOf (α := Pc) (fun x => [.agg x.row]) (fun _ => True) (fun x => i64 (stepI x.back))
theorem pok178 : ∀ args v, p178 args = some v → ∀ lo H, CallOk NC lo 178 args H v H := by
  intro args v h
  obtain ⟨x, rfl, hp, rfl⟩ := primOf_inv h
  clear h
  revert x
  intro x; exact c178 x
theorem pe178 (x : Pc) (hp : (fun _ => True) x) : p178 ((fun x => [.agg x.row]) x) = some ((fun x => i64 (stepI x.back)) x) := primOf_enc (by intro x y h; exact pc1_inj x y h) x hp
theorem e178 (l q : Int) (b : Bool) : p178 [.agg [.int .i64 l, .int .i64 q, .bool b]] = some (.int .i64 (stepI b)) := pe178 ⟨l, q, b⟩ trivial
noncomputable def p109 : List AV → Option AV := primOf (α := Pc × Int) (fun x => [.agg x.1.row, i64 x.2]) (fun _ => True) (fun x => i64 (postI x.1 x.2))
theorem pok109 : ∀ args v, p109 args = some v → ∀ lo H, CallOk NC lo 109 args H v H := by
  intro args v h
  obtain ⟨x, rfl, hp, rfl⟩ := primOf_inv h
  clear h
  revert x
  intro x; exact c109 x.1 x.2
theorem pe109 (x : Pc × Int) (hp : (fun _ => True) x) : p109 ((fun x => [.agg x.1.row, i64 x.2]) x) = some ((fun x => i64 (postI x.1 x.2)) x) := primOf_enc (by intro x y h; (obtain ⟨a, b⟩ := x; obtain ⟨c, d⟩ := y; simp only [List.cons.injEq, AV.agg.injEq, AV.int.injEq, true_and, and_true] at h; obtain ⟨h1, rfl⟩ := h; rw [Pc.row_inj _ _ h1])) x hp
theorem e109 (l q : Int) (b : Bool) (i : Int) : p109 [.agg [.int .i64 l, .int .i64 q, .bool b], .int .i64 i] = some (.int .i64 (postI ⟨l, q, b⟩ i)) := pe109 (⟨l, q, b⟩, i) trivial
noncomputable def p108 : List AV → Option AV := primOf (α := Ln × Nat) (fun x => [.agg x.1.row, i64 x.2]) (fun x => x.2 ≤ x.1.ps.length ∧ x.1.ps.length ≤ maxRows) (fun x => i64 (sumW (x.1.ps.take x.2) 0))
theorem pok108 : ∀ args v, p108 args = some v → ∀ lo H, CallOk NC lo 108 args H v H := by
  intro args v h
  obtain ⟨x, rfl, hp, rfl⟩ := primOf_inv h
  clear h
  revert x
  intro x hx; exact c108 x.1 x.2 hx.1 hx.2
theorem pe108 (x : Ln × Nat) (hp : (fun x => x.2 ≤ x.1.ps.length ∧ x.1.ps.length ≤ maxRows) x) : p108 ((fun x => [.agg x.1.row, i64 x.2]) x) = some ((fun x => i64 (sumW (x.1.ps.take x.2) 0)) x) := primOf_enc (by intro x y h; (obtain ⟨a, b⟩ := x; obtain ⟨c, d⟩ := y; simp only [List.cons.injEq, AV.agg.injEq, AV.int.injEq, true_and, and_true] at h; obtain ⟨h1, h2⟩ := h; rw [Ln.row_inj _ _ h1, Int.ofNat.inj h2])) x hp
noncomputable def p27 : List AV → Option AV := primOf (α := Net × List Nat) (fun x => [.agg x.1.cells, .str x.2]) (fun x => x.1.lines.length ≤ maxRows) (fun x => i64 (findI x.1.lines x.2))
theorem pok27 : ∀ args v, p27 args = some v → ∀ lo H, CallOk NC lo 27 args H v H := by
  intro args v h
  obtain ⟨x, rfl, hp, rfl⟩ := primOf_inv h
  clear h
  revert x
  intro x hx; exact c27 x.1 x.2 hx
theorem pe27 (x : Net × List Nat) (hp : (fun x => x.1.lines.length ≤ maxRows) x) : p27 ((fun x => [.agg x.1.cells, .str x.2]) x) = some ((fun x => i64 (findI x.1.lines x.2)) x) := primOf_enc (by intro x y h; (obtain ⟨a, b⟩ := x; obtain ⟨c, d⟩ := y; simp only [List.cons.injEq, AV.agg.injEq, AV.str.injEq, true_and, and_true] at h; obtain ⟨h1, rfl⟩ := h; rw [Net.cells_inj _ _ h1])) x hp
noncomputable def p97 : List AV → Option AV := primOf (α := List Nat) (fun x => [.str x]) (fun _ => True) (fun x => .bool (shortB x))
theorem pok97 : ∀ args v, p97 args = some v → ∀ lo H, CallOk NC lo 97 args H v H := by
  intro args v h
  obtain ⟨x, rfl, hp, rfl⟩ := primOf_inv h
  clear h
  revert x
  intro x; exact c97 x
theorem pe97 (x : List Nat) (hp : (fun _ => True) x) : p97 ((fun x => [.str x]) x) = some ((fun x => .bool (shortB x)) x) := primOf_enc (by intro x y h; simpa using h) x hp
theorem e97 (s : List Nat) : p97 [.str s] = some (.bool (shortB s)) := pe97 s trivial
noncomputable def p122 : List AV → Option AV := primOf (α := List Nat) (fun x => [.str x]) (fun _ => True) (fun x => .bool (nameB x))
theorem pok122 : ∀ args v, p122 args = some v → ∀ lo H, CallOk NC lo 122 args H v H := by
  intro args v h
  obtain ⟨x, rfl, hp, rfl⟩ := primOf_inv h
  clear h
  revert x
  intro x; exact c122 x
theorem pe122 (x : List Nat) (hp : (fun _ => True) x) : p122 ((fun x => [.str x]) x) = some ((fun x => .bool (nameB x)) x) := primOf_enc (by intro x y h; simpa using h) x hp
theorem e122 (s : List Nat) : p122 [.str s] = some (.bool (nameB s)) := pe122 s trivial
noncomputable def p182 : List AV → Option AV := primOf (α := List Nat) (fun x => [.str x]) (fun x => x.length ≤ maxRows) (fun x => .bool (nameB x))
theorem pok182 : ∀ args v, p182 args = some v → ∀ lo H, CallOk NC lo 182 args H v H := by
  intro args v h
  obtain ⟨x, rfl, hp, rfl⟩ := primOf_inv h
  clear h
  revert x
  intro x hx; exact c182 x hx
theorem pe182 (x : List Nat) (hp : (fun x => x.length ≤ maxRows) x) : p182 ((fun x => [.str x]) x) = some ((fun x => .bool (nameB x)) x) := primOf_enc (by intro x y h; simpa using h) x hp
theorem e182 (s : List Nat) (hs : s.length ≤ maxRows) : p182 [.str s] = some (.bool (nameB s)) := pe182 s hs

noncomputable def PPB : FuncId → Option (List AV → Option AV) := addPrim 182 p182 (addPrim 122 p122 (addPrim 97 p97 (addPrim 27 p27 (addPrim 108 p108 (addPrim 109 p109 (addPrim 178 p178 (addPrim 26 p26 (addPrim 111 p111 (addPrim 34 p34 (addPrim 121 p121 (addPrim 48 p48 (fun _ => none))))))))))))
theorem primsB : PrimsOk NC PPB := primsOk_add (primsOk_add (primsOk_add (primsOk_add (primsOk_add (primsOk_add (primsOk_add (primsOk_add (primsOk_add (primsOk_add (primsOk_add (primsOk_add (primsOk_none) (by kernel_rfl) (by kernel_rfl) pok48) (by kernel_rfl) (by kernel_rfl) pok121) (by kernel_rfl) (by kernel_rfl) pok34) (by kernel_rfl) (by kernel_rfl) pok111) (by kernel_rfl) (by kernel_rfl) pok26) (by kernel_rfl) (by kernel_rfl) pok178) (by kernel_rfl) (by kernel_rfl) pok109) (by kernel_rfl) (by kernel_rfl) pok108) (by kernel_rfl) (by kernel_rfl) pok27) (by kernel_rfl) (by kernel_rfl) pok97) (by kernel_rfl) (by kernel_rfl) pok122) (by kernel_rfl) (by kernel_rfl) pok182
theorem enB_48 {rec : Rec} {lo : Nat} {args : List AV} {H : Heap} {K : AV → Heap → Prop} : VO (aenter (NC.withPrims PPB) rec lo 48 args H) K = AO (p48 args) fun v => K v H := enter_prim (by rfl) (by kernel_rfl)
theorem enB_121 {rec : Rec} {lo : Nat} {args : List AV} {H : Heap} {K : AV → Heap → Prop} : VO (aenter (NC.withPrims PPB) rec lo 121 args H) K = AO (p121 args) fun v => K v H := enter_prim (by rfl) (by kernel_rfl)
theorem enB_34 {rec : Rec} {lo : Nat} {args : List AV} {H : Heap} {K : AV → Heap → Prop} : VO (aenter (NC.withPrims PPB) rec lo 34 args H) K = AO (p34 args) fun v => K v H := enter_prim (by rfl) (by kernel_rfl)
theorem enB_111 {rec : Rec} {lo : Nat} {args : List AV} {H : Heap} {K : AV → Heap → Prop} : VO (aenter (NC.withPrims PPB) rec lo 111 args H) K = AO (p111 args) fun v => K v H := enter_prim (by rfl) (by kernel_rfl)
theorem enB_26 {rec : Rec} {lo : Nat} {args : List AV} {H : Heap} {K : AV → Heap → Prop} : VO (aenter (NC.withPrims PPB) rec lo 26 args H) K = AO (p26 args) fun v => K v H := enter_prim (by rfl) (by kernel_rfl)
theorem enB_178 {rec : Rec} {lo : Nat} {args : List AV} {H : Heap} {K : AV → Heap → Prop} : VO (aenter (NC.withPrims PPB) rec lo 178 args H) K = AO (p178 args) fun v => K v H := enter_prim (by rfl) (by kernel_rfl)
theorem enB_109 {rec : Rec} {lo : Nat} {args : List AV} {H : Heap} {K : AV → Heap → Prop} : VO (aenter (NC.withPrims PPB) rec lo 109 args H) K = AO (p109 args) fun v => K v H := enter_prim (by rfl) (by kernel_rfl)
theorem enB_108 {rec : Rec} {lo : Nat} {args : List AV} {H : Heap} {K : AV → Heap → Prop} : VO (aenter (NC.withPrims PPB) rec lo 108 args H) K = AO (p108 args) fun v => K v H := enter_prim (by rfl) (by kernel_rfl)
theorem enB_27 {rec : Rec} {lo : Nat} {args : List AV} {H : Heap} {K : AV → Heap → Prop} : VO (aenter (NC.withPrims PPB) rec lo 27 args H) K = AO (p27 args) fun v => K v H := enter_prim (by rfl) (by kernel_rfl)
theorem enB_97 {rec : Rec} {lo : Nat} {args : List AV} {H : Heap} {K : AV → Heap → Prop} : VO (aenter (NC.withPrims PPB) rec lo 97 args H) K = AO (p97 args) fun v => K v H := enter_prim (by rfl) (by kernel_rfl)
theorem enB_122 {rec : Rec} {lo : Nat} {args : List AV} {H : Heap} {K : AV → Heap → Prop} : VO (aenter (NC.withPrims PPB) rec lo 122 args H) K = AO (p122 args) fun v => K v H := enter_prim (by rfl) (by kernel_rfl)
theorem enB_182 {rec : Rec} {lo : Nat} {args : List AV} {H : Heap} {K : AV → Heap → Prop} : VO (aenter (NC.withPrims PPB) rec lo 182 args H) K = AO (p182 args) fun v => K v H := enter_prim (by rfl) (by kernel_rfl)
attribute [go_sem ↓] enB_48 enB_121 enB_34 enB_111 enB_26 enB_178 enB_109 enB_108 enB_27 enB_97 enB_122 enB_182


def rangeI (n a b : Int) : Int := whenI (decide (n < a) || decide (b < n)) 3

theorem c35 (n a b : Int) : ∀ lo H, CallOk NC lo 35 [i64 n, i64 a, i64 b] H (i64 (rangeI n a b)) H := by
  refine contract saneNC primsB (fn := Tryz.f35) (by kernel_rfl) Tryz.func35 rfl rfl (by rfl) (by rfl) ?_
  rcases Classical.propComplete (n < a) with h1 | h1 <;> rcases Classical.propComplete (b < n) with h2 | h2 <;> simp only [go_sem, reduceIte, Nat.reduceEqDiff, Nat.reduceAdd, Nat.reduceMul, Nat.reduceSub, Nat.reduceLeDiff, Nat.reduceLT, Nat.reduceBEq, reduceCtorEq, e48, h1, h2] <;> simp [rangeI, h1, h2]

theorem c115 (n a b : Int) : ∀ lo H, CallOk NC lo 115 [i64 n, i64 a, i64 b] H (i64 (rangeI n a b)) H := by
  refine contract saneNC primsB (fn := Tryz.f115) (by kernel_rfl) Tryz.func115 rfl rfl (by rfl) (by rfl) ?_
  rcases Classical.propComplete (n < a) with h1 | h1 <;> rcases Classical.propComplete (b < n) with h2 | h2 <;> simp only [go_sem, reduceIte, Nat.reduceEqDiff, Nat.reduceAdd, Nat.reduceMul, Nat.reduceSub, Nat.reduceLeDiff, Nat.reduceLT, Nat.reduceBEq, reduceCtorEq, e121, h1, h2] <;> simp [rangeI, h1, h2]

theorem c36 (s : List Nat) : ∀ lo H, CallOk NC lo 36 [.str s] H (i64 (whenI (!nameB s) 8)) H := by
  refine contract saneNC primsB (fn := Tryz.f36) (by kernel_rfl) Tryz.func36 rfl rfl (by rfl) (by rfl) ?_
  simp only [go_sem, reduceIte, Nat.reduceEqDiff, Nat.reduceAdd, Nat.reduceMul, Nat.reduceSub, Nat.reduceLeDiff, Nat.reduceLT, Nat.reduceBEq, reduceCtorEq, e122, e48]

theorem c120 (s : List Nat) (hs : s.length ≤ maxRows) : ∀ lo H, CallOk NC lo 120 [.str s] H (i64 (whenI (!nameB s) 8)) H := by
  refine contract saneNC primsB (fn := Tryz.f120) (by kernel_rfl) Tryz.func120 rfl rfl (by rfl) (by rfl) ?_
  simp only [go_sem, reduceIte, Nat.reduceEqDiff, Nat.reduceAdd, Nat.reduceMul, Nat.reduceSub, Nat.reduceLeDiff, Nat.reduceLT, Nat.reduceBEq, reduceCtorEq, e182 s hs, e121]

theorem findL_at {ls : List Ln} {s : List Nat} {i : Nat} (h : findL ls s = some i) : ∃ l, ls[i]? = some l ∧ i < ls.length ∧ l ∈ ls := by
  unfold findL at h
  rw [List.findIdx?_eq_some_iff_getElem] at h
  obtain ⟨hlt, _⟩ := h
  exact ⟨ls[i], by simp, hlt, List.getElem_mem _⟩

def hasI (ls : List Ln) (s : List Nat) (m : Int) : Int := match findL ls s with
  | none => 10
  | some i => match ls[i]? with
    | some l => whenI (decide (m < 0) || !decide (m < sumW l.ps 0)) 14
    | none => 0

/-- Sizes that the machine can hold. -/
def Net.fits (n : Net) : Prop := n.lines.length ≤ maxRows ∧ ∀ l ∈ n.lines, l.ps.length ≤ maxRows

theorem neg_cast (i : Nat) : ((i : Int) < 0) = False := by simp
theorem neg_one : ((-1 : Int) < 0) = True := by decide

theorem c106 (n : Net) (s : List Nat) (m : Int) (hn : n.fits) : ∀ lo H, CallOk NC lo 106 [.agg n.cells, .str s, i64 m] H (i64 (hasI n.lines s m)) H := by
  refine contract saneNC primsB (fn := Tryz.f106) (by kernel_rfl) Tryz.func106 rfl rfl (by rfl) (by rfl) ?_
  have e27 := pe27 (n, s) hn.1
  cases hf : findL n.lines s with
  | none =>
    simp only [findI, hf] at e27
    simp only [Net.cells] at e27
    simp only [go_sem, reduceIte, Nat.reduceEqDiff, Nat.reduceAdd, Nat.reduceMul, Nat.reduceSub, Nat.reduceLeDiff, Nat.reduceLT, Nat.reduceBEq, reduceCtorEq, Net.cells, e27, neg_one]
    simp [hasI, hf]
  | some i =>
    obtain ⟨l, hl, hlt, hmem⟩ := findL_at hf
    simp only [findI, hf] at e27
    simp only [Net.cells] at e27
    have e26 := pe26 l (hn.2 l hmem)
    simp only [Ln.row] at e26
    have hr := map_at (f := Ln.row) hl
    simp only [Ln.row] at hr
    rcases Classical.propComplete (m < 0) with h1 | h1 <;> rcases Classical.propComplete (m < sumW l.ps 0) with h2 | h2 <;> simp only [go_sem, reduceIte, Nat.reduceEqDiff, Nat.reduceAdd, Nat.reduceMul, Nat.reduceSub, Nat.reduceLeDiff, Nat.reduceLT, Nat.reduceBEq, reduceCtorEq, Net.cells, e27, neg_cast, List.length_map, hlt, hr, e26, h1, h2, e48] <;> simp [hasI, hf, hl, h1, h2]

end Go.Sim
