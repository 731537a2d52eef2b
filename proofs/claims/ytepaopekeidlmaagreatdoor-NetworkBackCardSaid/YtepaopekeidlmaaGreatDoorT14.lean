/-
The parts NetLay2, NetSet, NetL0, NetL1, NetA1, NetB0, NetL2, NetL3, NetL4, NetL5, NetP0, NetP1, NetP2, NetP3, NetP4, NetP5, NetP6, NetP7, NetR1, NetQ1, NetM1, NetR2, NetR3 of one proof, joined: each begins with a remark that says what it shows.
-/
import Derived.Test.YtepaopekeidlmaaGreatDoorT13
import Derived.Shelf.Small.Strs
import Derived.Shelf.Strings.Search3
import Derived.Shelf.Strings.Count
import Derived.Test.YtepaopekeidlmaaGreatDoorProg
set_option linter.unusedSimpArgs false
set_option linter.unusedVariables false
open Nat (reduceEqDiff reduceAdd reduceMul reduceSub reduceLeDiff reduceLT)

/-
The shelf's contracts of strings.IndexByte, Index, Count at this dump, in plain words (lay-shelf.mjs, lay-plain.mjs).
-/
namespace Go.Proofs
def Tryz.lays137_ren:Go.Shelf.Ren:=⟨fun | 137=>213 | 217=>253 | 266=>280 | n=>n,fun | 9=>9 | 5=>5 | 3=>3 | n=>n,fun | n=>n⟩
theorem Tryz.lays137:Go.Proofs.Lays.n137 Tryz.prog Tryz.lays137_ren:={
 mixed:=by kernel_rfl
 f137:=Tryz.func213.trans (congrArg some (by kernel_rfl))
 f217:=Tryz.func253.trans (congrArg some (by kernel_rfl))
 f266:=Tryz.func280.trans (congrArg some (by kernel_rfl))
 t3:=Tryz.underlying3
 a3:=Tryz.isAgg3
 z3:=Tryz.sizeOf3
 v3:=Tryz.zeroValue3
 t5:=Tryz.underlying5
 a5:=Tryz.isAgg5
 z5:=Tryz.sizeOf5
 v5:=Tryz.zeroValue5
 t9:=Tryz.underlying9
 a9:=Tryz.isAgg9
 z9:=Tryz.sizeOf9
 v9:=Tryz.zeroValue9 }
open Go.RowKit in
theorem Tryz.strings_IndexByte (s:ByteArray) (c:Int) (w:World) :
 Calls Tryz.prog 213 #[.string s,.int .u8 c] w fun e w'=>e=.returned (.int .i64 (Lib.indexByte s.data.toList c.toNat.toUInt8))∧w'=w:=Any.strings_IndexByte Tryz.lays137 s c w
def Tryz.lays143_ren:Go.Shelf.Ren:=⟨fun | 143=>257 | 219=>284 | 217=>253 | 225=>296 | 224=>297 | 267=>298 | 266=>280 | 314=>302 | n=>n,fun | 9=>9 | 3=>3 | 4=>4 | 5=>5 | 46=>320 | 146=>406 | 51=>359 | n=>n,fun | 1=>2 | n=>n⟩
theorem Tryz.lays143:Go.Proofs.Lays.n143 Tryz.prog Tryz.lays143_ren:={
 mixed:=by kernel_rfl
 f143:=Tryz.func257.trans (congrArg some (by kernel_rfl))
 f217:=Tryz.func253.trans (congrArg some (by kernel_rfl))
 f219:=Tryz.func284.trans (congrArg some (by kernel_rfl))
 f224:=Tryz.func297.trans (congrArg some (by kernel_rfl))
 f225:=Tryz.func296.trans (congrArg some (by kernel_rfl))
 f266:=Tryz.func280.trans (congrArg some (by kernel_rfl))
 f267:=Tryz.func298.trans (congrArg some (by kernel_rfl))
 f314:=Tryz.func302.trans (congrArg some (by kernel_rfl))
 t3:=Tryz.underlying3
 a3:=Tryz.isAgg3
 z3:=Tryz.sizeOf3
 v3:=Tryz.zeroValue3
 t4:=Tryz.underlying4
 a4:=Tryz.isAgg4
 z4:=Tryz.sizeOf4
 v4:=Tryz.zeroValue4
 t5:=Tryz.underlying5
 a5:=Tryz.isAgg5
 z5:=Tryz.sizeOf5
 v5:=Tryz.zeroValue5
 t9:=Tryz.underlying9
 a9:=Tryz.isAgg9
 z9:=Tryz.sizeOf9
 v9:=Tryz.zeroValue9
 t46:=Tryz.underlying320
 a46:=Tryz.isAgg320
 z46:=Tryz.sizeOf320
 v46:=Tryz.zeroValue320
 t51:=Tryz.underlying359
 a51:=Tryz.isAgg359
 z51:=Tryz.sizeOf359
 v51:=Tryz.zeroValue359
 t146:=Tryz.underlying406
 a146:=Tryz.isAgg406
 z146:=Tryz.sizeOf406
 v146:=Tryz.zeroValue406
 g1:=by kernel_rfl }
open Go.RowKit Go.Lib in
theorem Tryz.strings_Index_one (s:ByteArray) (c:UInt8) (w:World) :
 Calls Tryz.prog 257 #[.string s,.string ⟨#[c]⟩] w fun e w'=>e=.returned (.int .i64 (Lib.indexByte s.data.toList c))∧w'=w:=Any.strings_Index_one Tryz.lays143 s c w
def Tryz.lays138_ren:Go.Shelf.Ren:=⟨fun | 138=>256 | 195=>281 | 218=>283 | 143=>257 | 219=>284 | 217=>253 | 225=>296 | 224=>297 | 267=>298 | 266=>280 | 314=>302 | n=>n,fun | 9=>9 | 3=>3 | 4=>4 | 5=>5 | 0=>0 | 46=>320 | 146=>406 | 51=>359 | n=>n,fun | 1=>2 | n=>n⟩
theorem Tryz.lays138:Go.Proofs.Lays.n138 Tryz.prog Tryz.lays138_ren:={
 mixed:=by kernel_rfl
 f138:=Tryz.func256.trans (congrArg some (by kernel_rfl))
 f143:=Tryz.func257.trans (congrArg some (by kernel_rfl))
 f195:=Tryz.func281.trans (congrArg some (by kernel_rfl))
 f217:=Tryz.func253.trans (congrArg some (by kernel_rfl))
 f218:=Tryz.func283.trans (congrArg some (by kernel_rfl))
 f219:=Tryz.func284.trans (congrArg some (by kernel_rfl))
 f224:=Tryz.func297.trans (congrArg some (by kernel_rfl))
 f225:=Tryz.func296.trans (congrArg some (by kernel_rfl))
 f266:=Tryz.func280.trans (congrArg some (by kernel_rfl))
 f267:=Tryz.func298.trans (congrArg some (by kernel_rfl))
 f314:=Tryz.func302.trans (congrArg some (by kernel_rfl))
 t0:=Tryz.underlying0
 a0:=Tryz.isAgg0
 z0:=Tryz.sizeOf0
 v0:=Tryz.zeroValue0
 t3:=Tryz.underlying3
 a3:=Tryz.isAgg3
 z3:=Tryz.sizeOf3
 v3:=Tryz.zeroValue3
 t4:=Tryz.underlying4
 a4:=Tryz.isAgg4
 z4:=Tryz.sizeOf4
 v4:=Tryz.zeroValue4
 t5:=Tryz.underlying5
 a5:=Tryz.isAgg5
 z5:=Tryz.sizeOf5
 v5:=Tryz.zeroValue5
 t9:=Tryz.underlying9
 a9:=Tryz.isAgg9
 z9:=Tryz.sizeOf9
 v9:=Tryz.zeroValue9
 t46:=Tryz.underlying320
 a46:=Tryz.isAgg320
 z46:=Tryz.sizeOf320
 v46:=Tryz.zeroValue320
 t51:=Tryz.underlying359
 a51:=Tryz.isAgg359
 z51:=Tryz.sizeOf359
 v51:=Tryz.zeroValue359
 t146:=Tryz.underlying406
 a146:=Tryz.isAgg406
 z146:=Tryz.sizeOf406
 v146:=Tryz.zeroValue406
 g1:=by kernel_rfl }
open Go.RowKit Go.Lib in
theorem Tryz.strings_Count_one (s:ByteArray) (c:UInt8) (w:World) :
 Calls Tryz.prog 256 #[.string s,.string ⟨#[c]⟩] w fun e w'=>e=.returned (.int .i64 (Lib.countByte s.data.toList c))∧w'=w:=Any.strings_Count_one Tryz.lays138 s c w
end Go.Proofs

/-
The rules of the interpreter and the facts of this program, laid into one set.
-/
namespace Go.Sim
open Go Go.Proofs
attribute [go_sem ↓] W_seq W_block W_region W_draw draw_nil draw_data draw_load draw_read draw_fresh draw_writeAt draw_write draw_guard
attribute [go_sem ↓] okO_false W_skip W_cond W_ret W_exit next_nrm next_ret next_ext shut_nrm shut_ret shut_ext branch_true
attribute [go_sem ↓] branch_false WO_some VO_some AO_some OO_some aops_op aops_guard dstG_some aops_nil op_move op_assign op_pick
attribute [go_sem ↓] pickO_true pickO_false op_alloc op_box op_load op_store op_bin op_un op_conv op_build op_buildSlice op_makeFunc
attribute [go_sem ↓] op_makeMap op_fieldAddr op_field op_indexAddr op_index op_range op_next op_lookup op_mapUpdate op_extract op_len op_append
attribute [go_sem ↓] op_callF op_callT fnO_fn fnO_yld op_slice op_max2 op_min2 op_max3 guardO_tt guardO_tf guardO_ff guardO_ft
attribute [go_sem ↓] guardO_undef
attribute [go_sem] clashes_nil clashes_none clashes_some acc_load acc_read acc_store acc_fresh acc_mapUpdate accM_map acc_append accS_tok accS_nil
attribute [go_sem] accS_exact accS_rs accP_rd accP_wr accP_pptr record_some record_none apart_rw apart_wr apart_aw apart_wa List.any_cons
attribute [go_sem] List.any_nil List.contains_cons List.contains_nil Bool.not_eq_true' backH_zero backH_s below_load below_callF below_len below_lookup belowL_nil belowL_cons
attribute [go_sem] belowO under_int under_bool under_str under_unk under_nil under_exact under_agg under_map under_ptr under_fn underAll_nil
attribute [go_sem] underAll_cons blt_dec pure_int pure_bool pure_str pure_unk pure_nil abuildSlice rowsOf Option.isSome_some afill dstOf
attribute [go_sem] putT_some putT_none frzP litP withPrims_P arange anext evalOpt_none evalOpt_some amax_int amin_int amax3_int
attribute [go_sem] tupO_tup evalO_tmp evalO_int evalO_bool evalO_func evalO_nils evalOs_nil evalOs_cons evalParts_nil evalParts_cons getT_setT Heap.get_set
attribute [go_sem] Heap.get_push hn_set hn_push Nat.lt_add_one Nat.add_zero Nat.zero_add Bool.false_eq_true if_true if_false ite_true ite_false and_true
attribute [go_sem] true_and and_self aload readCells blkCells sub? loadV alen abin aun_not kcode ibin
attribute [go_sem] ltI_iff eqI_iff List.length_cons List.length_nil List.drop_succ_cons List.drop_zero List.drop_nil List.take_succ_cons List.take_zero List.take_nil List.getElem?_cons_zero List.getElem?_cons_succ
attribute [go_sem] afield aindexAddr aindex part? natOf_cast natOf_0 natOf_1 decide_true decide_false AV.cells AV.one List.all_cons
attribute [go_sem] List.all_nil Bool.and_true Bool.true_and Bool.and_self astore setBlk over List.append_nil List.nil_append List.cons_append List.map_cons List.map_nil
attribute [go_sem] cond_true cond_false Nat.beq_refl not_true_eq_false not_false_eq_true i64 bodyPost shutMarks_nil ar_nil ar_tmp ar_cell empty_n
attribute [go_sem] argsT_nil argsT_cons AV.strip AV.strip0 Cls.chain or_true true_or Bool.not_true Bool.not_false Bool.or_true Bool.or_false Bool.true_or
attribute [go_sem] Bool.false_or Bool.and_false Bool.false_and Int.ofNat_lt cast0 eq_self List.length_map ofVal_v ofVal_H eqs_01 lts_01 eqs_02
attribute [go_sem] lts_02 eqs_03 lts_03 eqs_04 lts_04 eqs_10 eqs_12 lts_12 eqs_13 lts_13 eqs_14 lts_14
attribute [go_sem] eqs_20 eqs_21 eqs_23 lts_23 eqs_24 lts_24 eqs_30 eqs_31 eqs_32 eqs_34 lts_34 self_eq_add
attribute [go_sem] add_eq_self Nat.zero_le Nat.le_refl isIntT_slice rowsIn
attribute [go_sem] sz_26 ag_26 sz_9 ag_9 un_9 sz_28 ag_28 ze_42 sz_42 sz_30 ag_30 ze_45
attribute [go_sem] sz_45 ze_30 ze_28 sz_22 ag_22 un_22 sz_56 ag_56 un_3 un_33 ag_42 ag_45
attribute [go_sem] sz_3 ag_3 el_70 ze_3 un_70 un_63 un_72 un_79 un_80 un_83 un_4 ze_56
attribute [go_sem] bs_45 fp_45_0 fp_45_1 un_95 ze_4 sz_54 ag_54 un_54 sz_97 sz_4 ag_4 un_94
attribute [go_sem] un_98 un_107 un_113 un_114 un_117 sz_128 ag_128 ze_128 el_129 sz_83 ze_83 un_129
attribute [go_sem] ag_83 sz_130 ag_130 ze_130 ze_133 un_131 sz_5 ag_5 un_5 un_133 sz_135 un_132
attribute [go_sem] sz_137 ag_137 un_137 un_138 sz_141 ag_141 ze_141 un_142 ze_156 un_155 sz_132 un_156
attribute [go_sem] sz_157 ag_157 ze_157 bs_157 fp_157_0 fp_157_1 fp_157_2 el_142 by_157 un_163 un_160 ze_40
attribute [go_sem] sz_40 ze_26 ag_40 sz_23 ag_23 un_23 sz_24 ag_24 un_24 bs_42 fp_42_0 fp_42_1
attribute [go_sem] fp_42_2 bs_30 fp_30_0 fp_30_1 fp_30_2 el_163 bs_141 fp_141_0 fp_141_1 fp_141_2 el_138 ze_183
attribute [go_sem] bs_183 fp_183_0 fp_183_1 ze_185 bs_185 fp_185_0 fp_185_1 el_72 sz_185 bs_130 fp_130_0 fp_130_1
attribute [go_sem] fp_130_2 fp_130_3 fp_130_4 fp_130_5 el_83 ze_188 bs_188 fp_188_0 fp_188_1 fp_188_2 el_117 sz_188
attribute [go_sem] bs_128 fp_128_0 fp_128_1 fp_128_2 fp_128_3 fp_128_4 fp_128_5 el_79 sz_191 ag_191 ze_191 sz_193
attribute [go_sem] ag_193 ze_193 ze_196 sz_196 ag_196 bs_196 fp_196_0 fp_196_1 ag_97 ze_97 sz_194 ag_194
attribute [go_sem] el_194 sz_200 ze_200 un_194 by_200 sz_36 ag_36 el_36 un_36 by_196 sz_37 ag_37
attribute [go_sem] el_37 sz_201 ze_201 un_37 by_201 sz_38 ag_38 el_38 sz_202 ze_202 un_38 by_202
attribute [go_sem] bs_28 fp_28_0 fp_28_1 el_234 sz_33 ze_33 un_234 el_314 un_314 un_216 sz_220 ag_220
attribute [go_sem] ze_220 el_218 sz_183 un_218 by_183 ag_183 sz_224 ze_224 bs_224 fp_224_0 fp_224_1 el_63
attribute [go_sem] by_224 ag_202 by_185 ag_185 ag_224 by_130 ag_200 el_98 by_42 by_128 ze_137 el_107
attribute [go_sem] by_137 sz_79 ag_79 ag_135 ze_135 by_188 ag_188 ze_246 sz_246 sz_142 ag_142 un_254
attribute [go_sem] un_252 sz_138 ag_138 by_141 ag_201 un_259 ze_262 bs_262 fp_262_0 fp_262_1 el_258 sz_262
attribute [go_sem] un_258 by_262 by_30 el_160 ze_9 by_9 ze_272 sz_281 ag_281 un_281 bs_40 fp_40_0
attribute [go_sem] fp_40_1 fp_40_2 ze_291 bs_291 fp_291_0 fp_291_1 un_293 sz_296 sz_294 ag_294 sz_160 ag_160
attribute [go_sem] bs_56 fp_56_0 fp_56_1 el_54 by_97 el_22 by_56 el_23 by_191 el_24 by_193 bs_200
attribute [go_sem] fp_200_0 fp_200_1 fp_200_2 bs_201 fp_201_0 fp_201_1 fp_201_2 fp_201_3 fp_201_4 bs_202 fp_202_0 fp_202_1
attribute [go_sem] fp_202_2 fp_202_3 un_310 ag_33 bs_220 fp_220_0 fp_220_1 el_216 ze_259 sz_259 un_316 by_220
attribute [go_sem] un_320 by_3 by_33 bs_246 fp_246_0 fp_246_1 ag_259 ze_334 un_334 ag_246 el_252 ze_138
attribute [go_sem] by_138 el_254 by_4 ag_262 sz_270 ag_270 un_270 el_270 by_5 ze_5 ag_296 ze_296
attribute [go_sem] bs_296 fp_296_0 fp_296_1 fp_296_2 el_293 bs_97 fp_97_0 fp_97_1 fp_97_2 bs_191 fp_191_0 fp_191_1
attribute [go_sem] fp_191_2 fp_191_3 fp_191_4 bs_193 fp_193_0 fp_193_1 fp_193_2 fp_193_3 un_21 ze_316 sz_316 ag_316
attribute [go_sem] un_359 un_361 fa_28_0 fb_28_0 fa_30_0 fb_30_0 fa_26_0 fb_26_0 fa_62_1 fb_62_1 fa_62_0 fb_62_0
attribute [go_sem] fa_56_0 fb_56_0 fa_42_0 fb_42_0 fa_42_1 fb_42_1 fa_56_1 fb_56_1 fa_42_2 fb_42_2 fa_97_2 fb_97_2
attribute [go_sem] fa_97_1 fb_97_1 fa_128_2 fb_128_2 fa_128_0 fb_128_0 fa_128_1 fb_128_1 fa_45_0 fb_45_0 fa_128_3 fb_128_3
attribute [go_sem] fa_45_1 fb_45_1 fa_128_4 fb_128_4 fa_130_2 fb_130_2 fa_130_0 fb_130_0 fa_130_1 fb_130_1 fa_135_0 fb_135_0
attribute [go_sem] fa_135_1 fb_135_1 fa_141_0 fb_141_0 fa_157_0 fb_157_0 fa_157_2 fb_157_2 fa_157_1 fb_157_1 fa_26_1 fb_26_1
attribute [go_sem] fa_26_2 fb_26_2 fa_191_0 fb_191_0 fa_191_1 fb_191_1 fa_191_3 fb_191_3 fa_193_0 fb_193_0 fa_193_1 fb_193_1
attribute [go_sem] fa_193_2 fb_193_2 fa_196_1 fb_196_1 fa_40_0 fb_40_0 fa_40_1 fb_40_1 fa_40_2 fb_40_2 fa_28_1 fb_28_1
attribute [go_sem] fa_30_1 fb_30_1 fa_30_2 fb_30_2 fa_97_0 fb_97_0 fa_220_1 fb_220_1 fa_220_0 fb_220_0 fa_196_0 fb_196_0
attribute [go_sem] fa_183_0 fb_183_0 fa_224_1 fb_224_1 fa_183_1 fb_183_1 fa_202_1 fb_202_1 fa_202_2 fb_202_2 fa_202_3 fb_202_3
attribute [go_sem] fa_202_0 fb_202_0 fa_185_1 fb_185_1 fa_193_3 fb_193_3 fa_128_5 fb_128_5 fa_135_2 fb_135_2 fa_188_1 fb_188_1
attribute [go_sem] fa_188_2 fb_188_2 fa_188_0 fb_188_0 fa_246_0 fb_246_0 fa_246_1 fb_246_1 fa_141_1 fb_141_1 fa_141_2 fb_141_2
attribute [go_sem] fa_224_0 fb_224_0 fa_200_0 fb_200_0 fa_200_1 fb_200_1 fa_200_2 fb_200_2 fa_201_0 fb_201_0 fa_201_1 fb_201_1
attribute [go_sem] fa_201_2 fb_201_2 fa_201_3 fb_201_3 fa_201_4 fb_201_4 fa_296_1 fb_296_1 fa_296_2 fb_296_2 fa_291_1 fb_291_1
attribute [go_sem] fa_291_0 fb_291_0 fa_191_2 fb_191_2 fa_191_4 fb_191_4 fa_130_3 fb_130_3 fa_130_4 fb_130_4 fa_130_5 fb_130_5
attribute [go_sem] fa_262_1 fb_262_1 fa_262_0 fb_262_0 fa_272_1 fb_272_1 fa_296_0 fb_296_0
attribute [go_sem] pl_15_13 pl_29_4
attribute [go_sem] pl_87_13 pl_87_19 pl_87_24 pl_88_11 pl_88_12 pl_88_16 pl_88_20
attribute [go_sem] pl_91_6 pl_91_11 pl_91_16 pl_91_21 pl_100_2 pl_101_8 pl_102_2 pl_103_2 pl_104_8 pl_104_10
attribute [go_sem] pl_105_8 pl_105_10 pl_110_8 pl_112_9 pl_113_8 pl_126_4
attribute [go_sem] pl_134_1 pl_134_2
attribute [go_sem] pl_179_1 pl_180_1 pl_183_1
attribute [go_sem] pl_212_4 pl_217_6 pl_217_7 pl_220_5 pl_221_5 pl_226_1 rf_19
attribute [go_sem] rf_92 rf_93
attribute [go_sem] rf_159 rf_181
attribute [go_sem] rf_217 rf_220 rf_221
end Go.Sim

/-
Contracts of the functions that call no others.
-/
namespace Go.Sim
open Go Go.Proofs
set_option maxRecDepth 100000
set_option maxHeartbeats 1000000
/-! ### when, When -/
theorem c121 (b:Bool) (e:Int):∀ lo H,CallOk NC lo 121 [.bool b,i64 e] H (i64 (whenI b e)) H:=by
 refine contract saneNC primsOk_none (fn:=Tryz.f121) (by kernel_rfl) Tryz.func121 rfl rfl (by rfl) (by rfl) ?_
 cases b<;>simp only [go_sem,reduceIte,reduceEqDiff,reduceAdd,reduceMul,reduceSub,reduceLeDiff,reduceLT,Nat.reduceBEq,reduceCtorEq]<;>simp [whenI]
theorem c48 (b:Bool) (e:Int):∀ lo H,CallOk NC lo 48 [.bool b,i64 e] H (i64 (whenI b e)) H:=by
 refine contract saneNC primsOk_none (fn:=Tryz.f48) (by kernel_rfl) Tryz.func48 rfl rfl (by rfl) (by rfl) ?_
 cases b<;>simp only [go_sem,reduceIte,reduceEqDiff,reduceAdd,reduceMul,reduceSub,reduceLeDiff,reduceLT,Nat.reduceBEq,reduceCtorEq]<;>simp [whenI]
def stepI (b:Bool):Int:=if b then -1 else 1
theorem c178 (p:Pc):∀ lo H,CallOk NC lo 178 [.agg p.row] H (i64 (stepI p.back)) H:=by
 refine contract saneNC primsOk_none (fn:=Tryz.f178) (by kernel_rfl) Tryz.func178 rfl rfl (by rfl) (by rfl) ?_
 obtain ⟨l,q,b⟩:=p
 cases b<;>simp only [go_sem,reduceIte,reduceEqDiff,reduceAdd,reduceMul,reduceSub,reduceLeDiff,reduceLT,Nat.reduceBEq,reduceCtorEq,Pc.row]<;>simp [stepI]
def shortB (s:List Nat):Bool:=!decide ((40:Int) < (s.length:Int))
theorem c97 (s:List Nat):∀ lo H,CallOk NC lo 97 [.str s] H (.bool (shortB s)) H:=by
 refine contract saneNC primsOk_none (fn:=Tryz.f97) (by kernel_rfl) Tryz.func97 rfl rfl (by rfl) (by rfl) ?_
 simp only [go_sem,reduceIte,reduceEqDiff,reduceAdd,reduceMul,reduceSub,reduceLeDiff,reduceLT,Nat.reduceBEq,reduceCtorEq]
 rfl
def postI (p:Pc) (i:Int):Int:=if p.back then wrapq .i64 (p.post - i) else wrapq .i64 (p.post+i)
theorem c109 (p:Pc) (i:Int):∀ lo H,CallOk NC lo 109 [.agg p.row,i64 i] H (i64 (postI p i)) H:=by
 refine contract saneNC primsOk_none (fn:=Tryz.f109) (by kernel_rfl) Tryz.func109 rfl rfl (by rfl) (by rfl) ?_
 obtain ⟨l,q,b⟩:=p
 cases b<;>simp only [go_sem,reduceIte,reduceEqDiff,reduceAdd,reduceMul,reduceSub,reduceLeDiff,reduceLT,Nat.reduceBEq,reduceCtorEq,Pc.row]<;>simp [postI]<;>rfl
/-! ### First, first -/
def intRows (es:List Int):List (List AV):=es.map fun e=>[i64 e]
theorem intRows_at {es:List Int} {k:Nat} {e:Int} (h:es[k]? = some e):(intRows es)[k]? = some [i64 e]:=by simp [intRows,h]
theorem intRows_len (es:List Int):(intRows es).length=es.length:=by simp [intRows]
theorem firstI_drop {es:List Int} {k:Nat} {e:Int} (h:es[k]? = some e):firstI (es.drop k)=if e=0 then firstI (es.drop (k+1)) else e:=by
 have hlt:=(List.getElem?_eq_some_iff.1 h).1
 have:es.drop k=e::es.drop (k+1):=by
  rw [List.drop_eq_getElem_cons hlt]
  rw [(List.getElem?_eq_some_iff.1 h).2]
 rw [this];rfl
theorem c34 (es:List Int) (hl:es.length≤maxRows):∀ lo H,CallOk NC lo 34 [.ps .unk (intRows es)] H (i64 (firstI es)) H:=by
 refine contract saneNC primsOk_none (fn:=Tryz.f34) (by kernel_rfl) Tryz.func34 rfl rfl (by rfl) (by rfl) ?_
 simp only [go_sem,reduceIte,reduceEqDiff,reduceAdd,reduceMul,reduceSub,reduceLeDiff,reduceLT,Nat.reduceBEq,reduceCtorEq]
 refine W_for (fun k T H M=>M=[]∧getT T 0=.ps .unk (intRows es)∧getT T 3=i64 k∧firstI es=firstI (es.drop k)) es.length ?_ ?_ ?_
 · simp only [go_sem,reduceIte,reduceEqDiff,reduceAdd,reduceMul,reduceSub,reduceLeDiff,reduceLT,Nat.reduceBEq,reduceCtorEq,List.drop_zero]
 · rintro k T H M hk ⟨rfl,h0,h3,hf⟩
   obtain ⟨e,he⟩:∃ e,es[k]? = some e:=⟨es[k],by simp⟩
   have hr:=intRows_at he
   have hw:=wrap_succ hk hl
   have hfd:=firstI_drop he
   by_cases hz:e=0
   · simp only [go_sem,reduceIte,reduceEqDiff,reduceAdd,reduceMul,reduceSub,reduceLeDiff,reduceLT,Nat.reduceBEq,reduceCtorEq,h0,h3,hr,intRows_len,Int.ofNat_lt,hk,hw,hz]
     simp [hf,hfd,hz]
   · simp only [go_sem,reduceIte,reduceEqDiff,reduceAdd,reduceMul,reduceSub,reduceLeDiff,reduceLT,Nat.reduceBEq,reduceCtorEq,h0,h3,hr,intRows_len,Int.ofNat_lt,hk,hw,hz]
     simp [hf,hfd,hz]
 · rintro T H M ⟨rfl,h0,h3,hf⟩
   simp only [go_sem,reduceIte,reduceEqDiff,reduceAdd,reduceMul,reduceSub,reduceLeDiff,reduceLT,Nat.reduceBEq,reduceCtorEq,h0,h3,intRows_len,Int.ofNat_lt,Nat.lt_irrefl]
   simp [hf,firstI]
theorem c111 (es:List Int) (hl:es.length≤maxRows):∀ lo H,CallOk NC lo 111 [.ps .unk (intRows es)] H (i64 (firstI es)) H:=by
 refine contract saneNC primsOk_none (fn:=Tryz.f111) (by kernel_rfl) Tryz.func111 rfl rfl (by rfl) (by rfl) ?_
 simp only [go_sem,reduceIte,reduceEqDiff,reduceAdd,reduceMul,reduceSub,reduceLeDiff,reduceLT,Nat.reduceBEq,reduceCtorEq]
 refine W_for (fun k T H M=>M=[]∧getT T 5=.ps .unk (intRows es)∧getT T 6=i64 (es.length:Nat)∧getT T 7=i64 k∧firstI es=firstI (es.drop k)) es.length ?_ ?_ ?_
 · simp only [go_sem,reduceIte,reduceEqDiff,reduceAdd,reduceMul,reduceSub,reduceLeDiff,reduceLT,Nat.reduceBEq,reduceCtorEq,intRows_len,List.drop_zero]
 · rintro k T H M hk ⟨rfl,h0,h1,h3,hf⟩
   obtain ⟨e,he⟩:∃ e,es[k]? = some e:=⟨es[k],by simp⟩
   have hr:=intRows_at he
   have hw:=wrap_succ hk hl
   have hfd:=firstI_drop he
   by_cases hz:e=0
   · simp only [go_sem,reduceIte,reduceEqDiff,reduceAdd,reduceMul,reduceSub,reduceLeDiff,reduceLT,Nat.reduceBEq,reduceCtorEq,h0,h1,h3,hr,intRows_len,hk,hw,hz]
     simp [hf,hfd,hz]
   · simp only [go_sem,reduceIte,reduceEqDiff,reduceAdd,reduceMul,reduceSub,reduceLeDiff,reduceLT,Nat.reduceBEq,reduceCtorEq,h0,h1,h3,hr,intRows_len,hk,hw,hz]
     simp [hf,hfd,hz]
 · rintro T H M ⟨rfl,h0,h1,h3,hf⟩
   simp only [go_sem,reduceIte,reduceEqDiff,reduceAdd,reduceMul,reduceSub,reduceLeDiff,reduceLT,Nat.reduceBEq,reduceCtorEq,h0,h1,h3,intRows_len,Nat.lt_irrefl]
   simp [hf,firstI]
/-! ### Metres, begin, FindLine -/
def sumW:List Pc→Int→Int
 | [],s=>s
 | p::r,s=>sumW r (wrapq .i64 (Int.add s p.len))
theorem drop_at {α:Type} {l:List α} {k:Nat} {x:α} (h:l[k]? = some x):l.drop k=x::l.drop (k+1):=by
 have hlt:=(List.getElem?_eq_some_iff.1 h).1
 rw [List.drop_eq_getElem_cons hlt,(List.getElem?_eq_some_iff.1 h).2]
theorem map_at {α β:Type} {f:α→β} {l:List α} {k:Nat} {x:α} (h:l[k]? = some x):(l.map f)[k]? = some (f x):=by simp [h]
theorem c26 (l:Ln) (hl:l.ps.length≤maxRows):∀ lo H,CallOk NC lo 26 [.agg l.row] H (i64 (sumW l.ps 0)) H:=by
 refine contract saneNC primsOk_none (fn:=Tryz.f26) (by kernel_rfl) Tryz.func26 rfl rfl (by rfl) (by rfl) ?_
 simp only [go_sem,reduceIte,reduceEqDiff,reduceAdd,reduceMul,reduceSub,reduceLeDiff,reduceLT,Nat.reduceBEq,reduceCtorEq,Ln.row]
 refine W_for (fun k T H M=>M=[]∧getT T 1=.ptr 0 0∧H.get 0=.cells [.str l.name,.ps .unk (l.ps.map Pc.row)] 56∧getT T 4=i64 k ∧ ∃ s,getT T 3=i64 s∧sumW l.ps 0=sumW (l.ps.drop k) s) l.ps.length ?_ ?_ ?_
 · simp only [go_sem,reduceIte,reduceEqDiff,reduceAdd,reduceMul,reduceSub,reduceLeDiff,reduceLT,Nat.reduceBEq,reduceCtorEq];exact ⟨0,rfl,rfl⟩
 · rintro k T H M hk ⟨rfl,h1,hH,h4,s,h3,hs⟩
   obtain ⟨p,hp⟩:∃ p,l.ps[k]? = some p:=⟨l.ps[k],by simp⟩
   have hr:=map_at (f:=Pc.row) hp
   have hw:=wrap_succ hk hl
   rw [drop_at hp] at hs
   simp only [go_sem,reduceIte,reduceEqDiff,reduceAdd,reduceMul,reduceSub,reduceLeDiff,reduceLT,Nat.reduceBEq,reduceCtorEq,h1,hH,h3,h4,List.length_map,hk,hr,hw,Pc.row]
   exact ⟨_,rfl,hs⟩
 · rintro T H M ⟨rfl,h1,hH,h4,s,h3,hs⟩
   simp only [go_sem,reduceIte,reduceEqDiff,reduceAdd,reduceMul,reduceSub,reduceLeDiff,reduceLT,Nat.reduceBEq,reduceCtorEq,h1,hH,h3,h4,List.length_map,Nat.lt_irrefl]
   simp [hs,sumW]
theorem c108 (l:Ln) (n:Nat) (hn:n≤l.ps.length) (hl:l.ps.length≤maxRows):∀ lo H,CallOk NC lo 108 [.agg l.row,i64 n] H (i64 (sumW (l.ps.take n) 0)) H:=by
 refine contract saneNC primsOk_none (fn:=Tryz.f108) (by kernel_rfl) Tryz.func108 rfl rfl (by rfl) (by rfl) ?_
 simp only [go_sem,reduceIte,reduceEqDiff,reduceAdd,reduceMul,reduceSub,reduceLeDiff,reduceLT,Nat.reduceBEq,reduceCtorEq,Ln.row]
 refine W_for (fun k T H M=>M=[]∧getT T 2=.ptr 0 0∧H.get 0=.cells [.str l.name,.ps .unk (l.ps.map Pc.row)] 56∧getT T 1=i64 n∧getT T 6=i64 k ∧ ∃ s,getT T 5=i64 s∧sumW (l.ps.take n) 0=sumW ((l.ps.take n).drop k) s) n ?_ ?_ ?_
 · simp only [go_sem,reduceIte,reduceEqDiff,reduceAdd,reduceMul,reduceSub,reduceLeDiff,reduceLT,Nat.reduceBEq,reduceCtorEq];exact ⟨0,rfl,rfl⟩
 · rintro k T H M hk ⟨rfl,h2,hH,h1,h6,s,h5,hs⟩
   obtain ⟨p,hp⟩:∃ p,l.ps[k]? = some p:=⟨l.ps[k]'(by omega),by simp⟩
   have hr:=map_at (f:=Pc.row) hp
   have hlt:k < l.ps.length:=by omega
   have hw:=wrap_succ hlt hl
   have hp':(l.ps.take n)[k]? = some p:=by rw [List.getElem?_take_of_lt hk];exact hp
   rw [drop_at hp'] at hs
   simp only [go_sem,reduceIte,reduceEqDiff,reduceAdd,reduceMul,reduceSub,reduceLeDiff,reduceLT,Nat.reduceBEq,reduceCtorEq,h1,h2,hH,h5,h6,List.length_map,hk,hlt,hr,hw,Pc.row]
   exact ⟨_,rfl,hs⟩
 · rintro T H M ⟨rfl,h2,hH,h1,h6,s,h5,hs⟩
   simp only [go_sem,reduceIte,reduceEqDiff,reduceAdd,reduceMul,reduceSub,reduceLeDiff,reduceLT,Nat.reduceBEq,reduceCtorEq,h1,h2,hH,h5,h6,List.length_map,Nat.lt_irrefl]
   simp [hs,sumW,List.drop_eq_nil_of_le]
def findL (ls:List Ln) (s:List Nat):Option Nat:=ls.findIdx? fun l=>beqL l.name s
def findI (ls:List Ln) (s:List Nat):Int:=match findL ls s with
 | some i=>(i:Int)
 | none=>-1
theorem findL_drop {ls:List Ln} {s:List Nat} {k:Nat} (h:∀ j l,j < k→ls[j]? = some l→beqL l.name s=false) {l:Ln} (hk:ls[k]? = some l) (hb:beqL l.name s=true):findL ls s=some k:=by
 unfold findL
 rw [List.findIdx?_eq_some_iff_getElem]
 obtain ⟨hlt,he⟩:=List.getElem?_eq_some_iff.1 hk
 refine ⟨hlt,by rw [he];exact hb,fun j hj => ?_⟩
 have:=h j (ls[j]'(by omega)) hj (by simp)
 rw [this];simp
theorem findL_none {ls:List Ln} {s:List Nat} (h:∀ j l,j < ls.length→ls[j]? = some l→beqL l.name s=false):findL ls s=none:=by
 unfold findL
 rw [List.findIdx?_eq_none_iff]
 intro l hl
 obtain ⟨j,hj⟩:=List.mem_iff_getElem?.1 hl
 exact h j l (List.getElem?_eq_some_iff.1 hj).1 hj
theorem c27 (n:Net) (s:List Nat) (hl:n.lines.length≤maxRows):∀ lo H,CallOk NC lo 27 [.agg n.cells,.str s] H (i64 (findI n.lines s)) H:=by
 refine contract saneNC primsOk_none (fn:=Tryz.f27) (by kernel_rfl) Tryz.func27 rfl rfl (by rfl) (by rfl) ?_
 simp only [go_sem,reduceIte,reduceEqDiff,reduceAdd,reduceMul,reduceSub,reduceLeDiff,reduceLT,Nat.reduceBEq,reduceCtorEq,Net.cells]
 refine W_for (fun k T H M=>M=[]∧getT T 2=.ptr 0 0∧H.get 0=.cells n.cells 26∧getT T 1=.str s∧getT T 5=i64 k ∧ ∀ j l,j < k→n.lines[j]? = some l→beqL l.name s=false) n.lines.length ?_ ?_ ?_
 · simp only [go_sem,reduceIte,reduceEqDiff,reduceAdd,reduceMul,reduceSub,reduceLeDiff,reduceLT,Nat.reduceBEq,reduceCtorEq];exact ⟨rfl,fun j l hj=>by omega⟩
 · rintro k T H M hk ⟨rfl,h2,hH,h1,h5,hf⟩
   obtain ⟨l,hp⟩:∃ p,n.lines[k]? = some p:=⟨n.lines[k],by simp⟩
   have hr:=map_at (f:=Ln.row) hp
   have hw:=wrap_succ hk hl
   cases hb:beqL l.name s with
   | true =>
     simp only [go_sem,reduceIte,reduceEqDiff,reduceAdd,reduceMul,reduceSub,reduceLeDiff,reduceLT,Nat.reduceBEq,reduceCtorEq,h1,h2,hH,h5,List.length_map,hk,hr,hw,Ln.row,Net.cells,hb]
     simp [findI,findL_drop hf hp hb]
   | false =>
     simp only [go_sem,reduceIte,reduceEqDiff,reduceAdd,reduceMul,reduceSub,reduceLeDiff,reduceLT,Nat.reduceBEq,reduceCtorEq,h1,h2,hH,h5,List.length_map,hk,hr,hw,Ln.row,Net.cells,hb]
     intro j l' hj hl'
     by_cases e:j=k
     · subst e;rw [hp] at hl';cases hl';exact hb
     · exact hf j l' (by omega) hl'
 · rintro T H M ⟨rfl,h2,hH,h1,h5,hf⟩
   simp only [go_sem,reduceIte,reduceEqDiff,reduceAdd,reduceMul,reduceSub,reduceLeDiff,reduceLT,Nat.reduceBEq,reduceCtorEq,h1,h2,hH,h5,List.length_map,Net.cells,Nat.lt_irrefl]
   simp [findI,findL_none hf]
end Go.Sim

/-
Names: what is one, by the program and by the reference.
-/
namespace Go.Sim
open Go Go.Proofs
set_option maxRecDepth 100000
set_option maxHeartbeats 1000000
def letB (x:Int):Bool:=!decide (x < 65) && !decide (90 < x) || !decide (x < 97) && !decide (122 < x)
def digB (x:Int):Bool:=!decide (x < 48) && !decide (57 < x)
theorem c189 (x:Int):∀ lo H,CallOk NC lo 189 [.int .u8 x] H (.bool (letB x)) H:=by
 refine contract saneNC primsOk_none (fn:=Tryz.f189) (by kernel_rfl) Tryz.func189 rfl rfl (by rfl) (by rfl) ?_
 by_cases h1:x < 65<;>by_cases h2:90 < x<;>by_cases h3:x < 97<;>by_cases h4:122 < x<;>simp only [go_sem,reduceIte,reduceEqDiff,reduceAdd,reduceMul,reduceSub,reduceLeDiff,reduceLT,Nat.reduceBEq,reduceCtorEq,h1,h2,h3,h4]<;>simp [letB,h1,h2,h3,h4]
theorem c190 (x:Int):∀ lo H,CallOk NC lo 190 [.int .u8 x] H (.bool (digB x)) H:=by
 refine contract saneNC primsOk_none (fn:=Tryz.f190) (by kernel_rfl) Tryz.func190 rfl rfl (by rfl) (by rfl) ?_
 by_cases h1:x < 48<;>by_cases h2:57 < x<;>simp only [go_sem,reduceIte,reduceEqDiff,reduceAdd,reduceMul,reduceSub,reduceLeDiff,reduceLT,Nat.reduceBEq,reduceCtorEq,h1,h2]<;>simp [digB,h1,h2]
theorem c227 (x:Int):∀ lo H,CallOk NC lo 227 [.int .i32 x] H (.bool (letB x)) H:=by
 refine contract saneNC primsOk_none (fn:=Tryz.f227) (by kernel_rfl) Tryz.func227 rfl rfl (by rfl) (by rfl) ?_
 by_cases h1:x < 65<;>by_cases h2:90 < x<;>by_cases h3:x < 97<;>by_cases h4:122 < x<;>simp only [go_sem,reduceIte,reduceEqDiff,reduceAdd,reduceMul,reduceSub,reduceLeDiff,reduceLT,Nat.reduceBEq,reduceCtorEq,h1,h2,h3,h4]<;>simp [letB,h1,h2,h3,h4]
theorem c228 (x:Int):∀ lo H,CallOk NC lo 228 [.int .i32 x] H (.bool (digB x)) H:=by
 refine contract saneNC primsOk_none (fn:=Tryz.f228) (by kernel_rfl) Tryz.func228 rfl rfl (by rfl) (by rfl) ?_
 by_cases h1:x < 48<;>by_cases h2:57 < x<;>simp only [go_sem,reduceIte,reduceEqDiff,reduceAdd,reduceMul,reduceSub,reduceLeDiff,reduceLT,Nat.reduceBEq,reduceCtorEq,h1,h2]<;>simp [digB,h1,h2]
noncomputable def p189:List AV→Option AV:=primOf (α:=Int) (fun x=>[.int .u8 x]) (fun _=>True) (fun x=>.bool (letB x))
theorem pok189:∀ args v,p189 args=some v → ∀ lo H,CallOk NC lo 189 args H v H:=by
 intro args v h
 obtain ⟨x,rfl,hp,rfl⟩:=primOf_inv h
 clear h
 revert x
 intro x;exact c189 x
theorem pe189 (x:Int) (hp:(fun _=>True) x):p189 ((fun x=>[.int .u8 x]) x)=some ((fun x=>.bool (letB x)) x):=primOf_enc (by intro x y h;simpa using h) x hp
noncomputable def p190:List AV→Option AV:=primOf (α:=Int) (fun x=>[.int .u8 x]) (fun _=>True) (fun x=>.bool (digB x))
theorem pok190:∀ args v,p190 args=some v → ∀ lo H,CallOk NC lo 190 args H v H:=by
 intro args v h
 obtain ⟨x,rfl,hp,rfl⟩:=primOf_inv h
 clear h
 revert x
 intro x;exact c190 x
theorem pe190 (x:Int) (hp:(fun _=>True) x):p190 ((fun x=>[.int .u8 x]) x)=some ((fun x=>.bool (digB x)) x):=primOf_enc (by intro x y h;simpa using h) x hp
noncomputable def p227:List AV→Option AV:=primOf (α:=Int) (fun x=>[.int .i32 x]) (fun _=>True) (fun x=>.bool (letB x))
theorem pok227:∀ args v,p227 args=some v → ∀ lo H,CallOk NC lo 227 args H v H:=by
 intro args v h
 obtain ⟨x,rfl,hp,rfl⟩:=primOf_inv h
 clear h
 revert x
 intro x;exact c227 x
theorem pe227 (x:Int) (hp:(fun _=>True) x):p227 ((fun x=>[.int .i32 x]) x)=some ((fun x=>.bool (letB x)) x):=primOf_enc (by intro x y h;simpa using h) x hp
noncomputable def p228:List AV→Option AV:=primOf (α:=Int) (fun x=>[.int .i32 x]) (fun _=>True) (fun x=>.bool (digB x))
theorem pok228:∀ args v,p228 args=some v → ∀ lo H,CallOk NC lo 228 args H v H:=by
 intro args v h
 obtain ⟨x,rfl,hp,rfl⟩:=primOf_inv h
 clear h
 revert x
 intro x;exact c228 x
theorem pe228 (x:Int) (hp:(fun _=>True) x):p228 ((fun x=>[.int .i32 x]) x)=some ((fun x=>.bool (digB x)) x):=primOf_enc (by intro x y h;simpa using h) x hp
theorem e189 (x:Int):p189 [.int .u8 x]=some (.bool (letB x)):=pe189 x trivial
theorem e190 (x:Int):p190 [.int .u8 x]=some (.bool (digB x)):=pe190 x trivial
theorem e227 (x:Int):p227 [.int .i32 x]=some (.bool (letB x)):=pe227 x trivial
theorem e228 (x:Int):p228 [.int .i32 x]=some (.bool (digB x)):=pe228 x trivial
noncomputable def PPA:FuncId→Option (List AV→Option AV):=addPrim 228 p228 (addPrim 227 p227 (addPrim 190 p190 (addPrim 189 p189 (fun _=>none))))
theorem primsA:PrimsOk NC PPA:=primsOk_add (primsOk_add (primsOk_add (primsOk_add (primsOk_none) (by kernel_rfl) (by kernel_rfl) pok189) (by kernel_rfl) (by kernel_rfl) pok190) (by kernel_rfl) (by kernel_rfl) pok227) (by kernel_rfl) (by kernel_rfl) pok228
/-- A function is known by a contract. -/
abbrev En (P:FuncId→Option (List AV→Option AV)) (f:FuncId) (p:List AV→Option AV):Prop:=∀ {rec:Rec} {lo:Nat} {args:List AV} {H:Heap} {K:AV→Heap→Prop},VO (aenter (NC.withPrims P) rec lo f args H) K=AO (p args) fun v=>K v H
theorem enA_189:En PPA 189 p189:=enter_prim (by rfl) (by kernel_rfl)
theorem enA_190:En PPA 190 p190:=enter_prim (by rfl) (by kernel_rfl)
theorem enA_227:En PPA 227 p227:=enter_prim (by rfl) (by kernel_rfl)
theorem enA_228:En PPA 228 p228:=enter_prim (by rfl) (by kernel_rfl)
attribute [go_sem ↓] enA_189 enA_190 enA_227 enA_228
def restB (x:Int):Bool:=letB x || digB x || decide (x=95)
def nameB:List Nat→Bool
 | []=>false
 | c::r=>decide ((c::r).length≤24) && letB c && r.all fun x=>restB x
theorem nameB_at {s:List Nat} (h0:s ≠ []) (h1:s.length≤24) (h2:∀ c:Nat,s[0]? = some c→letB c=true) (h3:∀ (i c:Nat),1≤i→s[i]? = some c→restB c=true):nameB s=true:=by
 cases s with
 | nil=>exact absurd rfl h0
 | cons c r =>
   unfold nameB
   simp only [Bool.and_eq_true,decide_eq_true_eq,List.all_eq_true]
   refine ⟨⟨h1,h2 c rfl⟩,fun x hx => ?_⟩
   obtain ⟨i,hi⟩:=List.mem_iff_getElem?.1 hx
   exact h3 (i+1) x (by omega) (by simpa using hi)
theorem nameB_not0 {s:List Nat} {c:Nat} (h:s[0]? = some c) (hl:letB c=false):nameB s=false:=by
 cases s with
 | nil=>simp at h
 | cons d r=>simp at h;subst h;simp [nameB,hl]
theorem nameB_not {s:List Nat} {i c:Nat} (hi:1≤i) (h:s[i]? = some c) (hl:restB c=false):nameB s=false:=by
 cases s with
 | nil=>simp at h
 | cons d r =>
   unfold nameB
   have:(r.all fun x=>restB x)=false:=by
    rw [List.all_eq_false]
    refine ⟨c, ?_,by simp [hl]⟩
    obtain ⟨j,rfl⟩:∃ j,i=j+1:=⟨i - 1,by omega⟩
    exact List.mem_of_getElem? (by simpa using h)
   simp [this]
theorem c122 (s:List Nat):∀ lo H,CallOk NC lo 122 [.str s] H (.bool (nameB s)) H:=by
 refine contract saneNC primsA (fn:=Tryz.f122) (by kernel_rfl) Tryz.func122 rfl rfl (by rfl) (by rfl) ?_
 by_cases h0:s.length=0
 · have:s=[]:=List.length_eq_zero_iff.1 h0
   subst this
   simp only [go_sem,reduceIte,reduceEqDiff,reduceAdd,reduceMul,reduceSub,reduceLeDiff,reduceLT,Nat.reduceBEq,reduceCtorEq]
   simp [nameB]
 · have h0':¬ ((s.length:Int)=0):=by omega
   by_cases h1:(24:Int) < s.length
   · simp only [go_sem,reduceIte,reduceEqDiff,reduceAdd,reduceMul,reduceSub,reduceLeDiff,reduceLT,Nat.reduceBEq,reduceCtorEq,h0',h1]
     cases s with
     | nil=>simp [nameB]
     | cons c r=>simp [nameB];intro h;simp at h1;omega
   · obtain ⟨c,hc⟩:∃ c,s[0]? = some c:=⟨s[0]'(by omega),by simp⟩
     have hlt:0 < s.length:=by omega
     cases hb:letB c with
     | false =>
       simp only [go_sem,reduceIte,reduceEqDiff,reduceAdd,reduceMul,reduceSub,reduceLeDiff,reduceLT,Nat.reduceBEq,reduceCtorEq,h0',h1,hlt,hc,hb,e189]
       simp [nameB_not0 hc hb]
     | true =>
       simp only [go_sem,reduceIte,reduceEqDiff,reduceAdd,reduceMul,reduceSub,reduceLeDiff,reduceLT,Nat.reduceBEq,reduceCtorEq,h0',h1,hlt,hc,hb,e189]
       refine W_for (fun k T H M=>M=[]∧getT T 0=.str s∧getT T 3=i64 ((k+1:Nat):Int) ∧ ∀ (i c:Nat),1≤i→i < k+1→s[i]? = some c→restB c=true) (s.length - 1) ?_ ?_ ?_
       · simp only [go_sem,reduceIte,reduceEqDiff,reduceAdd,reduceMul,reduceSub,reduceLeDiff,reduceLT,Nat.reduceBEq,reduceCtorEq];exact ⟨rfl,fun i c h1 h2=>by omega⟩
       · rintro k T H M hk ⟨rfl,g0,g3,hf⟩
         have hk':k+1 < s.length:=by omega
         obtain ⟨c',hc'⟩:∃ c,s[k+1]? = some c:=⟨s[k+1],by simp⟩
         have hw:=wrap_succ (k:=k+1) (n:=24) (by omega) (by unfold maxRows;omega)
         by_cases q1:letB c'=true
         · simp only [go_sem,reduceIte,reduceEqDiff,reduceAdd,reduceMul,reduceSub,reduceLeDiff,reduceLT,Nat.reduceBEq,reduceCtorEq,g0,g3,hk',hc',hw,e189,q1]
           intro i d hi hj hd
           by_cases e:i=k+1
           · subst e;rw [hc'] at hd;cases hd;simp [restB,q1]
           · exact hf i d hi (by omega) hd
         · rw [Bool.not_eq_true] at q1
           by_cases q2:digB c'=true
           · simp only [go_sem,reduceIte,reduceEqDiff,reduceAdd,reduceMul,reduceSub,reduceLeDiff,reduceLT,Nat.reduceBEq,reduceCtorEq,g0,g3,hk',hc',hw,e189,e190,q1,q2]
             intro i d hi hj hd
             by_cases e:i=k+1
             · subst e;rw [hc'] at hd;cases hd;simp [restB,q2]
             · exact hf i d hi (by omega) hd
           · rw [Bool.not_eq_true] at q2
             rcases Classical.propComplete (((c':Nat):Int)=95) with q3 | q3
             · simp only [go_sem,reduceIte,reduceEqDiff,reduceAdd,reduceMul,reduceSub,reduceLeDiff,reduceLT,Nat.reduceBEq,reduceCtorEq,g0,g3,hk',hc',hw,e189,e190,q1,q2,q3]
               intro i d hi hj hd
               by_cases e:i=k+1
               · subst e;rw [hc'] at hd;cases hd;simp [restB,q3]
               · exact hf i d hi (by omega) hd
             · simp only [go_sem,reduceIte,reduceEqDiff,reduceAdd,reduceMul,reduceSub,reduceLeDiff,reduceLT,Nat.reduceBEq,reduceCtorEq,g0,g3,hk',hc',hw,e189,e190,q1,q2,q3]
               simp [nameB_not (by omega) hc' (show restB c'=false by simp [restB,q1,q2,q3])]
       · rintro T H M ⟨rfl,g0,g3,hf⟩
         have hn:¬ (s.length - 1+1 < s.length):=by omega
         simp only [go_sem,reduceIte,reduceEqDiff,reduceAdd,reduceMul,reduceSub,reduceLeDiff,reduceLT,Nat.reduceBEq,reduceCtorEq,g0,g3,hn]
         have:=nameB_at (s:=s) (by intro e;rw [e] at h0;simp at h0) (by omega) (fun d hd=>by rw [hc] at hd;cases hd;exact hb) (fun i d hi hd=>hf i d hi (by have:=(List.getElem?_eq_some_iff.1 hd).1;omega) hd)
         simp [this]
end Go.Sim

/-
Texts: the plain law: parts of strings, digits.
-/
namespace Go.Sim
open Go Go.Proofs
/-! ### Parts of a string -/
def splitA (c:Nat):List Nat→List Nat→List (List Nat)
 | cur,[]=>[cur]
 | cur,x::r=>if x=c then cur::splitA c [] r else splitA c (cur++[x]) r
theorem splitA_cons (c x:Nat) (cur r:List Nat):splitA c cur (x::r)=if x=c then cur::splitA c [] r else splitA c (cur++[x]) r:=rfl
def splitL (c:Nat) (s:List Nat):List (List Nat):=splitA c [] s
def cntC (c:Nat):List Nat→Nat
 | []=>0
 | x::r=>(if x=c then 1 else 0)+cntC c r
theorem cntC_le (c:Nat):∀ s,cntC c s≤s.length
 | []=>Nat.le_refl _
 | x::r=>by
   have:=cntC_le c r
   unfold cntC
   rw [List.length_cons]
   split<;>omega
theorem splitA_len (c:Nat):∀ (s cur:List Nat),(splitA c cur s).length=cntC c s+1
 | [],cur=>rfl
 | x::r,cur=>by
   rw [splitA_cons]
   unfold cntC
   split
   · rw [List.length_cons,splitA_len c r];omega
   · rw [splitA_len c r];omega
theorem splitL_len (c:Nat) (s:List Nat):(splitL c s).length=cntC c s+1:=splitA_len c s []
def idxL (c:Nat):List Nat→Int
 | []=>-1
 | b::l=>if b=c then 0 else if idxL c l = -1 then -1 else idxL c l+1
theorem idxL_cases (c:Nat):∀ s:List Nat,(idxL c s = -1∧c ∉ s) ∨ ∃ i:Nat,idxL c s=(i:Int)∧i < s.length∧s[i]? = some c∧c ∉ s.take i
 | []=>.inl ⟨rfl,by simp⟩
 | b::l=>by
   unfold idxL
   by_cases h:b=c
   · rw [if_pos h]
     exact .inr ⟨0,rfl,by simp,by simp [h],by simp⟩
   · rw [if_neg h]
     rcases idxL_cases c l with ⟨h1,h2⟩ | ⟨i,h1,h2,h3,h4⟩
     · rw [if_pos h1]
       exact .inl ⟨rfl,by simp [Ne.symm h,h2]⟩
     · rw [if_neg (by rw [h1];omega)]
       refine .inr ⟨i+1,by rw [h1];rfl,by simp;omega,by simpa using h3, ?_⟩
       rw [List.take_succ_cons,List.mem_cons,not_or]
       exact ⟨Ne.symm h,h4⟩
theorem splitA_none {c:Nat}:∀ {s:List Nat} (cur:List Nat),c ∉ s→splitA c cur s=[cur++s]
 | [],cur,_=>by simp [splitA]
 | x::r,cur,h=>by
   simp only [List.mem_cons,not_or] at h
   rw [splitA_cons]
   rw [if_neg (Ne.symm h.1),splitA_none _ h.2];simp
theorem splitA_at {c:Nat}:∀ {s:List Nat} {i:Nat} (cur:List Nat),s[i]? = some c→c ∉ s.take i→splitA c cur s=(cur++s.take i)::splitA c [] (s.drop (i+1))
 | [],i,cur,h,_=>by simp at h
 | x::r,0,cur,h,_=>by
   simp at h;subst h
   rw [splitA_cons]
   simp
 | x::r,i+1,cur,h,hn=>by
   rw [List.take_succ_cons,List.mem_cons,not_or] at hn
   have h':r[i]? = some c:=by simpa using h
   rw [splitA_cons]
   rw [if_neg (Ne.symm hn.1),splitA_at _ h' hn.2,List.take_succ_cons,List.drop_succ_cons]
   simp
theorem splitL_none {c:Nat} {s:List Nat} (h:c ∉ s):splitL c s=[s]:=by
 have:=splitA_none [] h
 simpa [splitL] using this
theorem splitL_at {c:Nat} {s:List Nat} {i:Nat} (h:s[i]? = some c) (hn:c ∉ s.take i):splitL c s=s.take i::splitL c (s.drop (i+1)):=by
 have:=splitA_at [] h hn
 simpa [splitL] using this
theorem cntC_none {c:Nat} {s:List Nat} (h:c ∉ s):cntC c s=0:=by
 have:=splitL_len c s
 rw [splitL_none h] at this
 simp at this;omega
theorem cntC_at {c:Nat} {s:List Nat} {i:Nat} (h:s[i]? = some c) (hn:c ∉ s.take i):cntC c s=cntC c (s.drop (i+1))+1:=by
 have h1:=splitL_len c s
 have h2:=splitL_len c (s.drop (i+1))
 rw [splitL_at h hn,List.length_cons,h2] at h1
 omega
theorem splitL_pieces {c:Nat}:∀ (s cur:List Nat),c ∉ cur → ∀ w ∈ splitA c cur s,c ∉ w
 | [],cur,h,w,hw=>by
   have:w=cur:=by simpa [splitA] using hw
   rw [this];exact h
 | x::r,cur,h,w,hw=>by
   rw [splitA_cons] at hw
   split at hw
   · rcases List.mem_cons.1 hw with rfl | hw
     · exact h
     · exact splitL_pieces r [] (by simp) w hw
   · rename_i hx
     exact splitL_pieces r _ (by simp [h,Ne.symm hx]) w hw
/-! ### The program's text, whose parts are joined again -/
def joinC (c:Nat):List (List Nat)→List Nat
 | []=>[]
 | [w]=>w
 | w::r=>w++c::joinC c r
theorem join_splitA (c:Nat):∀ (s cur:List Nat),joinC c (splitA c cur s)=cur++s
 | [],cur=>by simp [splitA,joinC]
 | x::r,cur=>by
   rw [splitA_cons]
   split
   · rename_i h
     have:=join_splitA c r []
     have hne:=splitA_len c r []
     cases hs:splitA c [] r with
     | nil=>rw [hs] at hne;simp at hne
     | cons a l =>
       rw [hs] at this
       show cur++c::joinC c (a::l)=_
       rw [this,h];simp
   · rw [join_splitA c r];simp
theorem join_splitL (c:Nat) (s:List Nat):joinC c (splitL c s)=s:=by
 have:=join_splitA c s []
 simpa [splitL] using this
theorem splitA_app {c:Nat}:∀ (w cur r:List Nat),c ∉ w→splitA c cur (w++c::r)=(cur++w)::splitA c [] r
 | [],cur,r,_=>by simp [splitA]
 | x::w,cur,r,h=>by
   simp only [List.mem_cons,not_or] at h
   rw [List.cons_append]
   rw [splitA_cons]
   rw [if_neg (Ne.symm h.1),splitA_app w _ r h.2];simp
theorem split_join {c:Nat}:∀ {l:List (List Nat)},l ≠ []→(∀ w ∈ l,c ∉ w)→splitL c (joinC c l)=l
 | [],h,_=>absurd rfl h
 | [w],_,h=>splitL_none (h w (by simp))
 | w::v::r,_,h=>by
   show splitA c [] (w++c::joinC c (v::r))=_
   rw [splitA_app w [] _ (h w (by simp))]
   have:=split_join (l:=v::r) (by simp) (fun u hu=>h u (by simp [hu]))
   unfold splitL at this
   rw [this];simp
/-! ### Digits -/
def numF:List Nat→Int→Int
 | [],n=>n
 | c::r,n=>numF r (10 * n+((c:Int) - 48))
def digsB (s:List Nat):Bool:=s.all fun c=>digB (c:Int)
def intF (s:List Nat):Int × Bool:=if s ≠ []∧s.length≤9∧digsB s=true∧(s.length=1∨s[0]? ≠ some 48) then (numF s 0,true) else (0,false)
def intP (s:List Nat):Int × Bool:=if digsB s=true∧s.length≤9 then (numF s 0,decide (s ≠ []) && (decide (s.length=1) || decide (s[0]? ≠ some 48))) else (0,false)
theorem intP_snd (s:List Nat):(intP s).2=(intF s).2:=by
 cases s with
 | nil=>rfl
 | cons c r =>
   unfold intP intF
   by_cases h1:digsB (c::r)=true<;>by_cases h2:(c::r).length≤9<;>by_cases h4:(c::r).length=1<;>by_cases h5:c=48<;>simp_all<;>(try (split<;>rfl))
theorem intP_ok {s:List Nat} (h:(intF s).2=true):intP s=intF s:=by
 have h0:=intP_snd s
 rw [h] at h0
 refine Prod.ext ?_ (by rw [h0,h])
 unfold intF at h ⊢
 split at h
 · rename_i hc
   rw [if_pos hc]
   unfold intP
   rw [if_pos ⟨hc.2.2.1,hc.2.1⟩]
 · cases h
theorem digB_iff (x:Int):digB x=true ↔ 48≤x∧x≤57:=by
 unfold digB
 simp only [Bool.and_eq_true,Bool.not_eq_true',decide_eq_false_iff_not]
 omega
theorem numF_bound:∀ (s:List Nat) (n:Int) (k:Nat),digsB s=true→0≤n→n < 10 ^ k→0≤numF s n∧numF s n < 10 ^ (k+s.length)
 | [],n,k,_,h0,h1=>⟨h0,h1⟩
 | c::r,n,k,hd,h0,h1=>by
   unfold digsB at hd
   rw [List.all_cons,Bool.and_eq_true] at hd
   have hc:=(digB_iff _).1 hd.1
   have hk:(10:Int) ^ (k+1)=10 ^ k * 10:=Int.pow_succ 10 k
   have:=numF_bound r (10 * n+((c:Int) - 48)) (k+1) hd.2 (by omega) (by omega)
   show 0≤numF r _∧numF r _ < _
   refine ⟨this.1, ?_⟩
   have e:k+(c::r).length=k+1+r.length:=by rw [List.length_cons];omega
   rw [e];exact this.2
end Go.Sim

/-
Contracts of strings.IndexByte, Index and Count at one byte, for the abstract interpreter.
-/
namespace Go.Sim
open Go Go.Proofs Go.Shelf Go.RowKit
theorem toNat_eq (a b:UInt8):(a == b)=decide (a.toNat=b.toNat):=by
 rw [Bool.eq_iff_iff,beq_iff_eq,decide_eq_true_eq]
 exact UInt8.toNat_inj.symm
theorem idxL_eq (c:UInt8):∀ l:List UInt8,Lib.indexByte l c=idxL c.toNat (nats l)
 | []=>rfl
 | b::l=>by
   have ih:=idxL_eq c l
   have hn:nats (b::l)=b.toNat::nats l:=rfl
   unfold Lib.indexByte
   rw [hn]
   unfold idxL
   rw [ih,toNat_eq]
   by_cases h:b.toNat=c.toNat
   · simp [h]
   · by_cases h2:idxL c.toNat (nats l) = -1<;>simp [h,h2]
theorem cntC_eq (c:UInt8):∀ l:List UInt8,Lib.countByte l c=cntC c.toNat (nats l)
 | []=>rfl
 | b::l=>by
   have ih:=cntC_eq c l
   have hn:nats (b::l)=b.toNat::nats l:=rfl
   rw [hn]
   unfold Lib.countByte at ih ⊢
   unfold cntC
   rw [List.count_cons,ih,toNat_eq]
   by_cases h:b.toNat=c.toNat<;>simp [h]<;>omega
theorem one_byte {b:ByteArray} {c:Nat} (h:b.data.toList.map UInt8.toNat=[c]):∃ u:UInt8,b=⟨#[u]⟩∧u.toNat=c:=by
 obtain ⟨⟨l⟩⟩:=b
 match l,h with
 | [u],h=>exact ⟨u,rfl,by simpa using h⟩
def p257:List AV→Option AV
 | [.str s,.str [c]]=>some (.int .i64 (idxL c s))
 | _=>none
theorem pok257:∀ args v,p257 args=some v → ∀ lo H,CallOk NC lo 257 args H v H:=by
 intro args v h lo H
 unfold p257 at h
 split at h
 · rename_i s c
   simp at h;subst h
   refine ⟨⟨Tryz.f257,Tryz.func257,rfl,by kernel_rfl⟩,fun g w cargs hR ha => ?_⟩
   obtain ⟨x,y,rfl,hx,hy⟩:=two_args ha
   cases hx with
   | str hx =>
   cases hy with
   | str hy =>
   obtain ⟨u,rfl,rfl⟩:=one_byte hy
   show CallsIn Fence.wide 0 Tryz.prog 257 _ w _
   rw [callsIn_wide]
   refine (Tryz.strings_Index_one _ u w).mono ?_
   rintro e w' ⟨rfl,rfl⟩
   refine Done.same hR ?_
   rw [idxL_eq]
   subst hx
   exact .int _ _
 · cases h
def p256:List AV→Option AV
 | [.str s,.str [c]]=>some (.int .i64 ((cntC c s:Nat):Int))
 | _=>none
theorem pok256:∀ args v,p256 args=some v → ∀ lo H,CallOk NC lo 256 args H v H:=by
 intro args v h lo H
 unfold p256 at h
 split at h
 · rename_i s c
   simp at h;subst h
   refine ⟨⟨Tryz.f256,Tryz.func256,rfl,by kernel_rfl⟩,fun g w cargs hR ha => ?_⟩
   obtain ⟨x,y,rfl,hx,hy⟩:=two_args ha
   cases hx with
   | str hx =>
   cases hy with
   | str hy =>
   obtain ⟨u,rfl,rfl⟩:=one_byte hy
   show CallsIn Fence.wide 0 Tryz.prog 256 _ w _
   rw [callsIn_wide]
   refine (Tryz.strings_Count_one _ u w).mono ?_
   rintro e w' ⟨rfl,rfl⟩
   refine Done.same hR ?_
   rw [cntC_eq]
   subst hx
   exact .int _ _
 · cases h
def p213:List AV→Option AV
 | [.str s,.int .u8 10]=>some (.int .i64 (idxL 10 s))
 | _=>none
theorem pok213:∀ args v,p213 args=some v → ∀ lo H,CallOk NC lo 213 args H v H:=by
 intro args v h lo H
 unfold p213 at h
 split at h
 · rename_i s
   simp at h;subst h
   refine ⟨⟨Tryz.f213,Tryz.func213,rfl,by kernel_rfl⟩,fun g w cargs hR ha => ?_⟩
   obtain ⟨x,y,rfl,hx,hy⟩:=two_args ha
   cases hx with
   | str hx =>
   cases hy
   show CallsIn Fence.wide 0 Tryz.prog 213 _ w _
   rw [callsIn_wide]
   refine (Tryz.strings_IndexByte _ 10 w).mono ?_
   rintro e w' ⟨rfl,rfl⟩
   refine Done.same hR ?_
   rw [idxL_eq]
   subst hx
   exact .int _ _
 · cases h
theorem e257 (s:List Nat) (c:Nat):p257 [.str s,.str [c]]=some (.int .i64 (idxL c s)):=rfl
theorem e256 (s:List Nat) (c:Nat):p256 [.str s,.str [c]]=some (.int .i64 ((cntC c s:Nat):Int)):=rfl
theorem e213 (s:List Nat):p213 [.str s,.int .u8 10]=some (.int .i64 (idxL 10 s)):=rfl
end Go.Sim

/-
Names, as the program tests them.
-/
namespace Go.Sim
open Go Go.Proofs
set_option maxRecDepth 100000
set_option maxHeartbeats 1000000
theorem dec_ascii {s:List Nat} {k c:Nat} (h:s[k]? = some c) (hc:c < 128):adecode s k=(c,1):=by
 unfold adecode
 have:s.getD (k+0) 0=c:=by simp [h]
 simp only [this]
 rw [if_pos hc]
theorem dec_high {s:List Nat} {k c:Nat} (h:s[k]? = some c) (hc:¬ c < 128):128≤(adecode s k).1:=by
 unfold adecode
 have h0:s.getD (k+0) 0=c:=by simp [h]
 simp only [h0]
 rw [if_neg hc]
 have he:(128:Nat)≤Utf8.runeError:=by decide
 split
 · split
   · rename_i h1;exact h1
   · exact he
 · split
   · split
     · rename_i h1;simp only [Bool.and_eq_true,decide_eq_true_eq] at h1;exact Nat.le_trans (by decide) h1.1
     · exact he
   · split
     · split
       · rename_i h1;simp only [Bool.and_eq_true,decide_eq_true_eq] at h1;exact Nat.le_trans (by decide) h1.1
       · exact he
     · exact he
theorem letB_high {x:Nat} (h:128≤x):letB x=false:=by
 have h1:¬ ((x:Int) < 65):=by omega
 have h2:(90:Int) < x:=by omega
 have h3:¬ ((x:Int) < 97):=by omega
 have h4:(122:Int) < x:=by omega
 simp [letB,h2,h4]
theorem digB_high {x:Nat} (h:128≤x):digB x=false:=by
 have h2:(57:Int) < x:=by omega
 simp [digB,h2]
theorem c182 (s:List Nat) (hl:s.length≤maxRows):∀ lo H,CallOk NC lo 182 [.str s] H (.bool (nameB s)) H:=by
 refine contract saneNC primsA (fn:=Tryz.f182) (by kernel_rfl) Tryz.func182 rfl rfl (by rfl) (by rfl) ?_
 simp only [go_sem,reduceIte,reduceEqDiff,reduceAdd,reduceMul,reduceSub,reduceLeDiff,reduceLT,Nat.reduceBEq,reduceCtorEq]
 refine W_for (fun k T H M=>M=[]∧getT T 0=.str s∧getT T 6=.ptr 0 0∧H.get 0=.sit s k∧(∀ c,0 < k→s[0]? = some c→letB (c:Nat)=true) ∧ ∀ (i c:Nat),1≤i→i < k→s[i]? = some c→restB c=true) s.length ?_ ?_ ?_
 · simp only [go_sem,reduceIte,reduceEqDiff,reduceAdd,reduceMul,reduceSub,reduceLeDiff,reduceLT,Nat.reduceBEq,reduceCtorEq];exact ⟨fun c h=>h.elim,fun i c h1 h2=>by omega⟩
 · rintro k T H M hk ⟨rfl,g0,g6,gH,hf0,hf⟩
   obtain ⟨c,hc⟩:∃ c,s[k]? = some c:=⟨s[k],by simp⟩
   by_cases hasc:c < 128
   · have hd:=dec_ascii hc hasc
     cases q1:letB (c:Nat) with
     | true =>
       simp only [go_sem,reduceIte,reduceEqDiff,reduceAdd,reduceMul,reduceSub,reduceLeDiff,reduceLT,Nat.reduceBEq,reduceCtorEq,g0,g6,gH,hk,hd,e227,e228,q1]
       refine ⟨fun d _ hd0 => ?_,fun i d hi hj hdi => ?_⟩
       · by_cases e:k=0
         · subst e;rw [hc] at hd0;cases hd0;exact q1
         · exact hf0 d (by omega) hd0
       · by_cases e:i=k
         · subst e;rw [hc] at hdi;cases hdi;simp [restB,q1]
         · exact hf i d hi (by omega) hdi
     | false =>
       by_cases e:k=0
       · subst e
         simp only [go_sem,reduceIte,reduceEqDiff,reduceAdd,reduceMul,reduceSub,reduceLeDiff,reduceLT,Nat.reduceBEq,reduceCtorEq,g0,g6,gH,hk,hd,e227,e228,q1]
         simp [nameB_not0 hc q1]
       · have e':((k:Int)=0)=False:=by simp;omega
         cases q2:digB (c:Nat) with
         | true =>
           simp only [go_sem,reduceIte,reduceEqDiff,reduceAdd,reduceMul,reduceSub,reduceLeDiff,reduceLT,Nat.reduceBEq,reduceCtorEq,g0,g6,gH,hk,hd,e227,e228,q1,q2,e']
           refine ⟨fun d _ hd0=>hf0 d (by omega) hd0,fun i d hi hj hdi => ?_⟩
           by_cases e:i=k
           · subst e;rw [hc] at hdi;cases hdi;simp [restB,q2]
           · exact hf i d hi (by omega) hdi
         | false =>
           rcases Classical.propComplete (((c:Nat):Int)=95) with q3 | q3
           · simp only [go_sem,reduceIte,reduceEqDiff,reduceAdd,reduceMul,reduceSub,reduceLeDiff,reduceLT,Nat.reduceBEq,reduceCtorEq,g0,g6,gH,hk,hd,e227,e228,q1,q2,q3,e']
             refine ⟨fun d _ hd0=>hf0 d (by omega) hd0,fun i d hi hj hdi => ?_⟩
             by_cases e:i=k
             · subst e;rw [hc] at hdi;cases hdi;simp [restB,q3]
             · exact hf i d hi (by omega) hdi
           · simp only [go_sem,reduceIte,reduceEqDiff,reduceAdd,reduceMul,reduceSub,reduceLeDiff,reduceLT,Nat.reduceBEq,reduceCtorEq,g0,g6,gH,hk,hd,e227,e228,q1,q2,q3,e']
             simp [nameB_not (by omega) hc (show restB (c:Nat)=false by simp [restB,q1,q2,q3])]
   · have hd:=dec_high hc hasc
     have q1:=letB_high hd
     have q2:=digB_high hd
     have q3:(((adecode s k).1:Int)=95)=False:=by simp;omega
     have r1:letB (c:Nat)=false:=letB_high (by omega)
     have r2:digB (c:Nat)=false:=digB_high (by omega)
     have r3:¬ ((c:Int)=95):=by omega
     by_cases e:k=0
     · subst e
       simp only [go_sem,reduceIte,reduceEqDiff,reduceAdd,reduceMul,reduceSub,reduceLeDiff,reduceLT,Nat.reduceBEq,reduceCtorEq,g0,g6,gH,hk,e227,e228,q1]
       simp [nameB_not0 hc r1]
     · have e':((k:Int)=0)=False:=by simp;omega
       simp only [go_sem,reduceIte,reduceEqDiff,reduceAdd,reduceMul,reduceSub,reduceLeDiff,reduceLT,Nat.reduceBEq,reduceCtorEq,g0,g6,gH,hk,e227,e228,q1,q2,q3,e']
       simp [nameB_not (by omega) hc (show restB (c:Nat)=false by simp [restB,r1,r2,r3])]
 · rintro T H M ⟨rfl,g0,g6,gH,hf0,hf⟩
   rcases Classical.propComplete ((0:Int) < (s.length:Int)) with h1 | h1
   · rcases Classical.propComplete ((24:Int) < (s.length:Int)) with h2 | h2
     · simp only [go_sem,reduceIte,reduceEqDiff,reduceAdd,reduceMul,reduceSub,reduceLeDiff,reduceLT,Nat.reduceBEq,reduceCtorEq,g0,g6,gH,Nat.lt_irrefl,h1,h2]
       have h2':=of_eq_true h2
       cases s with
       | nil=>simp [nameB]
       | cons c r=>simp [nameB];intro h;simp at h2';omega
     · simp only [go_sem,reduceIte,reduceEqDiff,reduceAdd,reduceMul,reduceSub,reduceLeDiff,reduceLT,Nat.reduceBEq,reduceCtorEq,g0,g6,gH,Nat.lt_irrefl,h1,h2]
       have h1':=of_eq_true h1
       have h2':=of_eq_false h2
       have:=nameB_at (s:=s) (by intro e;rw [e] at h1';simp at h1') (by omega) (fun d hd=>hf0 d (by omega) hd) (fun i d hi hd=>hf i d hi (List.getElem?_eq_some_iff.1 hd).1 hd)
       simp [this]
   · simp only [go_sem,reduceIte,reduceEqDiff,reduceAdd,reduceMul,reduceSub,reduceLeDiff,reduceLT,Nat.reduceBEq,reduceCtorEq,g0,g6,gH,Nat.lt_irrefl,h1]
     have h1':=of_eq_false h1
     have:s=[]:=List.length_eq_zero_iff.1 (by omega)
     subst this
     simp [nameB]
end Go.Sim

/-
The reference: small functions.
-/
namespace Go.Sim
open Go Go.Proofs
set_option maxRecDepth 100000
set_option maxHeartbeats 1000000
theorem pair_inj {f:Bool × Int→List AV} (hf:f=fun x=>[.bool x.1,i64 x.2]) (x y:Bool × Int) (h:f x=f y):x=y:=by
 subst hf;obtain ⟨a,b⟩:=x;obtain ⟨c,d⟩:=y;simp at h;obtain ⟨rfl,rfl⟩:=h;rfl
theorem intRows_inj (x y:List Int) (h:[AV.ps .unk (intRows x)]=[AV.ps .unk (intRows y)]):x=y:=by
 simp only [List.cons.injEq,AV.ps.injEq,and_true,true_and] at h
 exact map_inj (by intro a b e;simpa using e) h
theorem row1_inj (x y:Ln) (h:[AV.agg x.row]=[AV.agg y.row]):x=y:=by
 simp only [List.cons.injEq,AV.agg.injEq,and_true] at h;exact Ln.row_inj _ _ h
theorem pc1_inj (x y:Pc) (h:[AV.agg x.row]=[AV.agg y.row]):x=y:=by
 simp only [List.cons.injEq,AV.agg.injEq,and_true] at h;exact Pc.row_inj _ _ h
noncomputable def p48:List AV→Option AV:=primOf (α:=Bool × Int) (fun x=>[.bool x.1,i64 x.2]) (fun _=>True) (fun x=>i64 (whenI x.1 x.2))
theorem pok48:∀ args v,p48 args=some v → ∀ lo H,CallOk NC lo 48 args H v H:=by
 intro args v h
 obtain ⟨x,rfl,hp,rfl⟩:=primOf_inv h
 clear h
 revert x
 intro x;exact c48 x.1 x.2
theorem pe48 (x:Bool × Int) (hp:(fun _=>True) x):p48 ((fun x=>[.bool x.1,i64 x.2]) x)=some ((fun x=>i64 (whenI x.1 x.2)) x):=primOf_enc (by intro x y h;exact pair_inj rfl x y h) x hp
theorem e48 (b:Bool) (e:Int):p48 [.bool b,.int .i64 e]=some (.int .i64 (whenI b e)):=pe48 (b,e) trivial
noncomputable def p121:List AV→Option AV:=primOf (α:=Bool × Int) (fun x=>[.bool x.1,i64 x.2]) (fun _=>True) (fun x=>i64 (whenI x.1 x.2))
theorem pok121:∀ args v,p121 args=some v → ∀ lo H,CallOk NC lo 121 args H v H:=by
 intro args v h
 obtain ⟨x,rfl,hp,rfl⟩:=primOf_inv h
 clear h
 revert x
 intro x;exact c121 x.1 x.2
theorem pe121 (x:Bool × Int) (hp:(fun _=>True) x):p121 ((fun x=>[.bool x.1,i64 x.2]) x)=some ((fun x=>i64 (whenI x.1 x.2)) x):=primOf_enc (by intro x y h;exact pair_inj rfl x y h) x hp
theorem e121 (b:Bool) (e:Int):p121 [.bool b,.int .i64 e]=some (.int .i64 (whenI b e)):=pe121 (b,e) trivial
noncomputable def p34:List AV→Option AV:=primOf (α:=List Int) (fun x=>[.ps .unk (intRows x)]) (fun x=>x.length≤maxRows) (fun x=>i64 (firstI x))
theorem pok34:∀ args v,p34 args=some v → ∀ lo H,CallOk NC lo 34 args H v H:=by
 intro args v h
 obtain ⟨x,rfl,hp,rfl⟩:=primOf_inv h
 clear h
 revert x
 intro x hx;exact c34 x hx
theorem pe34 (x:List Int) (hp:(fun x=>x.length≤maxRows) x):p34 ((fun x=>[.ps .unk (intRows x)]) x)=some ((fun x=>i64 (firstI x)) x):=primOf_enc (by intro x y h;exact intRows_inj x y h) x hp
theorem e34_2 (a b:Int):p34 [.ps .unk [[.int .i64 a],[.int .i64 b]]]=some (.int .i64 (firstI [a,b])):=pe34 [a,b] (by show 2≤1073741824;decide)
theorem e34_3 (a b c:Int):p34 [.ps .unk [[.int .i64 a],[.int .i64 b],[.int .i64 c]]]=some (.int .i64 (firstI [a,b,c])):=pe34 [a,b,c] (by show 3≤1073741824;decide)
theorem e34_4 (a b c d:Int):p34 [.ps .unk [[.int .i64 a],[.int .i64 b],[.int .i64 c],[.int .i64 d]]]=some (.int .i64 (firstI [a,b,c,d])):=pe34 [a,b,c,d] (by show 4≤1073741824;decide)
noncomputable def p111:List AV→Option AV:=primOf (α:=List Int) (fun x=>[.ps .unk (intRows x)]) (fun x=>x.length≤maxRows) (fun x=>i64 (firstI x))
theorem pok111:∀ args v,p111 args=some v → ∀ lo H,CallOk NC lo 111 args H v H:=by
 intro args v h
 obtain ⟨x,rfl,hp,rfl⟩:=primOf_inv h
 clear h
 revert x
 intro x hx;exact c111 x hx
theorem pe111 (x:List Int) (hp:(fun x=>x.length≤maxRows) x):p111 ((fun x=>[.ps .unk (intRows x)]) x)=some ((fun x=>i64 (firstI x)) x):=primOf_enc (by intro x y h;exact intRows_inj x y h) x hp
theorem e111_2 (a b:Int):p111 [.ps .unk [[.int .i64 a],[.int .i64 b]]]=some (.int .i64 (firstI [a,b])):=pe111 [a,b] (by show 2≤1073741824;decide)
theorem e111_3 (a b c:Int):p111 [.ps .unk [[.int .i64 a],[.int .i64 b],[.int .i64 c]]]=some (.int .i64 (firstI [a,b,c])):=pe111 [a,b,c] (by show 3≤1073741824;decide)
theorem e111_4 (a b c d:Int):p111 [.ps .unk [[.int .i64 a],[.int .i64 b],[.int .i64 c],[.int .i64 d]]]=some (.int .i64 (firstI [a,b,c,d])):=pe111 [a,b,c,d] (by show 4≤1073741824;decide)
theorem e111_5 (a b c d e:Int):p111 [.ps .unk [[.int .i64 a],[.int .i64 b],[.int .i64 c],[.int .i64 d],[.int .i64 e]]]=some (.int .i64 (firstI [a,b,c,d,e])):=pe111 [a,b,c,d,e] (by show 5≤1073741824;decide)
theorem e111_6 (a b c d e f:Int):p111 [.ps .unk [[.int .i64 a],[.int .i64 b],[.int .i64 c],[.int .i64 d],[.int .i64 e],[.int .i64 f]]]=some (.int .i64 (firstI [a,b,c,d,e,f])):=pe111 [a,b,c,d,e,f] (by show 6≤1073741824;decide)
noncomputable def p26:List AV→Option AV:=primOf (α:=Ln) (fun x=>[.agg x.row]) (fun x=>x.ps.length≤maxRows) (fun x=>i64 (sumW x.ps 0))
theorem pok26:∀ args v,p26 args=some v → ∀ lo H,CallOk NC lo 26 args H v H:=by
 intro args v h
 obtain ⟨x,rfl,hp,rfl⟩:=primOf_inv h
 clear h
 revert x
 intro x hx;exact c26 x hx
theorem pe26 (x:Ln) (hp:(fun x=>x.ps.length≤maxRows) x):p26 ((fun x=>[.agg x.row]) x)=some ((fun x=>i64 (sumW x.ps 0)) x):=primOf_enc (by intro x y h;exact row1_inj x y h) x hp
noncomputable def p178:List AV→Option AV:=primOf (α:=Pc) (fun x=>[.agg x.row]) (fun _=>True) (fun x=>i64 (stepI x.back))
theorem pok178:∀ args v,p178 args=some v → ∀ lo H,CallOk NC lo 178 args H v H:=by
 intro args v h
 obtain ⟨x,rfl,hp,rfl⟩:=primOf_inv h
 clear h
 revert x
 intro x;exact c178 x
theorem pe178 (x:Pc) (hp:(fun _=>True) x):p178 ((fun x=>[.agg x.row]) x)=some ((fun x=>i64 (stepI x.back)) x):=primOf_enc (by intro x y h;exact pc1_inj x y h) x hp
theorem e178 (l q:Int) (b:Bool):p178 [.agg [.int .i64 l,.int .i64 q,.bool b]]=some (.int .i64 (stepI b)):=pe178 ⟨l,q,b⟩ trivial
noncomputable def p109:List AV→Option AV:=primOf (α:=Pc × Int) (fun x=>[.agg x.1.row,i64 x.2]) (fun _=>True) (fun x=>i64 (postI x.1 x.2))
theorem pok109:∀ args v,p109 args=some v → ∀ lo H,CallOk NC lo 109 args H v H:=by
 intro args v h
 obtain ⟨x,rfl,hp,rfl⟩:=primOf_inv h
 clear h
 revert x
 intro x;exact c109 x.1 x.2
theorem pe109 (x:Pc × Int) (hp:(fun _=>True) x):p109 ((fun x=>[.agg x.1.row,i64 x.2]) x)=some ((fun x=>i64 (postI x.1 x.2)) x):=primOf_enc (by intro x y h;(obtain ⟨a,b⟩:=x;obtain ⟨c,d⟩:=y;simp only [List.cons.injEq,AV.agg.injEq,AV.int.injEq,true_and,and_true] at h;obtain ⟨h1,rfl⟩:=h;rw [Pc.row_inj _ _ h1])) x hp
theorem e109 (l q:Int) (b:Bool) (i:Int):p109 [.agg [.int .i64 l,.int .i64 q,.bool b],.int .i64 i]=some (.int .i64 (postI ⟨l,q,b⟩ i)):=pe109 (⟨l,q,b⟩,i) trivial
noncomputable def p108:List AV→Option AV:=primOf (α:=Ln × Nat) (fun x=>[.agg x.1.row,i64 x.2]) (fun x=>x.2≤x.1.ps.length∧x.1.ps.length≤maxRows) (fun x=>i64 (sumW (x.1.ps.take x.2) 0))
theorem pok108:∀ args v,p108 args=some v → ∀ lo H,CallOk NC lo 108 args H v H:=by
 intro args v h
 obtain ⟨x,rfl,hp,rfl⟩:=primOf_inv h
 clear h
 revert x
 intro x hx;exact c108 x.1 x.2 hx.1 hx.2
theorem pe108 (x:Ln × Nat) (hp:(fun x=>x.2≤x.1.ps.length∧x.1.ps.length≤maxRows) x):p108 ((fun x=>[.agg x.1.row,i64 x.2]) x)=some ((fun x=>i64 (sumW (x.1.ps.take x.2) 0)) x):=primOf_enc (by intro x y h;(obtain ⟨a,b⟩:=x;obtain ⟨c,d⟩:=y;simp only [List.cons.injEq,AV.agg.injEq,AV.int.injEq,true_and,and_true] at h;obtain ⟨h1,h2⟩:=h;rw [Ln.row_inj _ _ h1,Int.ofNat.inj h2])) x hp
noncomputable def p27:List AV→Option AV:=primOf (α:=Net × List Nat) (fun x=>[.agg x.1.cells,.str x.2]) (fun x=>x.1.lines.length≤maxRows) (fun x=>i64 (findI x.1.lines x.2))
theorem pok27:∀ args v,p27 args=some v → ∀ lo H,CallOk NC lo 27 args H v H:=by
 intro args v h
 obtain ⟨x,rfl,hp,rfl⟩:=primOf_inv h
 clear h
 revert x
 intro x hx;exact c27 x.1 x.2 hx
theorem pe27 (x:Net × List Nat) (hp:(fun x=>x.1.lines.length≤maxRows) x):p27 ((fun x=>[.agg x.1.cells,.str x.2]) x)=some ((fun x=>i64 (findI x.1.lines x.2)) x):=primOf_enc (by intro x y h;(obtain ⟨a,b⟩:=x;obtain ⟨c,d⟩:=y;simp only [List.cons.injEq,AV.agg.injEq,AV.str.injEq,true_and,and_true] at h;obtain ⟨h1,rfl⟩:=h;rw [Net.cells_inj _ _ h1])) x hp
noncomputable def p97:List AV→Option AV:=primOf (α:=List Nat) (fun x=>[.str x]) (fun _=>True) (fun x=>.bool (shortB x))
theorem pok97:∀ args v,p97 args=some v → ∀ lo H,CallOk NC lo 97 args H v H:=by
 intro args v h
 obtain ⟨x,rfl,hp,rfl⟩:=primOf_inv h
 clear h
 revert x
 intro x;exact c97 x
theorem pe97 (x:List Nat) (hp:(fun _=>True) x):p97 ((fun x=>[.str x]) x)=some ((fun x=>.bool (shortB x)) x):=primOf_enc (by intro x y h;simpa using h) x hp
theorem e97 (s:List Nat):p97 [.str s]=some (.bool (shortB s)):=pe97 s trivial
noncomputable def p122:List AV→Option AV:=primOf (α:=List Nat) (fun x=>[.str x]) (fun _=>True) (fun x=>.bool (nameB x))
theorem pok122:∀ args v,p122 args=some v → ∀ lo H,CallOk NC lo 122 args H v H:=by
 intro args v h
 obtain ⟨x,rfl,hp,rfl⟩:=primOf_inv h
 clear h
 revert x
 intro x;exact c122 x
theorem pe122 (x:List Nat) (hp:(fun _=>True) x):p122 ((fun x=>[.str x]) x)=some ((fun x=>.bool (nameB x)) x):=primOf_enc (by intro x y h;simpa using h) x hp
theorem e122 (s:List Nat):p122 [.str s]=some (.bool (nameB s)):=pe122 s trivial
noncomputable def p182:List AV→Option AV:=primOf (α:=List Nat) (fun x=>[.str x]) (fun x=>x.length≤maxRows) (fun x=>.bool (nameB x))
theorem pok182:∀ args v,p182 args=some v → ∀ lo H,CallOk NC lo 182 args H v H:=by
 intro args v h
 obtain ⟨x,rfl,hp,rfl⟩:=primOf_inv h
 clear h
 revert x
 intro x hx;exact c182 x hx
theorem pe182 (x:List Nat) (hp:(fun x=>x.length≤maxRows) x):p182 ((fun x=>[.str x]) x)=some ((fun x=>.bool (nameB x)) x):=primOf_enc (by intro x y h;simpa using h) x hp
theorem e182 (s:List Nat) (hs:s.length≤maxRows):p182 [.str s]=some (.bool (nameB s)):=pe182 s hs
noncomputable def PPB:FuncId→Option (List AV→Option AV):=addPrim 182 p182 (addPrim 122 p122 (addPrim 97 p97 (addPrim 27 p27 (addPrim 108 p108 (addPrim 109 p109 (addPrim 178 p178 (addPrim 26 p26 (addPrim 111 p111 (addPrim 34 p34 (addPrim 121 p121 (addPrim 48 p48 (fun _=>none))))))))))))
theorem primsB:PrimsOk NC PPB:=primsOk_add (primsOk_add (primsOk_add (primsOk_add (primsOk_add (primsOk_add (primsOk_add (primsOk_add (primsOk_add (primsOk_add (primsOk_add (primsOk_add (primsOk_none) (by kernel_rfl) (by kernel_rfl) pok48) (by kernel_rfl) (by kernel_rfl) pok121) (by kernel_rfl) (by kernel_rfl) pok34) (by kernel_rfl) (by kernel_rfl) pok111) (by kernel_rfl) (by kernel_rfl) pok26) (by kernel_rfl) (by kernel_rfl) pok178) (by kernel_rfl) (by kernel_rfl) pok109) (by kernel_rfl) (by kernel_rfl) pok108) (by kernel_rfl) (by kernel_rfl) pok27) (by kernel_rfl) (by kernel_rfl) pok97) (by kernel_rfl) (by kernel_rfl) pok122) (by kernel_rfl) (by kernel_rfl) pok182
theorem enB_48:En PPB 48 p48:=enter_prim (by rfl) (by kernel_rfl)
theorem enB_121:En PPB 121 p121:=enter_prim (by rfl) (by kernel_rfl)
theorem enB_34:En PPB 34 p34:=enter_prim (by rfl) (by kernel_rfl)
theorem enB_111:En PPB 111 p111:=enter_prim (by rfl) (by kernel_rfl)
theorem enB_26:En PPB 26 p26:=enter_prim (by rfl) (by kernel_rfl)
theorem enB_178:En PPB 178 p178:=enter_prim (by rfl) (by kernel_rfl)
theorem enB_109:En PPB 109 p109:=enter_prim (by rfl) (by kernel_rfl)
theorem enB_108:En PPB 108 p108:=enter_prim (by rfl) (by kernel_rfl)
theorem enB_27:En PPB 27 p27:=enter_prim (by rfl) (by kernel_rfl)
theorem enB_97:En PPB 97 p97:=enter_prim (by rfl) (by kernel_rfl)
theorem enB_122:En PPB 122 p122:=enter_prim (by rfl) (by kernel_rfl)
theorem enB_182:En PPB 182 p182:=enter_prim (by rfl) (by kernel_rfl)
attribute [go_sem ↓] enB_48 enB_121 enB_34 enB_111 enB_26 enB_178 enB_109 enB_108 enB_27 enB_97 enB_122 enB_182
def rangeI (n a b:Int):Int:=whenI (decide (n < a) || decide (b < n)) 3
theorem c35 (n a b:Int):∀ lo H,CallOk NC lo 35 [i64 n,i64 a,i64 b] H (i64 (rangeI n a b)) H:=by
 refine contract saneNC primsB (fn:=Tryz.f35) (by kernel_rfl) Tryz.func35 rfl rfl (by rfl) (by rfl) ?_
 rcases Classical.propComplete (n < a) with h1 | h1<;>rcases Classical.propComplete (b < n) with h2 | h2<;>simp only [go_sem,reduceIte,reduceEqDiff,reduceAdd,reduceMul,reduceSub,reduceLeDiff,reduceLT,Nat.reduceBEq,reduceCtorEq,e48,h1,h2]<;>simp [rangeI,h1,h2]
theorem c115 (n a b:Int):∀ lo H,CallOk NC lo 115 [i64 n,i64 a,i64 b] H (i64 (rangeI n a b)) H:=by
 refine contract saneNC primsB (fn:=Tryz.f115) (by kernel_rfl) Tryz.func115 rfl rfl (by rfl) (by rfl) ?_
 rcases Classical.propComplete (n < a) with h1 | h1<;>rcases Classical.propComplete (b < n) with h2 | h2<;>simp only [go_sem,reduceIte,reduceEqDiff,reduceAdd,reduceMul,reduceSub,reduceLeDiff,reduceLT,Nat.reduceBEq,reduceCtorEq,e121,h1,h2]<;>simp [rangeI,h1,h2]
theorem c36 (s:List Nat):∀ lo H,CallOk NC lo 36 [.str s] H (i64 (whenI (!nameB s) 8)) H:=by
 refine contract saneNC primsB (fn:=Tryz.f36) (by kernel_rfl) Tryz.func36 rfl rfl (by rfl) (by rfl) ?_
 simp only [go_sem,reduceIte,reduceEqDiff,reduceAdd,reduceMul,reduceSub,reduceLeDiff,reduceLT,Nat.reduceBEq,reduceCtorEq,e122,e48]
theorem c120 (s:List Nat) (hs:s.length≤maxRows):∀ lo H,CallOk NC lo 120 [.str s] H (i64 (whenI (!nameB s) 8)) H:=by
 refine contract saneNC primsB (fn:=Tryz.f120) (by kernel_rfl) Tryz.func120 rfl rfl (by rfl) (by rfl) ?_
 simp only [go_sem,reduceIte,reduceEqDiff,reduceAdd,reduceMul,reduceSub,reduceLeDiff,reduceLT,Nat.reduceBEq,reduceCtorEq,e182 s hs,e121]
theorem findL_at {ls:List Ln} {s:List Nat} {i:Nat} (h:findL ls s=some i):∃ l,ls[i]? = some l∧i < ls.length∧l ∈ ls:=by
 unfold findL at h
 rw [List.findIdx?_eq_some_iff_getElem] at h
 obtain ⟨hlt,_⟩:=h
 exact ⟨ls[i],by simp,hlt,List.getElem_mem _⟩
def hasI (ls:List Ln) (s:List Nat) (m:Int):Int:=match findL ls s with
 | none=>10
 | some i=>match ls[i]? with
   | some l=>whenI (decide (m < 0) || !decide (m < sumW l.ps 0)) 14
   | none=>0
def Net.fits (n:Net):Prop:=n.lines.length≤maxRows ∧ ∀ l ∈ n.lines,l.ps.length≤maxRows
theorem neg_cast (i:Nat):((i:Int) < 0)=False:=by simp
theorem neg_one:((-1:Int) < 0)=True:=by decide
theorem c106 (n:Net) (s:List Nat) (m:Int) (hn:n.fits):∀ lo H,CallOk NC lo 106 [.agg n.cells,.str s,i64 m] H (i64 (hasI n.lines s m)) H:=by
 refine contract saneNC primsB (fn:=Tryz.f106) (by kernel_rfl) Tryz.func106 rfl rfl (by rfl) (by rfl) ?_
 have e27:=pe27 (n,s) hn.1
 cases hf:findL n.lines s with
 | none =>
   simp only [findI,hf] at e27
   simp only [Net.cells] at e27
   simp only [go_sem,reduceIte,reduceEqDiff,reduceAdd,reduceMul,reduceSub,reduceLeDiff,reduceLT,Nat.reduceBEq,reduceCtorEq,Net.cells,e27,neg_one]
   simp [hasI,hf]
 | some i =>
   obtain ⟨l,hl,hlt,hmem⟩:=findL_at hf
   simp only [findI,hf] at e27
   simp only [Net.cells] at e27
   have e26:=pe26 l (hn.2 l hmem)
   simp only [Ln.row] at e26
   have hr:=map_at (f:=Ln.row) hl
   simp only [Ln.row] at hr
   rcases Classical.propComplete (m < 0) with h1 | h1<;>rcases Classical.propComplete (m < sumW l.ps 0) with h2 | h2<;>simp only [go_sem,reduceIte,reduceEqDiff,reduceAdd,reduceMul,reduceSub,reduceLeDiff,reduceLT,Nat.reduceBEq,reduceCtorEq,Net.cells,e27,neg_cast,List.length_map,hlt,hr,e26,h1,h2,e48]<;>simp [hasI,hf,hl,h1,h2]
end Go.Sim

/-
Pieces, places and metres.
-/
namespace Go.Sim
open Go Go.Proofs
set_option maxRecDepth 100000
set_option maxHeartbeats 1000000
noncomputable def p35:List AV→Option AV:=primOf (α:=Int × Int × Int) (fun x=>[i64 x.1,i64 x.2.1,i64 x.2.2]) (fun _=>True) (fun x=>i64 (rangeI x.1 x.2.1 x.2.2))
theorem pok35:∀ args v,p35 args=some v → ∀ lo H,CallOk NC lo 35 args H v H:=by
 intro args v h
 obtain ⟨x,rfl,hp,rfl⟩:=primOf_inv h
 clear h
 revert x
 intro x;exact c35 x.1 x.2.1 x.2.2
theorem pe35 (x:Int × Int × Int) (hp:(fun _=>True) x):p35 ((fun x=>[i64 x.1,i64 x.2.1,i64 x.2.2]) x)=some ((fun x=>i64 (rangeI x.1 x.2.1 x.2.2)) x):=primOf_enc (by intro x y h;(obtain ⟨a,b,c⟩:=x;obtain ⟨d,e,f⟩:=y;simp at h;obtain ⟨rfl,rfl,rfl⟩:=h;rfl)) x hp
theorem e35 (n a b:Int):p35 [.int .i64 n,.int .i64 a,.int .i64 b]=some (.int .i64 (rangeI n a b)):=pe35 (n,a,b) trivial
noncomputable def p115:List AV→Option AV:=primOf (α:=Int × Int × Int) (fun x=>[i64 x.1,i64 x.2.1,i64 x.2.2]) (fun _=>True) (fun x=>i64 (rangeI x.1 x.2.1 x.2.2))
theorem pok115:∀ args v,p115 args=some v → ∀ lo H,CallOk NC lo 115 args H v H:=by
 intro args v h
 obtain ⟨x,rfl,hp,rfl⟩:=primOf_inv h
 clear h
 revert x
 intro x;exact c115 x.1 x.2.1 x.2.2
theorem pe115 (x:Int × Int × Int) (hp:(fun _=>True) x):p115 ((fun x=>[i64 x.1,i64 x.2.1,i64 x.2.2]) x)=some ((fun x=>i64 (rangeI x.1 x.2.1 x.2.2)) x):=primOf_enc (by intro x y h;(obtain ⟨a,b,c⟩:=x;obtain ⟨d,e,f⟩:=y;simp at h;obtain ⟨rfl,rfl,rfl⟩:=h;rfl)) x hp
theorem e115 (n a b:Int):p115 [.int .i64 n,.int .i64 a,.int .i64 b]=some (.int .i64 (rangeI n a b)):=pe115 (n,a,b) trivial
noncomputable def p36:List AV→Option AV:=primOf (α:=List Nat) (fun x=>[.str x]) (fun _=>True) (fun x=>i64 (whenI (!nameB x) 8))
theorem pok36:∀ args v,p36 args=some v → ∀ lo H,CallOk NC lo 36 args H v H:=by
 intro args v h
 obtain ⟨x,rfl,hp,rfl⟩:=primOf_inv h
 clear h
 revert x
 intro x;exact c36 x
theorem pe36 (x:List Nat) (hp:(fun _=>True) x):p36 ((fun x=>[.str x]) x)=some ((fun x=>i64 (whenI (!nameB x) 8)) x):=primOf_enc (by intro x y h;simpa using h) x hp
theorem e36 (s:List Nat):p36 [.str s]=some (.int .i64 (whenI (!nameB s) 8)):=pe36 s trivial
noncomputable def p120:List AV→Option AV:=primOf (α:=List Nat) (fun x=>[.str x]) (fun x=>x.length≤maxRows) (fun x=>i64 (whenI (!nameB x) 8))
theorem pok120:∀ args v,p120 args=some v → ∀ lo H,CallOk NC lo 120 args H v H:=by
 intro args v h
 obtain ⟨x,rfl,hp,rfl⟩:=primOf_inv h
 clear h
 revert x
 intro x hx;exact c120 x hx
theorem pe120 (x:List Nat) (hp:(fun x=>x.length≤maxRows) x):p120 ((fun x=>[.str x]) x)=some ((fun x=>i64 (whenI (!nameB x) 8)) x):=primOf_enc (by intro x y h;simpa using h) x hp
theorem e120 (s:List Nat) (hs:s.length≤maxRows):p120 [.str s]=some (.int .i64 (whenI (!nameB s) 8)):=pe120 s hs
noncomputable def p106:List AV→Option AV:=primOf (α:=Net × List Nat × Int) (fun x=>[.agg x.1.cells,.str x.2.1,i64 x.2.2]) (fun x=>x.1.fits) (fun x=>i64 (hasI x.1.lines x.2.1 x.2.2))
theorem pok106:∀ args v,p106 args=some v → ∀ lo H,CallOk NC lo 106 args H v H:=by
 intro args v h
 obtain ⟨x,rfl,hp,rfl⟩:=primOf_inv h
 clear h
 revert x
 intro x hx;exact c106 x.1 x.2.1 x.2.2 hx
theorem pe106 (x:Net × List Nat × Int) (hp:(fun x=>x.1.fits) x):p106 ((fun x=>[.agg x.1.cells,.str x.2.1,i64 x.2.2]) x)=some ((fun x=>i64 (hasI x.1.lines x.2.1 x.2.2)) x):=primOf_enc (by intro x y h;(obtain ⟨a,b,c⟩:=x;obtain ⟨d,e,f⟩:=y;simp only [List.cons.injEq,AV.agg.injEq,AV.str.injEq,AV.int.injEq,true_and,and_true] at h;obtain ⟨h1,rfl,rfl⟩:=h;rw [Net.cells_inj _ _ h1])) x hp
noncomputable def PPC:FuncId→Option (List AV→Option AV):=addPrim 106 p106 (addPrim 120 p120 (addPrim 36 p36 (addPrim 115 p115 (addPrim 35 p35 (PPB)))))
theorem primsC:PrimsOk NC PPC:=primsOk_add (primsOk_add (primsOk_add (primsOk_add (primsOk_add (primsB) (by kernel_rfl) (by kernel_rfl) pok35) (by kernel_rfl) (by kernel_rfl) pok115) (by kernel_rfl) (by kernel_rfl) pok36) (by kernel_rfl) (by kernel_rfl) pok120) (by kernel_rfl) (by kernel_rfl) pok106
theorem enC_48:En PPC 48 p48:=enter_prim (by rfl) (by kernel_rfl)
theorem enC_121:En PPC 121 p121:=enter_prim (by rfl) (by kernel_rfl)
theorem enC_34:En PPC 34 p34:=enter_prim (by rfl) (by kernel_rfl)
theorem enC_111:En PPC 111 p111:=enter_prim (by rfl) (by kernel_rfl)
theorem enC_26:En PPC 26 p26:=enter_prim (by rfl) (by kernel_rfl)
theorem enC_178:En PPC 178 p178:=enter_prim (by rfl) (by kernel_rfl)
theorem enC_109:En PPC 109 p109:=enter_prim (by rfl) (by kernel_rfl)
theorem enC_108:En PPC 108 p108:=enter_prim (by rfl) (by kernel_rfl)
theorem enC_27:En PPC 27 p27:=enter_prim (by rfl) (by kernel_rfl)
theorem enC_97:En PPC 97 p97:=enter_prim (by rfl) (by kernel_rfl)
theorem enC_122:En PPC 122 p122:=enter_prim (by rfl) (by kernel_rfl)
theorem enC_182:En PPC 182 p182:=enter_prim (by rfl) (by kernel_rfl)
theorem enC_35:En PPC 35 p35:=enter_prim (by rfl) (by kernel_rfl)
theorem enC_115:En PPC 115 p115:=enter_prim (by rfl) (by kernel_rfl)
theorem enC_36:En PPC 36 p36:=enter_prim (by rfl) (by kernel_rfl)
theorem enC_120:En PPC 120 p120:=enter_prim (by rfl) (by kernel_rfl)
theorem enC_106:En PPC 106 p106:=enter_prim (by rfl) (by kernel_rfl)
attribute [go_sem ↓] enC_48 enC_121 enC_34 enC_111 enC_26 enC_178 enC_109 enC_108 enC_27 enC_97 enC_122 enC_182
attribute [go_sem ↓] enC_35 enC_115 enC_36 enC_120 enC_106
def metresI (ls:List Ln) (s:List Nat) (fr till:Int):Int:=match findL ls s with
 | none=>10
 | some i=>match ls[i]? with
   | some l=>whenI (decide (fr < 0) || !decide (fr < till) || decide (sumW l.ps 0 < till)) 14
   | none=>0
theorem c126 (n:Net) (s:List Nat) (fr till:Int) (hn:n.fits):∀ lo H,CallOk NC lo 126 [.agg n.cells,.str s,.agg [i64 fr,i64 till]] H (i64 (metresI n.lines s fr till)) H:=by
 refine contract saneNC primsC (fn:=Tryz.f126) (by kernel_rfl) Tryz.func126 rfl rfl (by rfl) (by rfl) ?_
 have e27:=pe27 (n,s) hn.1
 cases hf:findL n.lines s with
 | none =>
   simp only [findI,hf] at e27
   simp only [Net.cells] at e27
   simp only [go_sem,reduceIte,reduceEqDiff,reduceAdd,reduceMul,reduceSub,reduceLeDiff,reduceLT,Nat.reduceBEq,reduceCtorEq,Net.cells,e27,neg_one]
   simp [metresI,hf]
 | some i =>
   obtain ⟨l,hl,hlt,hmem⟩:=findL_at hf
   simp only [findI,hf] at e27
   simp only [Net.cells] at e27
   have e26:=pe26 l (hn.2 l hmem)
   simp only [Ln.row] at e26
   have hr:=map_at (f:=Ln.row) hl
   simp only [Ln.row] at hr
   rcases Classical.propComplete (fr < 0) with h1 | h1<;>rcases Classical.propComplete (fr < till) with h2 | h2<;>rcases Classical.propComplete (sumW l.ps 0 < till) with h3 | h3<;>simp only [go_sem,reduceIte,reduceEqDiff,reduceAdd,reduceMul,reduceSub,reduceLeDiff,reduceLT,Nat.reduceBEq,reduceCtorEq,Net.cells,e27,neg_cast,List.length_map,hlt,hr,e26,h1,h2,h3,e48]<;>simp [metresI,hf,hl,h1,h2,h3]
def pieceR (p:Pc):Int :=
 let e:=firstI [rangeI p.len 1 100000,rangeI p.post 0 9999999]
 if e=0 then whenI (decide (postI p (wrapq .i64 (Int.sub p.len 1)) < 0) || decide (9999999 < postI p (wrapq .i64 (Int.sub p.len 1)))) 4 else e
theorem c179 (p:Pc):∀ lo H,CallOk NC lo 179 [.agg p.row] H (i64 (pieceR p)) H:=by
 refine contract saneNC primsC (fn:=Tryz.f179) (by kernel_rfl) Tryz.func179 rfl rfl (by rfl) (by rfl) ?_
 obtain ⟨l,q,b⟩:=p
 generalize hE:firstI [rangeI l 1 100000,rangeI q 0 9999999]=E
 generalize hF:postI ⟨l,q,b⟩ (wrapq .i64 (Int.sub l 1))=F
 rcases Classical.propComplete (E=0) with h0 | h0<;>rcases Classical.propComplete (F < 0) with h1 | h1<;>rcases Classical.propComplete (9999999 < F) with h2 | h2<;>simp only [go_sem,reduceIte,reduceEqDiff,reduceAdd,reduceMul,reduceSub,reduceLeDiff,reduceLT,Nat.reduceBEq,reduceCtorEq,Pc.row,e35,e34_2,e109,e48,hE,hF,h0,h1,h2,AV.strip0]<;>simp [pieceR,hE,hF,h0,h1,h2]
/-! ### The program -/
def lastI (p:Pc):Int:=wrapq .i64 (Int.add p.post (wrapq .i64 (Int.mul (stepI p.back) (wrapq .i64 (Int.sub p.len 1)))))
theorem c226 (p:Pc):∀ lo H,CallOk NC lo 226 [.agg p.row] H (i64 (lastI p)) H:=by
 refine contract saneNC primsC (fn:=Tryz.f226) (by kernel_rfl) Tryz.func226 rfl rfl (by rfl) (by rfl) ?_
 obtain ⟨l,q,b⟩:=p
 simp only [go_sem,reduceIte,reduceEqDiff,reduceAdd,reduceMul,reduceSub,reduceLeDiff,reduceLT,Nat.reduceBEq,reduceCtorEq,Pc.row,e178]
 rfl
def metreI (p:Pc) (post:Int):Int:=wrapq .i64 (Int.mul (wrapq .i64 (Int.sub post p.post)) (stepI p.back))
def metreB (p:Pc) (post:Int):Bool:=!decide (metreI p post < 0) && decide (metreI p post < p.len)
theorem c134 (p:Pc) (post:Int):∀ lo H,CallOk NC lo 134 [.agg p.row,i64 post] H (.tup [i64 (metreI p post),.bool (metreB p post)]) H:=by
 refine contract saneNC primsC (fn:=Tryz.f134) (by kernel_rfl) Tryz.func134 rfl rfl (by rfl) (by rfl) ?_
 obtain ⟨l,q,b⟩:=p
 generalize hE:wrapq .i64 (Int.mul (wrapq .i64 (Int.sub post q)) (stepI b))=E
 rcases Classical.propComplete (E < 0) with h1 | h1<;>rcases Classical.propComplete (E < l) with h2 | h2<;>simp only [go_sem,reduceIte,reduceEqDiff,reduceAdd,reduceMul,reduceSub,reduceLeDiff,reduceLT,Nat.reduceBEq,reduceCtorEq,Pc.row,e178,hE,h1,h2]<;>simp only [metreI,metreB,hE,h1,h2]<;>simp
end Go.Sim

/-
The reference: CheckNetwork.
-/
namespace Go.Sim
open Go Go.Proofs
set_option maxRecDepth 100000
set_option maxHeartbeats 2000000
noncomputable def p179:List AV→Option AV:=primOf (α:=Pc) (fun x=>[.agg x.row]) (fun _=>True) (fun x=>i64 (pieceR x))
theorem pok179:∀ args v,p179 args=some v → ∀ lo H,CallOk NC lo 179 args H v H:=by
 intro args v h
 obtain ⟨x,rfl,hp,rfl⟩:=primOf_inv h
 clear h
 revert x
 intro x;exact c179 x
theorem pe179 (x:Pc) (hp:(fun _=>True) x):p179 ((fun x=>[.agg x.row]) x)=some ((fun x=>i64 (pieceR x)) x):=primOf_enc (by intro x y h;exact pc1_inj x y h) x hp
theorem e179 (l q:Int) (b:Bool):p179 [.agg [.int .i64 l,.int .i64 q,.bool b]]=some (.int .i64 (pieceR ⟨l,q,b⟩)):=pe179 ⟨l,q,b⟩ trivial
noncomputable def p126:List AV→Option AV:=primOf (α:=Net × List Nat × Int × Int) (fun x=>[.agg x.1.cells,.str x.2.1,.agg [i64 x.2.2.1,i64 x.2.2.2]]) (fun x=>x.1.fits) (fun x=>i64 (metresI x.1.lines x.2.1 x.2.2.1 x.2.2.2))
theorem pok126:∀ args v,p126 args=some v → ∀ lo H,CallOk NC lo 126 args H v H:=by
 intro args v h
 obtain ⟨x,rfl,hp,rfl⟩:=primOf_inv h
 clear h
 revert x
 intro x hx;exact c126 x.1 x.2.1 x.2.2.1 x.2.2.2 hx
theorem pe126 (x:Net × List Nat × Int × Int) (hp:(fun x=>x.1.fits) x):p126 ((fun x=>[.agg x.1.cells,.str x.2.1,.agg [i64 x.2.2.1,i64 x.2.2.2]]) x)=some ((fun x=>i64 (metresI x.1.lines x.2.1 x.2.2.1 x.2.2.2)) x):=primOf_enc (by intro x y h;(obtain ⟨a,b,c,d⟩:=x;obtain ⟨a',b',c',d'⟩:=y;simp only [List.cons.injEq,AV.agg.injEq,AV.str.injEq,AV.int.injEq,true_and,and_true] at h;obtain ⟨h1,rfl,rfl,rfl⟩:=h;rw [Net.cells_inj _ _ h1])) x hp
noncomputable def PPD:FuncId→Option (List AV→Option AV):=addPrim 126 p126 (addPrim 179 p179 (PPC))
theorem primsD:PrimsOk NC PPD:=primsOk_add (primsOk_add (primsC) (by kernel_rfl) (by kernel_rfl) pok179) (by kernel_rfl) (by kernel_rfl) pok126
theorem enD_48:En PPD 48 p48:=enter_prim (by rfl) (by kernel_rfl)
theorem enD_121:En PPD 121 p121:=enter_prim (by rfl) (by kernel_rfl)
theorem enD_34:En PPD 34 p34:=enter_prim (by rfl) (by kernel_rfl)
theorem enD_111:En PPD 111 p111:=enter_prim (by rfl) (by kernel_rfl)
theorem enD_26:En PPD 26 p26:=enter_prim (by rfl) (by kernel_rfl)
theorem enD_178:En PPD 178 p178:=enter_prim (by rfl) (by kernel_rfl)
theorem enD_109:En PPD 109 p109:=enter_prim (by rfl) (by kernel_rfl)
theorem enD_108:En PPD 108 p108:=enter_prim (by rfl) (by kernel_rfl)
theorem enD_27:En PPD 27 p27:=enter_prim (by rfl) (by kernel_rfl)
theorem enD_97:En PPD 97 p97:=enter_prim (by rfl) (by kernel_rfl)
theorem enD_122:En PPD 122 p122:=enter_prim (by rfl) (by kernel_rfl)
theorem enD_182:En PPD 182 p182:=enter_prim (by rfl) (by kernel_rfl)
theorem enD_35:En PPD 35 p35:=enter_prim (by rfl) (by kernel_rfl)
theorem enD_115:En PPD 115 p115:=enter_prim (by rfl) (by kernel_rfl)
theorem enD_36:En PPD 36 p36:=enter_prim (by rfl) (by kernel_rfl)
theorem enD_120:En PPD 120 p120:=enter_prim (by rfl) (by kernel_rfl)
theorem enD_106:En PPD 106 p106:=enter_prim (by rfl) (by kernel_rfl)
theorem enD_179:En PPD 179 p179:=enter_prim (by rfl) (by kernel_rfl)
theorem enD_126:En PPD 126 p126:=enter_prim (by rfl) (by kernel_rfl)
attribute [go_sem ↓] enD_48 enD_121 enD_34 enD_111 enD_26 enD_178 enD_109 enD_108 enD_27 enD_97 enD_122 enD_182
attribute [go_sem ↓] enD_35 enD_115 enD_36 enD_120 enD_106 enD_179 enD_126
theorem errs_at {f:Nat→Int} {n k:Nat} (h:k < n):((List.range n).map f)[k]? = some (f k):=by simp [h]
def lineR (n:Net) (i:Nat):Int:=match n.lines[i]? with
 | none=>0
 | some l =>
   let e:=firstI [whenI (!nameB l.name) 8,whenI (decide (findI n.lines l.name < i)) 9,whenI (decide ((l.ps.length:Int)=0)) 12,whenI (decide ((8:Int) < l.ps.length)) 5]
   if e=0 then firstI (l.ps.map pieceR) else e
theorem c103 (n:Net) (i:Nat) (hn:n.fits) (hi:i < n.lines.length):∀ lo H,CallOk NC lo 103 [.agg n.cells,i64 i] H (i64 (lineR n i)) H:=by
 refine contract saneNC primsD (fn:=Tryz.f103) (by kernel_rfl) Tryz.func103 rfl rfl (by rfl) (by rfl) ?_
 obtain ⟨l,hl⟩:∃ l,n.lines[i]? = some l:=⟨n.lines[i],by simp⟩
 have hfit:l.ps.length≤maxRows:=hn.2 l (List.mem_of_getElem? hl)
 have e27:=pe27 (n,l.name) hn.1
 simp only [Net.cells,i64] at e27
 have hr:=map_at (f:=Ln.row) hl
 simp only [Ln.row] at hr
 generalize hE:firstI [whenI (!nameB l.name) 8,whenI (decide (findI n.lines l.name < i)) 9,whenI (decide ((l.ps.length:Int)=0)) 12,whenI (decide ((8:Int) < l.ps.length)) 5]=E
 have hsp:lineR n i=if E=0 then firstI (l.ps.map pieceR) else E:=by
  unfold lineR
  simp only [hl,hE]
 rcases Classical.propComplete (E=0) with h0 | h0
 · simp only [go_sem,reduceIte,reduceEqDiff,reduceAdd,reduceMul,reduceSub,reduceLeDiff,reduceLT,Nat.reduceBEq,reduceCtorEq,Net.cells,List.length_map,hi,hr,e36,e27,e48,e34_4,hE,h0]
   refine W_for (fun k T H M=>M=[]∧getT T 5=.ptr 1 0∧H.get 1=.cells [.str l.name,.ps .unk (l.ps.map Pc.row)] 56∧getT T 7=i64 k∧firstI (l.ps.map pieceR)=firstI ((l.ps.map pieceR).drop k)) l.ps.length ?_ ?_ ?_
   · simp only [go_sem,reduceIte,reduceEqDiff,reduceAdd,reduceMul,reduceSub,reduceLeDiff,reduceLT,Nat.reduceBEq,reduceCtorEq]
   · rintro k T H M hk ⟨rfl,g5,gH,g7,hf⟩
     obtain ⟨p,hp⟩:∃ p,l.ps[k]? = some p:=⟨l.ps[k],by simp⟩
     have hpr:=map_at (f:=Pc.row) hp
     have hw:=wrap_succ hk hfit
     have hfd:=firstI_drop (map_at (f:=pieceR) hp)
     obtain ⟨pl,pq,pb⟩:=p
     generalize hF:pieceR ⟨pl,pq,pb⟩=F at hfd
     simp only [Pc.row] at hpr
     rcases Classical.propComplete (F=0) with h1 | h1
     · simp only [go_sem,reduceIte,reduceEqDiff,reduceAdd,reduceMul,reduceSub,reduceLeDiff,reduceLT,Nat.reduceBEq,reduceCtorEq,g5,gH,g7,List.length_map,hk,hpr,hw,e179,hF,h1]
       simp [hf,hfd,h1]
     · simp only [go_sem,reduceIte,reduceEqDiff,reduceAdd,reduceMul,reduceSub,reduceLeDiff,reduceLT,Nat.reduceBEq,reduceCtorEq,g5,gH,g7,List.length_map,hk,hpr,hw,e179,hF,h1]
       simp [hsp,h0,hf,hfd,h1]
   · rintro T H M ⟨rfl,g5,gH,g7,hf⟩
     simp only [go_sem,reduceIte,reduceEqDiff,reduceAdd,reduceMul,reduceSub,reduceLeDiff,reduceLT,Nat.reduceBEq,reduceCtorEq,g5,gH,g7,List.length_map,Nat.lt_irrefl]
     rw [List.drop_eq_nil_of_le (by simp)] at hf
     simp [hsp,h0,hf,firstI]
 · simp only [go_sem,reduceIte,reduceEqDiff,reduceAdd,reduceMul,reduceSub,reduceLeDiff,reduceLT,Nat.reduceBEq,reduceCtorEq,Net.cells,List.length_map,hi,hr,e36,e27,e48,e34_4,hE,h0]
   simp [hsp,h0]
def dupB {α:Type} (nm:α→List Nat) (l:List α) (i:Nat) (s:List Nat):Bool:=(l.take i).any fun x=>beqL (nm x) s
theorem dupB_true {α:Type} {nm:α→List Nat} {l:List α} {i k:Nat} {s:List Nat} {x:α} (hk:k < i) (h:l[k]? = some x) (hb:beqL (nm x) s=true):dupB nm l i s=true:=by
 unfold dupB
 rw [List.any_eq_true]
 exact ⟨x,List.mem_of_getElem? (i:=k) (by rw [List.getElem?_take_of_lt hk];exact h),hb⟩
theorem dupB_false {α:Type} {nm:α→List Nat} {l:List α} {i:Nat} {s:List Nat} (h:∀ (j:Nat) (x:α),j < i→l[j]? = some x→beqL (nm x) s=false):dupB nm l i s=false:=by
 unfold dupB
 rw [List.any_eq_false]
 intro x hx
 obtain ⟨j,hj⟩:=List.mem_iff_getElem?.1 hx
 rw [List.getElem?_take] at hj
 split at hj
 · rename_i hlt;simp [h j x hlt hj]
 · cases hj
def switchR (n:Net) (i:Nat):Int:=match n.sws[i]? with
 | none=>0
 | some s =>
   let e:=whenI (!nameB s.name) 8
   if e=0 then (if dupB Sw.name n.sws i s.name then 9 else firstI [hasI n.lines s.line s.metre,whenI (decide (findI n.lines s.other < 0)) 10,whenI (beqL s.line s.other) 24]) else e
theorem c104 (n:Net) (i:Nat) (hn:n.fits) (hi:i < n.sws.length) (hs:n.sws.length≤maxRows):∀ lo H,CallOk NC lo 104 [.agg n.cells,i64 i] H (i64 (switchR n i)) H:=by
 refine contract saneNC primsD (fn:=Tryz.f104) (by kernel_rfl) Tryz.func104 rfl rfl (by rfl) (by rfl) ?_
 obtain ⟨s,hl⟩:∃ s,n.sws[i]? = some s:=⟨n.sws[i],by simp⟩
 have e27:=pe27 (n,s.other) hn.1
 simp only [Net.cells,i64] at e27
 have e106:=pe106 (n,s.line,s.metre) hn
 simp only [Net.cells,i64] at e106
 have hr:=map_at (f:=Sw.row) hl
 simp only [Sw.row] at hr
 generalize hE:whenI (!nameB s.name) 8=E
 rcases Classical.propComplete (E=0) with h0 | h0
 · simp only [go_sem,reduceIte,reduceEqDiff,reduceAdd,reduceMul,reduceSub,reduceLeDiff,reduceLT,Nat.reduceBEq,reduceCtorEq,Net.cells,List.length_map,hi,hr,e36,hE,h0]
   refine W_for (fun k T H M=>M=[]∧getT T 2=.ptr 0 0∧getT T 5=.ptr 1 0∧H.get 0=.cells n.cells 26∧H.get 1=.cells s.row 191∧getT T 1=i64 i∧getT T 7=i64 k ∧ ∀ (j:Nat) (x:Sw),j < k→n.sws[j]? = some x→beqL x.name s.name=false) i ?_ ?_ ?_
   · simp only [go_sem,reduceIte,reduceEqDiff,reduceAdd,reduceMul,reduceSub,reduceLeDiff,reduceLT,Nat.reduceBEq,reduceCtorEq];exact ⟨rfl,rfl,fun j x hj=>by omega⟩
   · rintro k T H M hk ⟨rfl,g2,g5,gH,gH1,g1,g7,hf⟩
     have hk':k < n.sws.length:=by omega
     obtain ⟨x,hx⟩:∃ p,n.sws[k]? = some p:=⟨n.sws[k],by simp⟩
     have hxr:=map_at (f:=Sw.row) hx
     have hw:=wrap_succ hk' hs
     simp only [Sw.row] at hxr
     cases hb:beqL x.name s.name with
     | true =>
       simp only [go_sem,reduceIte,reduceEqDiff,reduceAdd,reduceMul,reduceSub,reduceLeDiff,reduceLT,Nat.reduceBEq,reduceCtorEq,g1,g2,g5,gH,gH1,g7,Net.cells,Sw.row,List.length_map,hk,hk',hxr,hw,hb]
       simp [switchR,hl,hE,h0,dupB_true hk hx hb]
     | false =>
       simp only [go_sem,reduceIte,reduceEqDiff,reduceAdd,reduceMul,reduceSub,reduceLeDiff,reduceLT,Nat.reduceBEq,reduceCtorEq,g1,g2,g5,gH,gH1,g7,Net.cells,Sw.row,List.length_map,hk,hk',hxr,hw,hb]
       intro j y hj hy
       by_cases e:j=k
       · subst e;rw [hx] at hy;cases hy;exact hb
       · exact hf j y (by omega) hy
   · rintro T H M ⟨rfl,g2,g5,gH,gH1,g1,g7,hf⟩
     have hd:=dupB_false hf
     simp only [go_sem,reduceIte,reduceEqDiff,reduceAdd,reduceMul,reduceSub,reduceLeDiff,reduceLT,Nat.reduceBEq,reduceCtorEq,g1,g2,g5,gH,gH1,g7,Net.cells,Sw.row,Nat.lt_irrefl,e106,e27,e48,e34_3]
     simp [switchR,hl,hE,h0,hd]
 · simp only [go_sem,reduceIte,reduceEqDiff,reduceAdd,reduceMul,reduceSub,reduceLeDiff,reduceLT,Nat.reduceBEq,reduceCtorEq,Net.cells,List.length_map,hi,hr,e36,hE,h0]
   simp [switchR,hl,hE,h0]
def structR (n:Net) (i:Nat):Int:=match n.sts[i]? with
 | none=>0
 | some s =>
   let e:=whenI (!nameB s.name) 8
   if e=0 then (if dupB Stc.name n.sts i s.name then 9 else firstI [whenI (!decide (whenI (!nameB s.kind) 8=0)) 13,metresI n.lines s.line s.fr s.till]) else e
theorem c105 (n:Net) (i:Nat) (hn:n.fits) (hi:i < n.sts.length) (hs:n.sts.length≤maxRows):∀ lo H,CallOk NC lo 105 [.agg n.cells,i64 i] H (i64 (structR n i)) H:=by
 refine contract saneNC primsD (fn:=Tryz.f105) (by kernel_rfl) Tryz.func105 rfl rfl (by rfl) (by rfl) ?_
 obtain ⟨s,hl⟩:∃ s,n.sts[i]? = some s:=⟨n.sts[i],by simp⟩
 have e126:=pe126 (n,s.line,s.fr,s.till) hn
 simp only [Net.cells,i64] at e126
 have hr:=map_at (f:=Stc.row) hl
 simp only [Stc.row] at hr
 generalize hE:whenI (!nameB s.name) 8=E
 rcases Classical.propComplete (E=0) with h0 | h0
 · simp only [go_sem,reduceIte,reduceEqDiff,reduceAdd,reduceMul,reduceSub,reduceLeDiff,reduceLT,Nat.reduceBEq,reduceCtorEq,Net.cells,List.length_map,hi,hr,e36,hE,h0]
   refine W_for (fun k T H M=>M=[]∧getT T 2=.ptr 0 0∧getT T 5=.ptr 1 0∧H.get 0=.cells n.cells 26∧H.get 1=.cells s.row 193∧getT T 1=i64 i∧getT T 7=i64 k ∧ ∀ (j:Nat) (x:Stc),j < k→n.sts[j]? = some x→beqL x.name s.name=false) i ?_ ?_ ?_
   · simp only [go_sem,reduceIte,reduceEqDiff,reduceAdd,reduceMul,reduceSub,reduceLeDiff,reduceLT,Nat.reduceBEq,reduceCtorEq];exact ⟨rfl,rfl,fun j x hj=>by omega⟩
   · rintro k T H M hk ⟨rfl,g2,g5,gH,gH1,g1,g7,hf⟩
     have hk':k < n.sts.length:=by omega
     obtain ⟨x,hx⟩:∃ p,n.sts[k]? = some p:=⟨n.sts[k],by simp⟩
     have hxr:=map_at (f:=Stc.row) hx
     have hw:=wrap_succ hk' hs
     simp only [Stc.row] at hxr
     cases hb:beqL x.name s.name with
     | true =>
       simp only [go_sem,reduceIte,reduceEqDiff,reduceAdd,reduceMul,reduceSub,reduceLeDiff,reduceLT,Nat.reduceBEq,reduceCtorEq,g1,g2,g5,gH,gH1,g7,Net.cells,Stc.row,List.length_map,hk,hk',hxr,hw,hb]
       simp [structR,hl,hE,h0,dupB_true hk hx hb]
     | false =>
       simp only [go_sem,reduceIte,reduceEqDiff,reduceAdd,reduceMul,reduceSub,reduceLeDiff,reduceLT,Nat.reduceBEq,reduceCtorEq,g1,g2,g5,gH,gH1,g7,Net.cells,Stc.row,List.length_map,hk,hk',hxr,hw,hb]
       intro j y hj hy
       by_cases e:j=k
       · subst e;rw [hx] at hy;cases hy;exact hb
       · exact hf j y (by omega) hy
   · rintro T H M ⟨rfl,g2,g5,gH,gH1,g1,g7,hf⟩
     have hd:=dupB_false hf
     simp only [go_sem,reduceIte,reduceEqDiff,reduceAdd,reduceMul,reduceSub,reduceLeDiff,reduceLT,Nat.reduceBEq,reduceCtorEq,g1,g2,g5,gH,gH1,g7,Net.cells,Stc.row,Nat.lt_irrefl,e36,e126,e48,e34_2]
     simp [structR,hl,hE,h0,hd]
 · simp only [go_sem,reduceIte,reduceEqDiff,reduceAdd,reduceMul,reduceSub,reduceLeDiff,reduceLT,Nat.reduceBEq,reduceCtorEq,Net.cells,List.length_map,hi,hr,e36,hE,h0]
   simp [structR,hl,hE,h0]
noncomputable def p103:List AV→Option AV:=primOf (α:=Net × Nat) (fun x=>[.agg x.1.cells,i64 x.2]) (fun x=>x.1.fits∧x.2 < x.1.lines.length) (fun x=>i64 (lineR x.1 x.2))
theorem pok103:∀ args v,p103 args=some v → ∀ lo H,CallOk NC lo 103 args H v H:=by
 intro args v h
 obtain ⟨x,rfl,hp,rfl⟩:=primOf_inv h
 clear h
 revert x
 intro x hx;exact c103 x.1 x.2 hx.1 hx.2
theorem pe103 (x:Net × Nat) (hp:(fun x=>x.1.fits∧x.2 < x.1.lines.length) x):p103 ((fun x=>[.agg x.1.cells,i64 x.2]) x)=some ((fun x=>i64 (lineR x.1 x.2)) x):=primOf_enc (by intro x y h;(obtain ⟨a,b⟩:=x;obtain ⟨c,d⟩:=y;simp only [List.cons.injEq,AV.agg.injEq,AV.int.injEq,true_and,and_true] at h;obtain ⟨h1,h2⟩:=h;rw [Net.cells_inj _ _ h1,Int.ofNat.inj h2])) x hp
noncomputable def p104:List AV→Option AV:=primOf (α:=Net × Nat) (fun x=>[.agg x.1.cells,i64 x.2]) (fun x=>x.1.fits∧x.2 < x.1.sws.length∧x.1.sws.length≤maxRows) (fun x=>i64 (switchR x.1 x.2))
theorem pok104:∀ args v,p104 args=some v → ∀ lo H,CallOk NC lo 104 args H v H:=by
 intro args v h
 obtain ⟨x,rfl,hp,rfl⟩:=primOf_inv h
 clear h
 revert x
 intro x hx;exact c104 x.1 x.2 hx.1 hx.2.1 hx.2.2
theorem pe104 (x:Net × Nat) (hp:(fun x=>x.1.fits∧x.2 < x.1.sws.length∧x.1.sws.length≤maxRows) x):p104 ((fun x=>[.agg x.1.cells,i64 x.2]) x)=some ((fun x=>i64 (switchR x.1 x.2)) x):=primOf_enc (by intro x y h;(obtain ⟨a,b⟩:=x;obtain ⟨c,d⟩:=y;simp only [List.cons.injEq,AV.agg.injEq,AV.int.injEq,true_and,and_true] at h;obtain ⟨h1,h2⟩:=h;rw [Net.cells_inj _ _ h1,Int.ofNat.inj h2])) x hp
noncomputable def p105:List AV→Option AV:=primOf (α:=Net × Nat) (fun x=>[.agg x.1.cells,i64 x.2]) (fun x=>x.1.fits∧x.2 < x.1.sts.length∧x.1.sts.length≤maxRows) (fun x=>i64 (structR x.1 x.2))
theorem pok105:∀ args v,p105 args=some v → ∀ lo H,CallOk NC lo 105 args H v H:=by
 intro args v h
 obtain ⟨x,rfl,hp,rfl⟩:=primOf_inv h
 clear h
 revert x
 intro x hx;exact c105 x.1 x.2 hx.1 hx.2.1 hx.2.2
theorem pe105 (x:Net × Nat) (hp:(fun x=>x.1.fits∧x.2 < x.1.sts.length∧x.1.sts.length≤maxRows) x):p105 ((fun x=>[.agg x.1.cells,i64 x.2]) x)=some ((fun x=>i64 (structR x.1 x.2)) x):=primOf_enc (by intro x y h;(obtain ⟨a,b⟩:=x;obtain ⟨c,d⟩:=y;simp only [List.cons.injEq,AV.agg.injEq,AV.int.injEq,true_and,and_true] at h;obtain ⟨h1,h2⟩:=h;rw [Net.cells_inj _ _ h1,Int.ofNat.inj h2])) x hp
noncomputable def PPE:FuncId→Option (List AV→Option AV):=addPrim 105 p105 (addPrim 104 p104 (addPrim 103 p103 (PPD)))
theorem primsE:PrimsOk NC PPE:=primsOk_add (primsOk_add (primsOk_add (primsD) (by kernel_rfl) (by kernel_rfl) pok103) (by kernel_rfl) (by kernel_rfl) pok104) (by kernel_rfl) (by kernel_rfl) pok105
theorem enE_48:En PPE 48 p48:=enter_prim (by rfl) (by kernel_rfl)
theorem enE_121:En PPE 121 p121:=enter_prim (by rfl) (by kernel_rfl)
theorem enE_34:En PPE 34 p34:=enter_prim (by rfl) (by kernel_rfl)
theorem enE_111:En PPE 111 p111:=enter_prim (by rfl) (by kernel_rfl)
theorem enE_26:En PPE 26 p26:=enter_prim (by rfl) (by kernel_rfl)
theorem enE_178:En PPE 178 p178:=enter_prim (by rfl) (by kernel_rfl)
theorem enE_109:En PPE 109 p109:=enter_prim (by rfl) (by kernel_rfl)
theorem enE_108:En PPE 108 p108:=enter_prim (by rfl) (by kernel_rfl)
theorem enE_27:En PPE 27 p27:=enter_prim (by rfl) (by kernel_rfl)
theorem enE_97:En PPE 97 p97:=enter_prim (by rfl) (by kernel_rfl)
theorem enE_122:En PPE 122 p122:=enter_prim (by rfl) (by kernel_rfl)
theorem enE_182:En PPE 182 p182:=enter_prim (by rfl) (by kernel_rfl)
theorem enE_35:En PPE 35 p35:=enter_prim (by rfl) (by kernel_rfl)
theorem enE_115:En PPE 115 p115:=enter_prim (by rfl) (by kernel_rfl)
theorem enE_36:En PPE 36 p36:=enter_prim (by rfl) (by kernel_rfl)
theorem enE_120:En PPE 120 p120:=enter_prim (by rfl) (by kernel_rfl)
theorem enE_106:En PPE 106 p106:=enter_prim (by rfl) (by kernel_rfl)
theorem enE_179:En PPE 179 p179:=enter_prim (by rfl) (by kernel_rfl)
theorem enE_126:En PPE 126 p126:=enter_prim (by rfl) (by kernel_rfl)
theorem enE_103:En PPE 103 p103:=enter_prim (by rfl) (by kernel_rfl)
theorem enE_104:En PPE 104 p104:=enter_prim (by rfl) (by kernel_rfl)
theorem enE_105:En PPE 105 p105:=enter_prim (by rfl) (by kernel_rfl)
attribute [go_sem ↓] enE_48 enE_121 enE_34 enE_111 enE_26 enE_178 enE_109 enE_108 enE_27 enE_97 enE_122 enE_182
attribute [go_sem ↓] enE_35 enE_115 enE_36 enE_120 enE_106 enE_179 enE_126 enE_103 enE_104 enE_105
def allR (f:Nat→Int) (n:Nat):Int:=firstI ((List.range n).map f)
theorem allR_step {f:Nat→Int} {n k:Nat} (h:k < n):firstI (((List.range n).map f).drop k)=if f k=0 then firstI (((List.range n).map f).drop (k+1)) else f k:=firstI_drop (errs_at h)
theorem allR_end (f:Nat→Int) (n:Nat):firstI (((List.range n).map f).drop n)=0:=by
 rw [List.drop_eq_nil_of_le (by simp)];rfl
def netR (n:Net):Int :=
 if (8:Int) < n.lines.length then 5 else
 if allR (lineR n) n.lines.length=0 then
  if (8:Int) < n.sws.length then 5 else
  if allR (switchR n) n.sws.length=0 then
   if (16:Int) < n.sts.length then 5 else allR (structR n) n.sts.length
  else allR (switchR n) n.sws.length
 else allR (lineR n) n.lines.length
theorem c22 (n : Net) (hn : n.fits) (h1 : n.sws.length ≤ maxRows) (h2 : n.sts.length ≤ maxRows) : ∀ lo H, CallOk NC lo 22 [.agg n.cells] H (i64 (netR n)) H := by
 refine contract saneNC primsE (fn := Tryz.f22) (by kernel_rfl) Tryz.func22 rfl rfl (by rfl) (by rfl) ?_
 have e103 : ∀ k, k < n.lines.length → p103 [.agg [.ps .unk (n.lines.map Ln.row), .ps .unk (n.sws.map Sw.row), .ps .unk (n.sts.map Stc.row)], .int .i64 (k : Nat)] = some (.int .i64 (lineR n k)) := fun k hk => pe103 (n, k) ⟨hn, hk⟩
 have e104 : ∀ k, k < n.sws.length → p104 [.agg [.ps .unk (n.lines.map Ln.row), .ps .unk (n.sws.map Sw.row), .ps .unk (n.sts.map Stc.row)], .int .i64 (k : Nat)] = some (.int .i64 (switchR n k)) := fun k hk => pe104 (n, k) ⟨hn, hk, h1⟩
 have e105 : ∀ k, k < n.sts.length → p105 [.agg [.ps .unk (n.lines.map Ln.row), .ps .unk (n.sws.map Sw.row), .ps .unk (n.sts.map Stc.row)], .int .i64 (k : Nat)] = some (.int .i64 (structR n k)) := fun k hk => pe105 (n, k) ⟨hn, hk, h2⟩
 rcases Classical.propComplete ((8 : Int) < n.lines.length) with q1 | q1
 · simp only [go_sem, reduceIte, reduceEqDiff, reduceAdd, reduceMul, reduceSub, reduceLeDiff, reduceLT, Nat.reduceBEq, reduceCtorEq, Net.cells, List.length_map, q1]
   simp [netR, q1]
 simp only [go_sem, reduceIte, reduceEqDiff, reduceAdd, reduceMul, reduceSub, reduceLeDiff, reduceLT, Nat.reduceBEq, reduceCtorEq, Net.cells, List.length_map, q1]
 refine W_for (fun k T H M => M = [] ∧ getT T 1 = .ptr 0 0 ∧ H.get 0 = .cells n.cells 26 ∧ getT T 3 = i64 k ∧ allR (lineR n) n.lines.length = firstI (((List.range n.lines.length).map (lineR n)).drop k)) n.lines.length ?_ ?_ ?_
 · simp only [go_sem, reduceIte, reduceEqDiff, reduceAdd, reduceMul, reduceSub, reduceLeDiff, reduceLT, Nat.reduceBEq, reduceCtorEq]; exact ⟨rfl, rfl⟩
 · rintro k T H M hk ⟨rfl, g1, gH, g3, hf⟩
   have hw := wrap_succ hk hn.1
   have hfd := allR_step (f := lineR n) hk
   rcases Classical.propComplete (lineR n k = 0) with z | z
   · simp only [go_sem, reduceIte, reduceEqDiff, reduceAdd, reduceMul, reduceSub, reduceLeDiff, reduceLT, Nat.reduceBEq, reduceCtorEq, g1, gH, g3, Net.cells, List.length_map, hk, e103 k hk, hw, z]
     simp [hf, hfd, z]
   · simp only [go_sem, reduceIte, reduceEqDiff, reduceAdd, reduceMul, reduceSub, reduceLeDiff, reduceLT, Nat.reduceBEq, reduceCtorEq, g1, gH, g3, Net.cells, List.length_map, hk, e103 k hk, hw, z]
     simp [netR, q1, hf, hfd, z]
 rintro T H M ⟨rfl, g1, gH, g3, hf⟩
 rw [allR_end] at hf
 rcases Classical.propComplete ((8 : Int) < n.sws.length) with q2 | q2
 · simp only [go_sem, reduceIte, reduceEqDiff, reduceAdd, reduceMul, reduceSub, reduceLeDiff, reduceLT, Nat.reduceBEq, reduceCtorEq, g1, gH, g3, Net.cells, List.length_map, Nat.lt_irrefl, q2]
   simp [netR, q1, hf, q2]
 simp only [go_sem, reduceIte, reduceEqDiff, reduceAdd, reduceMul, reduceSub, reduceLeDiff, reduceLT, Nat.reduceBEq, reduceCtorEq, g1, gH, g3, Net.cells, List.length_map, Nat.lt_irrefl, q2]
 refine W_for (fun k T H M => M = [] ∧ getT T 1 = .ptr 0 0 ∧ H.get 0 = .cells n.cells 26 ∧ getT T 5 = i64 k ∧ allR (switchR n) n.sws.length = firstI (((List.range n.sws.length).map (switchR n)).drop k)) n.sws.length ?_ ?_ ?_
 · simp only [go_sem, reduceIte, reduceEqDiff, reduceAdd, reduceMul, reduceSub, reduceLeDiff, reduceLT, Nat.reduceBEq, reduceCtorEq, g1, gH, Net.cells]; rfl
 · rintro k T H M hk ⟨rfl, g1, gH, g3, hf2⟩
   have hw := wrap_succ hk h1
   have hfd := allR_step (f := switchR n) hk
   rcases Classical.propComplete (switchR n k = 0) with z | z
   · simp only [go_sem, reduceIte, reduceEqDiff, reduceAdd, reduceMul, reduceSub, reduceLeDiff, reduceLT, Nat.reduceBEq, reduceCtorEq, g1, gH, g3, Net.cells, List.length_map, hk, e104 k hk, hw, z]
     simp [hf2, hfd, z]
   · simp only [go_sem, reduceIte, reduceEqDiff, reduceAdd, reduceMul, reduceSub, reduceLeDiff, reduceLT, Nat.reduceBEq, reduceCtorEq, g1, gH, g3, Net.cells, List.length_map, hk, e104 k hk, hw, z]
     simp [netR, q1, hf, q2, hf2, hfd, z]
 rintro T H M ⟨rfl, g1, gH, g3, hf2⟩
 rw [allR_end] at hf2
 rcases Classical.propComplete ((16 : Int) < n.sts.length) with q3 | q3
 · simp only [go_sem, reduceIte, reduceEqDiff, reduceAdd, reduceMul, reduceSub, reduceLeDiff, reduceLT, Nat.reduceBEq, reduceCtorEq, g1, gH, g3, Net.cells, List.length_map, Nat.lt_irrefl, q3]
   simp [netR, q1, hf, q2, hf2, q3]
 simp only [go_sem, reduceIte, reduceEqDiff, reduceAdd, reduceMul, reduceSub, reduceLeDiff, reduceLT, Nat.reduceBEq, reduceCtorEq, g1, gH, g3, Net.cells, List.length_map, Nat.lt_irrefl, q3]
 refine W_for (fun k T H M => M = [] ∧ getT T 1 = .ptr 0 0 ∧ H.get 0 = .cells n.cells 26 ∧ getT T 7 = i64 k ∧ allR (structR n) n.sts.length = firstI (((List.range n.sts.length).map (structR n)).drop k)) n.sts.length ?_ ?_ ?_
 · simp only [go_sem, reduceIte, reduceEqDiff, reduceAdd, reduceMul, reduceSub, reduceLeDiff, reduceLT, Nat.reduceBEq, reduceCtorEq, g1, gH, Net.cells]; rfl
 · rintro k T H M hk ⟨rfl, g1, gH, g3, hf3⟩
   have hw := wrap_succ hk h2
   have hfd := allR_step (f := structR n) hk
   rcases Classical.propComplete (structR n k = 0) with z | z
   · simp only [go_sem, reduceIte, reduceEqDiff, reduceAdd, reduceMul, reduceSub, reduceLeDiff, reduceLT, Nat.reduceBEq, reduceCtorEq, g1, gH, g3, Net.cells, List.length_map, hk, e105 k hk, hw, z]
     simp [hf3, hfd, z]
   · simp only [go_sem, reduceIte, reduceEqDiff, reduceAdd, reduceMul, reduceSub, reduceLeDiff, reduceLT, Nat.reduceBEq, reduceCtorEq, g1, gH, g3, Net.cells, List.length_map, hk, e105 k hk, hw, z]
     simp [netR, q1, hf, q2, hf2, q3, hf3, hfd, z]
 rintro T H M ⟨rfl, g1, gH, g3, hf3⟩
 rw [allR_end] at hf3
 simp only [go_sem, reduceIte, reduceEqDiff, reduceAdd, reduceMul, reduceSub, reduceLeDiff, reduceLT, Nat.reduceBEq, reduceCtorEq, g1, gH, g3, Net.cells, List.length_map, Nat.lt_irrefl]
 simp [netR, q1, hf, q2, hf2, q3, hf3]
end Go.Sim

/-
The program: the pieces of a line.
-/
namespace Go.Sim
open Go Go.Proofs
set_option maxRecDepth 100000
set_option maxHeartbeats 2000000
def begI (l:Ln) (k:Nat):Int:=sumW (l.ps.take k) 0
theorem sumW_append (a b:List Pc) (s:Int):sumW (a++b) s=sumW b (sumW a s):=by
 induction a generalizing s with
 | nil=>rfl
 | cons x r ih=>simp only [List.cons_append,sumW,ih]
theorem begI_succ {l:Ln} {k:Nat} {p:Pc} (h:l.ps[k]? = some p):begI l (k+1)=wrapq .i64 (Int.add (begI l k) p.len):=by
 unfold begI
 have:l.ps.take (k+1)=l.ps.take k++[p]:=by rw [List.take_add_one,h];rfl
 rw [this,sumW_append];rfl
theorem begI_all (l:Ln):begI l l.ps.length=sumW l.ps 0:=by unfold begI;rw [List.take_length]
variable {P:FuncId→Option (List AV→Option AV)}
theorem pieces_run {lo y c base:Nat} {l:Ln} {H:Heap} (hl:l.ps.length≤maxRows) (hlo:lo≤base) (J:Nat→Heap→Prop) (E:Heap→Prop)
 (hJ0:J 0 H) (hb0:base≤H.n) (hJc:∀ k H,J k H→H.get c=.cells l.row 196)
 (hJp:∀ k H b,J k H→base≤H.n→J k (H.push b)) (hJs:∀ k H b j,J k H→base≤j→J k (H.set j b))
 (hy:∀ k p H,l.ps[k]? = some p→J k H→base≤H.n → ∃ v H',R (NC.withPrims P) (.yield lo y [i64 (begI l k),.agg p.row] H)=some (.ofVal (.bool v) H')∧(if v then J (k+1) H' else E H')∧H.n≤H'.n ∧ ∀ j,base≤j→j < H.n→H'.get j=H.get j) :
 ∃ v H',R (NC.withPrims P) (.call lo 225 [.yld y,.ptr c 0] H)=some (.ofVal v H')∧(J l.ps.length H'∨E H'):=by
 refine R_of_body (C:=NC.withPrims P) (fn:=Tryz.f225) (Q:=fun _ H'=>J l.ps.length H'∨E H') (by kernel_rfl) Tryz.func225 rfl rfl ?_
 have hc0:=hJc 0 H hJ0
 simp only [Ln.row] at hc0
 simp only [go_sem,reduceIte,reduceEqDiff,reduceAdd,reduceMul,reduceSub,reduceLeDiff,reduceLT,Nat.reduceBEq,reduceCtorEq,hc0]
 refine W_for (fun k T' H' M'=>M'=[]∧getT T' 0=.yld y∧getT T' 7=.ps .unk (l.ps.map Pc.row)∧getT T' 8=i64 (l.ps.length:Nat)∧getT T' 9=i64 k∧getT T' 3=i64 (begI l k)∧J k H'∧base≤H'.n) l.ps.length ?_ ?_ ?_
 · simp only [go_sem,reduceIte,reduceEqDiff,reduceAdd,reduceMul,reduceSub,reduceLeDiff,reduceLT,Nat.reduceBEq,reduceCtorEq,List.length_map];exact ⟨rfl,hJ0,hb0⟩
 · rintro k T' H' M' hk ⟨rfl,g0,g7,g8,g9,g3,hJ,hb⟩
   obtain ⟨p,hp⟩:∃ p,l.ps[k]? = some p:=⟨l.ps[k],by simp⟩
   have hpr:=map_at (f:=Pc.row) hp
   have hw:=wrap_succ hk hl
   have hbs:=begI_succ hp
   have hlo':lo≤H'.n:=Nat.le_trans hlo hb
   obtain ⟨v,H2,hr,h1,h2,h3⟩:=hy k p ((H'.push (.cells [i64 0,i64 0,.bool false] 200)).set H'.n (.cells p.row 200)) hp (hJs _ _ _ _ (hJp _ _ _ hJ hb) hb) (by simp only [Heap.n_set,Heap.n_push];omega)
   have h4:=h3 H'.n hb (by simp)
   rw [Heap.get_set,if_pos rfl] at h4
   obtain ⟨pl,pq,pb⟩:=p
   simp only [Pc.row] at hpr h4 hr
   cases v with
   | true =>
     simp only [go_sem,reduceIte,reduceEqDiff,reduceAdd,reduceMul,reduceSub,reduceLeDiff,reduceLT,Nat.reduceBEq,reduceCtorEq,g0,g7,g8,g9,g3,List.length_map,hk,hpr,hw,hlo',op_callY (l:=y),hr,ofVal_v,ofVal_H,h4]
     simp only [Heap.n_set,Heap.n_push] at h2
     exact ⟨by rw [hbs],h1,by omega⟩
   | false =>
     simp only [go_sem,reduceIte,reduceEqDiff,reduceAdd,reduceMul,reduceSub,reduceLeDiff,reduceLT,Nat.reduceBEq,reduceCtorEq,g0,g7,g8,g9,g3,List.length_map,hk,hpr,hw,hlo',op_callY (l:=y),hr,ofVal_v,ofVal_H,h4]
     exact .inr h1
 · rintro T' H' M' ⟨rfl,g0,g7,g8,g9,g3,hJ,hb⟩
   simp only [go_sem,reduceIte,reduceEqDiff,reduceAdd,reduceMul,reduceSub,reduceLeDiff,reduceLT,Nat.reduceBEq,reduceCtorEq,g0,g7,g8,g9,g3,List.length_map,Nat.lt_irrefl]
   exact .inl hJ
theorem W_piecesG {lo:Nat} {fid:FuncId} {g:Operand} {params:Array Tmp} {pa pb:Tmp} (hpar:params.toList=[pa,pb]) {assign body:Code} {T:TT AV} {H:Heap} {M:List Nat} {Q:AExit→TT AV→Heap→List Nat→Prop}
 {l:Ln} {c:Nat} (hl:l.ps.length≤maxRows) (hlo:lo≤H.n) (hg:evalO (NC.withPrims P) T g=some (.fn 225 [] [.ptr c 0])) (hc:c < H.n)
 (G:Nat→Prop) (hG:G 0) (B:Nat→Nat→ABlk) (E:AExit→Heap→Prop) (hB0:∀ i,i < H.n→H.get i=B 0 i) (hBc:∀ k,B k c=.cells l.row 196)
 (round:∀ k p Hk m,l.ps[k]? = some p→Hk.n=m+(H.n+2)→(∀ i,i < H.n→Hk.get i=B k i)→G k →
   W (NC.withPrims P) lo fid true assign (setT (setT T pa (i64 (begI l k))) pb (.agg p.row)) Hk [] fun e T1 H1 M1=>e=.nrm∧(∀ j,H.n≤j→j < Hk.n→H1.get j=Hk.get j) ∧
     ∀ r,W (NC.withPrims P) lo fid true body T1 (H1.set (H.n+1) r) M1 fun e T3 H3 _=>H3.get (H.n+1)=r∧Hk.n≤H3.n∧(∀ j,H.n≤j→j < Hk.n→j ≠ H.n+1→H3.get j=Hk.get j) ∧
       next e ((∀ i,i < H.n→H3.get i=B (k+1) i)∧G (k+1)) (E e H3))
 (fin:∀ H4,(∀ i,i < H.n→H4.get i=B l.ps.length i)→G l.ps.length→H4.get H.n=.defr→Q .nrm T H4 (H.n::M))
 (stop:∀ e H3 H4,e ≠ .nrm→E e H3→(∀ i,i ≠ H.n+1→H4.get i=H3.get i)→H3.get H.n=.defr→Q e T H4 (H.n::M)) :
 W (NC.withPrims P) lo fid false (.rangeFunc g params assign body) T H M Q:=by
 refine W_rangeFunc hg ?_
 let r0:ALoop:=⟨fid,T,params.toList,assign,body,.ready,none,H.n⟩
 let J:Nat→Heap→Prop:=fun k H'=>((∀ i,i < H.n→H'.get i=B k i)∧G k)∧H'.get H.n=.defr∧H'.get (H.n+1)=.loop r0∧H.n+2≤H'.n
 let EE:Heap→Prop:=fun H'=>∃ e H3,e ≠ .nrm∧E e H3∧H3.get H.n=.defr∧H'=H3.set (H.n+1) (.loop { r0 with state:=.done,pending:=some e })
 have hrun:∃ v H',R (NC.withPrims P) (.call lo 225 [.yld (H.n+1),.ptr c 0] ((H.push .defr).push (.loop r0)))=some (.ofVal v H')∧(J l.ps.length H'∨EE H'):=by
  refine pieces_run (P:=P) (lo:=lo) (y:=H.n+1) (c:=c) (base:=H.n+2) (l:=l) (H:=(H.push .defr).push (.loop r0)) hl (by omega) J EE ?_ ?_ ?_ ?_ ?_ ?_
  · refine ⟨⟨fun i hi => ?_,hG⟩, ?_, ?_,by simp⟩
    · rw [Heap.get_push,if_neg (by simp;omega),Heap.get_push,if_neg (by omega)];exact hB0 i hi
    · rw [Heap.get_push,if_neg (by simp),Heap.get_push,if_pos rfl]
    · rw [Heap.get_push,if_pos (by simp)]
  · simp
  · rintro k H' ⟨⟨h1,_⟩,_⟩
    rw [h1 c hc];exact hBc k
  · rintro k H' b ⟨⟨h1,hg1⟩,h2,h3,h4⟩ _
    exact ⟨⟨fun i hi=>by rw [Heap.get_push,if_neg (by omega)];exact h1 i hi,hg1⟩,by rw [Heap.get_push,if_neg (by omega)];exact h2,by rw [Heap.get_push,if_neg (by omega)];exact h3,by simp;omega⟩
  · rintro k H' b j ⟨⟨h1,hg1⟩,h2,h3,h4⟩ hj
    exact ⟨⟨fun i hi=>by rw [Heap.get_set,if_neg (by omega)];exact h1 i hi,hg1⟩,by rw [Heap.get_set,if_neg (by omega)];exact h2,by rw [Heap.get_set,if_neg (by omega)];exact h3,by simp;omega⟩
  · rintro k p Hk hp ⟨⟨h1,hg1⟩,h2,h3,h4⟩ _
    have hrd:=round k p Hk (Hk.n - (H.n+2)) hp (by omega) h1 hg1
    have hW:W (NC.withPrims P) lo fid true assign (setParams params.toList [i64 (begI l k),.agg p.row] T) Hk [] fun e T1 H1 M1=>e=.nrm∧H1.get (H.n+1)=.loop r0 ∧
     W (NC.withPrims P) lo fid true body T1 (H1.set (H.n+1) (.loop { r0 with state:=.busy })) M1 fun e T2 H2 M2=>H2.get (H.n+1)=.loop { r0 with state:=.busy } ∧
       next e (((if true then J (k+1) (H2.set (H.n+1) (.loop { r0 with state:=.ready,pending:=none })) else EE (H2.set (H.n+1) (.loop { r0 with state:=.ready,pending:=none })))∧Hk.n≤(H2.set (H.n+1) (.loop { r0 with state:=.ready,pending:=none })).n ∧ ∀ j,H.n+2≤j→j < Hk.n→(H2.set (H.n+1) (.loop { r0 with state:=.ready,pending:=none })).get j=Hk.get j))
        (((if false=true then J (k+1) (H2.set (H.n+1) (.loop { r0 with state:=.done,pending:=some e })) else EE (H2.set (H.n+1) (.loop { r0 with state:=.done,pending:=some e })))∧Hk.n≤(H2.set (H.n+1) (.loop { r0 with state:=.done,pending:=some e })).n ∧ ∀ j,H.n+2≤j→j < Hk.n→(H2.set (H.n+1) (.loop { r0 with state:=.done,pending:=some e })).get j=Hk.get j)):=by
     rw [hpar]
     refine W_mono hrd fun e T1 H1 M1 ⟨he,hk1,hb⟩=>⟨he, ?_,W_mono (hb _) fun e T3 H3 M3 ⟨q1,q2,q3,q4⟩=>⟨q1, ?_⟩⟩
     · rw [hk1 _ (by omega) (by omega)];exact h3
     · have hd:H3.get H.n=.defr:=by rw [q3 _ (Nat.le_refl _) (by omega) (by omega)];exact h2
       have keep:∀ b j,H.n+2≤j→j < Hk.n→(H3.set (H.n+1) b).get j=Hk.get j:=fun b j hj hj2=>by
        rw [Heap.get_set,if_neg (by omega)];exact q3 j (by omega) hj2 (by omega)
       cases e with
       | nrm =>
         refine ⟨⟨⟨fun i hi => ?_,q4.2⟩, ?_, ?_,by simp;omega⟩,by simpa using q2,keep _⟩
         · rw [Heap.get_set,if_neg (by omega)];exact q4.1 i hi
         · rw [Heap.get_set,if_neg (by omega)];exact hd
         · rw [Heap.get_set,if_pos rfl]
       | ext i=>exact ⟨⟨_,_,by simp,q4,hd,rfl⟩,by simpa using q2,keep _⟩
       | gto i=>exact ⟨⟨_,_,by simp,q4,hd,rfl⟩,by simpa using q2,keep _⟩
       | ret=>exact ⟨⟨_,_,by simp,q4,hd,rfl⟩,by simpa using q2,keep _⟩
    obtain ⟨v,H',e1,e2,e3,e4⟩:=R_yield (C:=NC.withPrims P) (r0:=r0) h3 rfl (by show params.toList.length=2;rw [hpar];rfl) (by omega:lo≤H.n+1) (Y:=fun v H'=>(if v then J (k+1) H' else EE H')∧Hk.n≤H'.n ∧ ∀ j,H.n+2≤j→j < Hk.n→H'.get j=Hk.get j) hW
    exact ⟨v,H',e1,e2,e3,e4⟩
 obtain ⟨v,H',hr,hJ⟩:=hrun
 refine ⟨v,H',hr, ?_⟩
 rcases hJ with ⟨⟨h1,hg1⟩,h2,h3,h4⟩ | ⟨e,H3,he,h1,h2,rfl⟩
 · refine ⟨r0,h3,by simp [r0], ?_⟩
   exact fin _ (fun i hi=>by rw [Heap.get_set,if_neg (by omega)];exact h1 i hi) hg1 (by rw [Heap.get_set,if_neg (by omega)];exact h2)
 · refine ⟨_,by rw [Heap.get_set,if_pos rfl],by simp, ?_⟩
   exact stop e H3 _ he h1 (fun i hi=>by rw [Heap.get_set,if_neg hi,Heap.get_set,if_neg hi]) h2
theorem W_pieces {lo:Nat} {fid:FuncId} {g:Operand} {params:Array Tmp} {pa pb:Tmp} (hpar:params.toList=[pa,pb]) {assign body:Code} {T:TT AV} {H:Heap} {M:List Nat} {Q:AExit→TT AV→Heap→List Nat→Prop}
 {l:Ln} {c:Nat} (hl:l.ps.length≤maxRows) (hlo:lo≤H.n) (hg:evalO (NC.withPrims P) T g=some (.fn 225 [] [.ptr c 0])) (hc:c < H.n)
 (B:Nat→Nat→ABlk) (E:AExit→Heap→Prop) (hB0:∀ i,i < H.n→H.get i=B 0 i) (hBc:∀ k,B k c=.cells l.row 196)
 (round:∀ k p Hk m,l.ps[k]? = some p→Hk.n=m+(H.n+2)→(∀ i,i < H.n→Hk.get i=B k i) →
   W (NC.withPrims P) lo fid true assign (setT (setT T pa (i64 (begI l k))) pb (.agg p.row)) Hk [] fun e T1 H1 M1=>e=.nrm∧(∀ j,H.n≤j→j < Hk.n→H1.get j=Hk.get j) ∧
     ∀ r,W (NC.withPrims P) lo fid true body T1 (H1.set (H.n+1) r) M1 fun e T3 H3 _=>H3.get (H.n+1)=r∧Hk.n≤H3.n∧(∀ j,H.n≤j→j < Hk.n→j ≠ H.n+1→H3.get j=Hk.get j) ∧
       next e (∀ i,i < H.n→H3.get i=B (k+1) i) (E e H3))
 (fin:∀ H4,(∀ i,i < H.n→H4.get i=B l.ps.length i)→H4.get H.n=.defr→Q .nrm T H4 (H.n::M))
 (stop:∀ e H3 H4,e ≠ .nrm→E e H3→(∀ i,i ≠ H.n+1→H4.get i=H3.get i)→H3.get H.n=.defr→Q e T H4 (H.n::M)) :
 W (NC.withPrims P) lo fid false (.rangeFunc g params assign body) T H M Q:=by
 refine W_piecesG hpar hl hlo hg hc (fun _=>True) trivial B E hB0 hBc ?_ (fun H4 h _=>fin H4 h) stop
 intro k p Hk m hp hm hB _
 refine W_mono (round k p Hk m hp hm hB) fun e T1 H1 M1 ⟨a,b,c⟩=>⟨a,b,fun r=>W_mono (c r) fun e T3 H3 M3 ⟨x1,x2,x3,x4⟩=>⟨x1,x2,x3, ?_⟩⟩
 cases e with
 | nrm=>exact ⟨x4,trivial⟩
 | _=>exact x4
end Go.Sim

/-
The program: lengths.
-/
namespace Go.Sim
open Go Go.Proofs
set_option maxRecDepth 100000
set_option maxHeartbeats 2000000
variable {P:FuncId→Option (List AV→Option AV)}
theorem r176 (lo:Nat) (l:Ln) (H:Heap):R (NC.withPrims P) (.call lo 176 [.agg l.row] H)=some (.ofVal (.fn 225 [] [.ptr H.n 0]) (H.push (.cells l.row 196))):=by
 obtain ⟨v,H',h1,h2,h3⟩:=R_of_body (C:=NC.withPrims P) (f:=176) (lo:=lo) (args:=[.agg l.row]) (H:=H) (fn:=Tryz.f176) (Q:=fun v H'=>v=.fn 225 [] [.ptr H.n 0]∧H'=H.push (.cells l.row 196)) (by kernel_rfl) Tryz.func176 rfl rfl (by
  obtain ⟨nm,ps⟩:=l
  simp only [go_sem,reduceIte,reduceEqDiff,reduceAdd,reduceMul,reduceSub,reduceLeDiff,reduceLT,Nat.reduceBEq,reduceCtorEq,Ln.row,evalO_nilf])
 rw [h1,h2,h3]
theorem en176 {f:Nat} (hf:f=176) (hP:P 176=none) {lo:Nat} {args:List AV} {H:Heap} {K:AV→Heap→Prop}:VO (aenter (NC.withPrims P) (R (NC.withPrims P)) lo f args H) K=AO (R (NC.withPrims P) (.call H.n 176 args H)) fun o=>K o.val o.s.H:=by
 subst hf
 refine enter_fresh rfl ?_ (by kernel_rfl) (by kernel_rfl) (by kernel_rfl)
 show (match NC.prim 176 with | some p=>some p | none=>P 176)=none
 rw [hP];kernel_rfl
theorem c99 (l:Ln) (hl:l.ps.length≤maxRows):∀ lo H,CallOk NC lo 99 [.agg l.row] H (i64 (sumW l.ps 0)) H:=by
 refine contract saneNC primsE (fn:=Tryz.f99) (by kernel_rfl) Tryz.func99 rfl rfl (by rfl) (by rfl) ?_
 have r:=fun lo H=>r176 (P:=PPE) lo l H
 simp only [Ln.row] at r
 simp only [go_sem,reduceIte,reduceEqDiff,reduceAdd,reduceMul,reduceSub,reduceLeDiff,reduceLT,Nat.reduceBEq,reduceCtorEq,Ln.row,en176 rfl (show PPE 176=none from rfl),r,ofVal_v,ofVal_H]
 refine W_pieces (l:=l) (c:=2) rfl hl (Nat.zero_le _) (by simp only [go_sem,reduceIte,reduceEqDiff,reduceAdd,reduceMul,reduceSub,reduceLeDiff,reduceLT,Nat.reduceBEq,reduceCtorEq]) (by simp only [go_sem,reduceIte,reduceEqDiff,reduceAdd,reduceMul,reduceSub,reduceLeDiff,reduceLT,Nat.reduceBEq,reduceCtorEq]) (fun k i=>match i with | 0=>.cells l.row 196 | 1=>.cells [i64 (begI l k)] 3 | 2=>.cells l.row 196 | _=>.dead) (fun _ _=>False) ?_ (fun k=>rfl) ?_ ?_ ?_
 · intro i hi
   simp only [go_sem,reduceIte,reduceEqDiff,reduceAdd,reduceMul,reduceSub,reduceLeDiff,reduceLT,Nat.reduceBEq,reduceCtorEq] at hi
   match i,hi with
   | 0,_=>simp only [go_sem,reduceIte,reduceEqDiff,reduceAdd,reduceMul,reduceSub,reduceLeDiff,reduceLT,Nat.reduceBEq,reduceCtorEq];rfl
   | 1,_=>simp only [go_sem,reduceIte,reduceEqDiff,reduceAdd,reduceMul,reduceSub,reduceLeDiff,reduceLT,Nat.reduceBEq,reduceCtorEq];rfl
   | 2,_=>simp only [go_sem,reduceIte,reduceEqDiff,reduceAdd,reduceMul,reduceSub,reduceLeDiff,reduceLT,Nat.reduceBEq,reduceCtorEq];rfl
   | i+3,hi=>omega
 · intro k p Hk m hp hn hB
   simp only [go_sem,reduceIte,reduceEqDiff,reduceAdd,reduceMul,reduceSub,reduceLeDiff,reduceLT,Nat.reduceBEq,reduceCtorEq] at hn hB
   have h1:=hB 1 (by omega)
   have hbs:=begI_succ hp
   obtain ⟨pl,pq,pb⟩:=p
   simp only at h1
   simp only [go_sem,reduceIte,reduceEqDiff,reduceAdd,reduceMul,reduceSub,reduceLeDiff,reduceLT,Nat.reduceBEq,reduceCtorEq,Pc.row,hn]
   refine ⟨fun j _ hj=>by rw [if_neg (by omega),if_neg (by omega)],fun r => ?_⟩
   simp only [go_sem,reduceIte,reduceEqDiff,reduceAdd,reduceMul,reduceSub,reduceLeDiff,reduceLT,Nat.reduceBEq,reduceCtorEq,hn,h1]
   refine ⟨by omega,fun j h3 hj h4=>by rw [if_neg (by omega),if_neg (by omega),if_neg (by omega),if_neg (by omega)],fun i hi => ?_⟩
   match i,hi with
   | 0,_=>simp [hB 0 (by omega)]
   | 1,_=>simp [hbs]
   | 2,_=>simp [hB 2 (by omega)]
   | i+3,hi=>omega
 · intro H4 hB hd
   simp only [go_sem,reduceIte,reduceEqDiff,reduceAdd,reduceMul,reduceSub,reduceLeDiff,reduceLT,Nat.reduceBEq,reduceCtorEq] at hB hd
   have h1:=hB 1 (by omega)
   simp only [go_sem,reduceIte,reduceEqDiff,reduceAdd,reduceMul,reduceSub,reduceLeDiff,reduceLT,Nat.reduceBEq,reduceCtorEq,h1,hd,shutMarks_cons,begI_all]
 · intro e H3 H4 _ h
   exact h.elim
end Go.Sim

/-
The program: lines, pieces.
-/
namespace Go.Sim
open Go Go.Proofs
set_option maxRecDepth 100000
set_option maxHeartbeats 2000000
noncomputable def p99:List AV→Option AV:=primOf (α:=Ln) (fun x=>[.agg x.row]) (fun x=>x.ps.length≤maxRows) (fun x=>i64 (sumW x.ps 0))
theorem pok99:∀ args v,p99 args=some v → ∀ lo H,CallOk NC lo 99 args H v H:=by
 intro args v h
 obtain ⟨x,rfl,hp,rfl⟩:=primOf_inv h
 clear h
 revert x
 intro x hx;exact c99 x hx
theorem pe99 (x:Ln) (hp:(fun x=>x.ps.length≤maxRows) x):p99 ((fun x=>[.agg x.row]) x)=some ((fun x=>i64 (sumW x.ps 0)) x):=primOf_enc (by intro x y h;exact row1_inj x y h) x hp
noncomputable def p226:List AV→Option AV:=primOf (α:=Pc) (fun x=>[.agg x.row]) (fun _=>True) (fun x=>i64 (lastI x))
theorem pok226:∀ args v,p226 args=some v → ∀ lo H,CallOk NC lo 226 args H v H:=by
 intro args v h
 obtain ⟨x,rfl,hp,rfl⟩:=primOf_inv h
 clear h
 revert x
 intro x;exact c226 x
theorem pe226 (x:Pc) (hp:(fun _=>True) x):p226 ((fun x=>[.agg x.row]) x)=some ((fun x=>i64 (lastI x)) x):=primOf_enc (by intro x y h;exact pc1_inj x y h) x hp
theorem e226 (l q:Int) (b:Bool):p226 [.agg [.int .i64 l,.int .i64 q,.bool b]]=some (.int .i64 (lastI ⟨l,q,b⟩)):=pe226 ⟨l,q,b⟩ trivial
noncomputable def p134:List AV→Option AV:=primOf (α:=Pc × Int) (fun x=>[.agg x.1.row,i64 x.2]) (fun _=>True) (fun x=>.tup [i64 (metreI x.1 x.2),.bool (metreB x.1 x.2)])
theorem pok134:∀ args v,p134 args=some v → ∀ lo H,CallOk NC lo 134 args H v H:=by
 intro args v h
 obtain ⟨x,rfl,hp,rfl⟩:=primOf_inv h
 clear h
 revert x
 intro x;exact c134 x.1 x.2
theorem pe134 (x:Pc × Int) (hp:(fun _=>True) x):p134 ((fun x=>[.agg x.1.row,i64 x.2]) x)=some ((fun x=>.tup [i64 (metreI x.1 x.2),.bool (metreB x.1 x.2)]) x):=primOf_enc (by intro x y h;(obtain ⟨a,b⟩:=x;obtain ⟨c,d⟩:=y;simp only [List.cons.injEq,AV.agg.injEq,AV.int.injEq,true_and,and_true] at h;obtain ⟨h1,rfl⟩:=h;rw [Pc.row_inj _ _ h1])) x hp
noncomputable def PPF:FuncId→Option (List AV→Option AV):=addPrim 134 p134 (addPrim 226 p226 (addPrim 99 p99 (PPE)))
theorem primsF:PrimsOk NC PPF:=primsOk_add (primsOk_add (primsOk_add (primsE) (by kernel_rfl) (by kernel_rfl) pok99) (by kernel_rfl) (by kernel_rfl) pok226) (by kernel_rfl) (by kernel_rfl) pok134
theorem enF_48:En PPF 48 p48:=enter_prim (by rfl) (by kernel_rfl)
theorem enF_121:En PPF 121 p121:=enter_prim (by rfl) (by kernel_rfl)
theorem enF_34:En PPF 34 p34:=enter_prim (by rfl) (by kernel_rfl)
theorem enF_111:En PPF 111 p111:=enter_prim (by rfl) (by kernel_rfl)
theorem enF_26:En PPF 26 p26:=enter_prim (by rfl) (by kernel_rfl)
theorem enF_178:En PPF 178 p178:=enter_prim (by rfl) (by kernel_rfl)
theorem enF_109:En PPF 109 p109:=enter_prim (by rfl) (by kernel_rfl)
theorem enF_108:En PPF 108 p108:=enter_prim (by rfl) (by kernel_rfl)
theorem enF_27:En PPF 27 p27:=enter_prim (by rfl) (by kernel_rfl)
theorem enF_97:En PPF 97 p97:=enter_prim (by rfl) (by kernel_rfl)
theorem enF_122:En PPF 122 p122:=enter_prim (by rfl) (by kernel_rfl)
theorem enF_182:En PPF 182 p182:=enter_prim (by rfl) (by kernel_rfl)
theorem enF_35:En PPF 35 p35:=enter_prim (by rfl) (by kernel_rfl)
theorem enF_115:En PPF 115 p115:=enter_prim (by rfl) (by kernel_rfl)
theorem enF_36:En PPF 36 p36:=enter_prim (by rfl) (by kernel_rfl)
theorem enF_120:En PPF 120 p120:=enter_prim (by rfl) (by kernel_rfl)
theorem enF_106:En PPF 106 p106:=enter_prim (by rfl) (by kernel_rfl)
theorem enF_179:En PPF 179 p179:=enter_prim (by rfl) (by kernel_rfl)
theorem enF_126:En PPF 126 p126:=enter_prim (by rfl) (by kernel_rfl)
theorem enF_103:En PPF 103 p103:=enter_prim (by rfl) (by kernel_rfl)
theorem enF_104:En PPF 104 p104:=enter_prim (by rfl) (by kernel_rfl)
theorem enF_105:En PPF 105 p105:=enter_prim (by rfl) (by kernel_rfl)
theorem enF_99:En PPF 99 p99:=enter_prim (by rfl) (by kernel_rfl)
theorem enF_226:En PPF 226 p226:=enter_prim (by rfl) (by kernel_rfl)
theorem enF_134:En PPF 134 p134:=enter_prim (by rfl) (by kernel_rfl)
attribute [go_sem ↓] enF_48 enF_121 enF_34 enF_111 enF_26 enF_178 enF_109 enF_108 enF_27 enF_97 enF_122 enF_182
attribute [go_sem ↓] enF_35 enF_115 enF_36 enF_120 enF_106 enF_179 enF_126 enF_103 enF_104 enF_105 enF_99 enF_226
attribute [go_sem ↓] enF_134
def hasB (l:Ln) (m:Int):Bool:=!decide (m < 0) && decide (m < sumW l.ps 0)
theorem c177 (l:Ln) (m:Int) (hl:l.ps.length≤maxRows):∀ lo H,CallOk NC lo 177 [.agg l.row,i64 m] H (.bool (hasB l m)) H:=by
 refine contract saneNC primsF (fn:=Tryz.f177) (by kernel_rfl) Tryz.func177 rfl rfl (by rfl) (by rfl) ?_
 have e99:=pe99 l hl
 simp only [Ln.row] at e99
 rcases Classical.propComplete (m < 0) with h1 | h1<;>rcases Classical.propComplete (m < sumW l.ps 0) with h2 | h2<;>simp only [go_sem,reduceIte,reduceEqDiff,reduceAdd,reduceMul,reduceSub,reduceLeDiff,reduceLT,Nat.reduceBEq,reduceCtorEq,Ln.row,e99,h1,h2]<;>simp [hasB,h1,h2]
def pieceP (p:Pc):Int:=firstI [rangeI p.len 1 100000,rangeI p.post 0 9999999,whenI (decide (lastI p < 0) || decide (9999999 < lastI p)) 4]
theorem c180 (p:Pc):∀ lo H,CallOk NC lo 180 [.agg p.row] H (i64 (pieceP p)) H:=by
 refine contract saneNC primsF (fn:=Tryz.f180) (by kernel_rfl) Tryz.func180 rfl rfl (by rfl) (by rfl) ?_
 obtain ⟨l,q,b⟩:=p
 generalize hE:lastI ⟨l,q,b⟩=E
 rcases Classical.propComplete (E < 0) with h1 | h1<;>rcases Classical.propComplete (9999999 < E) with h2 | h2<;>simp only [go_sem,reduceIte,reduceEqDiff,reduceAdd,reduceMul,reduceSub,reduceLeDiff,reduceLT,Nat.reduceBEq,reduceCtorEq,Pc.row,e115,e226,e121,e111_3,hE,h1,h2]<;>simp only [pieceP,hE,h1,h2,decide_true,decide_false,Bool.or_true,Bool.true_or,Bool.or_false]
/-! ### The line with a name -/
variable {P:FuncId→Option (List AV→Option AV)}
theorem r175 (lo:Nat) (l:Ln) (s:List Nat) (c:Nat) (H:Heap) (hc:c < H.n) (hs:H.get c=.cells [.str s] 9):R (NC.withPrims P) (.call lo 175 [.agg l.row,.ptr c 0] H)=some (.ofVal (.bool (beqL l.name s)) (H.push (.cells l.row 196))):=by
 have hne:(c=H.n)=False:=by simp;omega
 obtain ⟨v,H',h1,h2,h3⟩:=R_of_body (C:=NC.withPrims P) (f:=175) (lo:=lo) (args:=[.agg l.row,.ptr c 0]) (H:=H) (fn:=Tryz.f175) (Q:=fun v H'=>v=.bool (beqL l.name s)∧H'=H.push (.cells l.row 196)) (by kernel_rfl) Tryz.func175 rfl rfl (by
  obtain ⟨nm,ps⟩:=l
  simp only [go_sem,reduceIte,reduceEqDiff,reduceAdd,reduceMul,reduceSub,reduceLeDiff,reduceLT,Nat.reduceBEq,reduceCtorEq,Ln.row,hs,hne])
 rw [h1,h2,h3]
theorem en175 (hP:P 175=none) {lo:Nat} {args:List AV} {H:Heap} {K:AV→Heap→Prop}:VO (aenter (NC.withPrims P) (R (NC.withPrims P)) lo 175 args H) K=AO (R (NC.withPrims P) (.call H.n 175 args H)) fun o=>o.val.strip.pure=true∧K o.val.strip H:=by
 refine enter_pure rfl ?_ (by kernel_rfl) (by kernel_rfl) (by kernel_rfl)
 show (match NC.prim 175 with | some p=>some p | none=>P 175)=none
 rw [hP];kernel_rfl
theorem en174 (hP:P 174=none) {lo:Nat} {args:List AV} {H:Heap} {K:AV→Heap→Prop}:VO (aenter (NC.withPrims P) (R (NC.withPrims P)) lo 174 args H) K=AO (R (NC.withPrims P) (.call H.n 174 args H)) fun o=>o.val.strip.pure=true∧K o.val.strip H:=by
 refine enter_pure rfl ?_ (by kernel_rfl) (by kernel_rfl) (by kernel_rfl)
 show (match NC.prim 174 with | some p=>some p | none=>P 174)=none
 rw [hP];kernel_rfl
theorem r174 (hP:P 175=none) (lo:Nat) (ls:List Ln) (s:List Nat) (c:Nat) (H:Heap) (hl:ls.length≤maxRows) (hc:c < H.n) (hs:H.get c=.cells [.str s] 9) :
 ∃ H',R (NC.withPrims P) (.call lo 174 [.ps .unk (ls.map Ln.row),.fn 175 [] [.ptr c 0]] H)=some (.ofVal (i64 (findI ls s)) H'):=by
 obtain ⟨v,H',h1,h2⟩:=R_of_body (C:=NC.withPrims P) (f:=174) (lo:=lo) (args:=[.ps .unk (ls.map Ln.row),.fn 175 [] [.ptr c 0]]) (H:=H) (fn:=Tryz.f174) (Q:=fun v H'=>v=i64 (findI ls s)) (by kernel_rfl) Tryz.func174 rfl rfl (by
  simp only [go_sem,reduceIte,reduceEqDiff,reduceAdd,reduceMul,reduceSub,reduceLeDiff,reduceLT,Nat.reduceBEq,reduceCtorEq]
  refine W_for (fun k T H' M=>M=[]∧getT T 0=.ps .unk (ls.map Ln.row)∧getT T 1=.fn 175 [] [.ptr c 0]∧getT T 7=i64 (ls.length:Nat)∧getT T 8=i64 k∧c < H'.n∧H'.get c=.cells [.str s] 9 ∧ ∀ (j:Nat) (l:Ln),j < k→ls[j]? = some l→beqL l.name s=false) ls.length ?_ ?_ ?_
  · simp only [go_sem,reduceIte,reduceEqDiff,reduceAdd,reduceMul,reduceSub,reduceLeDiff,reduceLT,Nat.reduceBEq,reduceCtorEq,List.length_map];exact ⟨hc,hs,fun j l hj=>by omega⟩
  · rintro k T H' M hk ⟨rfl,g0,g1,g7,g8,gc,gs,hf⟩
    obtain ⟨l,hp⟩:∃ p,ls[k]? = some p:=⟨ls[k],by simp⟩
    have hr:=map_at (f:=Ln.row) hp
    have hw:=wrap_succ hk hl
    have hcall:=fun lo=>r175 (P:=P) lo l s c H' gc gs
    simp only [Ln.row] at hr hcall
    cases hb:beqL l.name s with
    | true =>
      simp only [hb] at hcall
      simp only [go_sem,reduceIte,reduceEqDiff,reduceAdd,reduceMul,reduceSub,reduceLeDiff,reduceLT,Nat.reduceBEq,reduceCtorEq,g0,g1,g7,g8,List.length_map,hk,hr,hw,op_callV (f:=175) (first:=[]) (caps:=[.ptr c 0]),en175 hP,hcall,ofVal_v,ofVal_H]
      simp [findI,findL_drop hf hp hb]
    | false =>
      simp only [hb] at hcall
      simp only [go_sem,reduceIte,reduceEqDiff,reduceAdd,reduceMul,reduceSub,reduceLeDiff,reduceLT,Nat.reduceBEq,reduceCtorEq,g0,g1,g7,g8,List.length_map,hk,hr,hw,op_callV (f:=175) (first:=[]) (caps:=[.ptr c 0]),en175 hP,hcall,ofVal_v,ofVal_H]
      refine ⟨gc,gs,fun j l' hj hl' => ?_⟩
      by_cases e:j=k
      · subst e;rw [hp] at hl';cases hl';exact hb
      · exact hf j l' (by omega) hl'
  · rintro T H' M ⟨rfl,g0,g1,g7,g8,gc,gs,hf⟩
    simp only [go_sem,reduceIte,reduceEqDiff,reduceAdd,reduceMul,reduceSub,reduceLeDiff,reduceLT,Nat.reduceBEq,reduceCtorEq,g0,g1,g7,g8,List.length_map,Nat.lt_irrefl]
    simp [findI,findL_none hf])
 exact ⟨H',by rw [h1,h2]⟩
def lnOf (ls:List Ln) (s:List Nat):Ln:=match findL ls s with
 | some i=>ls.getD i ⟨[],[]⟩
 | none=>⟨[],[]⟩
def lnB (ls:List Ln) (s:List Nat):Bool:=(findL ls s).isSome
theorem c98 (n:Net) (s:List Nat) (hn:n.lines.length≤maxRows):∀ lo H,CallOk NC lo 98 [.agg n.cells,.str s] H (.tup [.agg (lnOf n.lines s).row,.bool (lnB n.lines s)]) H:=by
 refine contract saneNC primsF (fn:=Tryz.f98) (by kernel_rfl) Tryz.func98 rfl rfl (by rfl) (by rfl) ?_
 obtain ⟨H',hr⟩:=r174 (P:=PPF) rfl 3 n.lines s 1 (((Heap.empty.push (.cells [.ps .unk (n.lines.map Ln.row),.ps .unk (n.sws.map Sw.row),.ps .unk (n.sts.map Stc.row)] 40)).push (.cells [.str s] 9)).push (.cells [.str [],.ps .nil []] 196)) hn (by simp only [go_sem,reduceIte,reduceEqDiff,reduceAdd,reduceMul,reduceSub,reduceLeDiff,reduceLT,Nat.reduceBEq,reduceCtorEq]) (by simp only [go_sem,reduceIte,reduceEqDiff,reduceAdd,reduceMul,reduceSub,reduceLeDiff,reduceLT,Nat.reduceBEq,reduceCtorEq])
 cases hf:findL n.lines s with
 | none =>
   simp only [findI,hf] at hr
   simp only [go_sem,reduceIte,reduceEqDiff,reduceAdd,reduceMul,reduceSub,reduceLeDiff,reduceLT,Nat.reduceBEq,reduceCtorEq,Net.cells,en174 (show PPF 174=none from rfl),hr,ofVal_v,neg_one]
   simp [lnOf,lnB,hf,Ln.row]
 | some i =>
   obtain ⟨l,hl,hlt,hmem⟩:=findL_at hf
   simp only [findI,hf] at hr
   have hrow:=map_at (f:=Ln.row) hl
   simp only [Ln.row] at hrow
   simp only [go_sem,reduceIte,reduceEqDiff,reduceAdd,reduceMul,reduceSub,reduceLeDiff,reduceLT,Nat.reduceBEq,reduceCtorEq,Net.cells,en174 (show PPF 174=none from rfl),hr,ofVal_v,neg_cast,List.length_map,hlt,hrow]
   simp [lnOf,lnB,hf,Ln.row,hl]
end Go.Sim

/-
The program: CheckNetwork.
-/
namespace Go.Sim
open Go Go.Proofs
set_option maxRecDepth 100000
set_option maxHeartbeats 4000000
noncomputable def p177:List AV→Option AV:=primOf (α:=Ln × Int) (fun x=>[.agg x.1.row,i64 x.2]) (fun x=>x.1.ps.length≤maxRows) (fun x=>.bool (hasB x.1 x.2))
theorem pok177:∀ args v,p177 args=some v → ∀ lo H,CallOk NC lo 177 args H v H:=by
 intro args v h
 obtain ⟨x,rfl,hp,rfl⟩:=primOf_inv h
 clear h
 revert x
 intro x hx;exact c177 x.1 x.2 hx
theorem pe177 (x:Ln × Int) (hp:(fun x=>x.1.ps.length≤maxRows) x):p177 ((fun x=>[.agg x.1.row,i64 x.2]) x)=some ((fun x=>.bool (hasB x.1 x.2)) x):=primOf_enc (by intro x y h;(obtain ⟨a,b⟩:=x;obtain ⟨c,d⟩:=y;simp only [List.cons.injEq,AV.agg.injEq,AV.int.injEq,true_and,and_true] at h;obtain ⟨h1,rfl⟩:=h;rw [Ln.row_inj _ _ h1])) x hp
noncomputable def p180:List AV→Option AV:=primOf (α:=Pc) (fun x=>[.agg x.row]) (fun _=>True) (fun x=>i64 (pieceP x))
theorem pok180:∀ args v,p180 args=some v → ∀ lo H,CallOk NC lo 180 args H v H:=by
 intro args v h
 obtain ⟨x,rfl,hp,rfl⟩:=primOf_inv h
 clear h
 revert x
 intro x;exact c180 x
theorem pe180 (x:Pc) (hp:(fun _=>True) x):p180 ((fun x=>[.agg x.row]) x)=some ((fun x=>i64 (pieceP x)) x):=primOf_enc (by intro x y h;exact pc1_inj x y h) x hp
theorem e180 (l q:Int) (b:Bool):p180 [.agg [.int .i64 l,.int .i64 q,.bool b]]=some (.int .i64 (pieceP ⟨l,q,b⟩)):=pe180 ⟨l,q,b⟩ trivial
noncomputable def p98:List AV→Option AV:=primOf (α:=Net × List Nat) (fun x=>[.agg x.1.cells,.str x.2]) (fun x=>x.1.lines.length≤maxRows) (fun x=>.tup [.agg (lnOf x.1.lines x.2).row,.bool (lnB x.1.lines x.2)])
theorem pok98:∀ args v,p98 args=some v → ∀ lo H,CallOk NC lo 98 args H v H:=by
 intro args v h
 obtain ⟨x,rfl,hp,rfl⟩:=primOf_inv h
 clear h
 revert x
 intro x hx;exact c98 x.1 x.2 hx
theorem pe98 (x:Net × List Nat) (hp:(fun x=>x.1.lines.length≤maxRows) x):p98 ((fun x=>[.agg x.1.cells,.str x.2]) x)=some ((fun x=>.tup [.agg (lnOf x.1.lines x.2).row,.bool (lnB x.1.lines x.2)]) x):=primOf_enc (by intro x y h;(obtain ⟨a,b⟩:=x;obtain ⟨c,d⟩:=y;simp only [List.cons.injEq,AV.agg.injEq,AV.str.injEq,true_and,and_true] at h;obtain ⟨h1,rfl⟩:=h;rw [Net.cells_inj _ _ h1])) x hp
noncomputable def PPG:FuncId→Option (List AV→Option AV):=addPrim 98 p98 (addPrim 180 p180 (addPrim 177 p177 (PPF)))
theorem primsG:PrimsOk NC PPG:=primsOk_add (primsOk_add (primsOk_add (primsF) (by kernel_rfl) (by kernel_rfl) pok177) (by kernel_rfl) (by kernel_rfl) pok180) (by kernel_rfl) (by kernel_rfl) pok98
theorem enG_48:En PPG 48 p48:=enter_prim (by rfl) (by kernel_rfl)
theorem enG_121:En PPG 121 p121:=enter_prim (by rfl) (by kernel_rfl)
theorem enG_34:En PPG 34 p34:=enter_prim (by rfl) (by kernel_rfl)
theorem enG_111:En PPG 111 p111:=enter_prim (by rfl) (by kernel_rfl)
theorem enG_26:En PPG 26 p26:=enter_prim (by rfl) (by kernel_rfl)
theorem enG_178:En PPG 178 p178:=enter_prim (by rfl) (by kernel_rfl)
theorem enG_109:En PPG 109 p109:=enter_prim (by rfl) (by kernel_rfl)
theorem enG_108:En PPG 108 p108:=enter_prim (by rfl) (by kernel_rfl)
theorem enG_27:En PPG 27 p27:=enter_prim (by rfl) (by kernel_rfl)
theorem enG_97:En PPG 97 p97:=enter_prim (by rfl) (by kernel_rfl)
theorem enG_122:En PPG 122 p122:=enter_prim (by rfl) (by kernel_rfl)
theorem enG_182:En PPG 182 p182:=enter_prim (by rfl) (by kernel_rfl)
theorem enG_35:En PPG 35 p35:=enter_prim (by rfl) (by kernel_rfl)
theorem enG_115:En PPG 115 p115:=enter_prim (by rfl) (by kernel_rfl)
theorem enG_36:En PPG 36 p36:=enter_prim (by rfl) (by kernel_rfl)
theorem enG_120:En PPG 120 p120:=enter_prim (by rfl) (by kernel_rfl)
theorem enG_106:En PPG 106 p106:=enter_prim (by rfl) (by kernel_rfl)
theorem enG_179:En PPG 179 p179:=enter_prim (by rfl) (by kernel_rfl)
theorem enG_126:En PPG 126 p126:=enter_prim (by rfl) (by kernel_rfl)
theorem enG_103:En PPG 103 p103:=enter_prim (by rfl) (by kernel_rfl)
theorem enG_104:En PPG 104 p104:=enter_prim (by rfl) (by kernel_rfl)
theorem enG_105:En PPG 105 p105:=enter_prim (by rfl) (by kernel_rfl)
theorem enG_99:En PPG 99 p99:=enter_prim (by rfl) (by kernel_rfl)
theorem enG_226:En PPG 226 p226:=enter_prim (by rfl) (by kernel_rfl)
theorem enG_134:En PPG 134 p134:=enter_prim (by rfl) (by kernel_rfl)
theorem enG_177:En PPG 177 p177:=enter_prim (by rfl) (by kernel_rfl)
theorem enG_180:En PPG 180 p180:=enter_prim (by rfl) (by kernel_rfl)
theorem enG_98:En PPG 98 p98:=enter_prim (by rfl) (by kernel_rfl)
attribute [go_sem ↓] enG_48 enG_121 enG_34 enG_111 enG_26 enG_178 enG_109 enG_108 enG_27 enG_97 enG_122 enG_182
attribute [go_sem ↓] enG_35 enG_115 enG_36 enG_120 enG_106 enG_179 enG_126 enG_103 enG_104 enG_105 enG_99 enG_226
attribute [go_sem ↓] enG_134 enG_177 enG_180 enG_98
def spanB (l:Ln) (fr till:Int):Bool:=!decide (fr < till) || !hasB l fr || decide (sumW l.ps 0 < till)
theorem c183 (l:Ln) (fr till:Int) (hl:l.ps.length≤maxRows):∀ lo H,CallOk NC lo 183 [.agg l.row,.agg [i64 fr,i64 till]] H (i64 (whenI (spanB l fr till) 14)) H:=by
 refine contract saneNC primsG (fn:=Tryz.f183) (by kernel_rfl) Tryz.func183 rfl rfl (by rfl) (by rfl) ?_
 have e99:=pe99 l hl
 have e177:=pe177 (l,fr) hl
 simp only [Ln.row,i64] at e99 e177
 cases h1:hasB l fr<;>rcases Classical.propComplete (fr < till) with h2 | h2<;>rcases Classical.propComplete (sumW l.ps 0 < till) with h3 | h3<;>simp only [h1] at e177<;>simp only [go_sem,reduceIte,reduceEqDiff,reduceAdd,reduceMul,reduceSub,reduceLeDiff,reduceLT,Nat.reduceBEq,reduceCtorEq,Ln.row,e99,e177,e121,h1,h2,h3]<;>simp [spanB,h1,h2,h3]
/-! ### The errors of a list of pieces -/
theorem intRows_all (es:List Int):(intRows es).all (fun r=>decide (r.length=1))=true:=by
 rw [List.all_eq_true]
 intro r hr
 obtain ⟨e,_,rfl⟩:=List.mem_map.1 hr
 rfl
theorem c181 (ps:List Pc) (hl:ps.length≤maxRows):∀ lo H,CallOk NC lo 181 [.ps .unk (ps.map Pc.row),.fn 180 [] []] H (.ps .unk (intRows (ps.map pieceP))) H:=by
 refine contract saneNC primsG (fn:=Tryz.f181) (by kernel_rfl) Tryz.func181 rfl rfl (by rfl) (by rfl) ?_
 simp only [go_sem,reduceIte,reduceEqDiff,reduceAdd,reduceMul,reduceSub,reduceLeDiff,reduceLT,Nat.reduceBEq,reduceCtorEq]
 refine W_for (fun k T H M=>M=[]∧getT T 8=.ps .unk (ps.map Pc.row)∧getT T 1=.fn 180 [] []∧getT T 9=i64 (ps.length:Nat)∧getT T 10=i64 k∧((k=0∧getT T 5=.ps .nil []) ∨ ∃ j,getT T 5=.ps (.tok j) (intRows ((ps.take k).map pieceP))∧0 < k∧j < H.n∧H.get j=.row [] 1 33)) ps.length ?_ ?_ ?_
 · simp only [go_sem,reduceIte,reduceEqDiff,reduceAdd,reduceMul,reduceSub,reduceLeDiff,reduceLT,Nat.reduceBEq,reduceCtorEq,List.length_map]
 · rintro k T H M hk ⟨rfl,g8,g1,g9,g10,hap⟩
   obtain ⟨p,hp⟩:∃ p,ps[k]? = some p:=⟨ps[k],by simp⟩
   have hpr:=map_at (f:=Pc.row) hp
   have hw:=wrap_succ hk hl
   have htk:ps.take (k+1)=ps.take k++[p]:=by rw [List.take_add_one,hp];rfl
   obtain ⟨pl,pq,pb⟩:=p
   simp only [Pc.row] at hpr
   rcases hap with ⟨hk0,g5⟩ | ⟨j,g5,hk0,hjn,hj⟩
   · have ha:=fun H=>app_first (lo:=0) (H:=H) (sz:=1) (e:=33) (rx:=[[.int .i64 (pieceP ⟨pl,pq,pb⟩)]]) (by simp) (by show 1≤1073741824;decide) rfl (by decide)
     simp only [go_sem,reduceIte,reduceEqDiff,reduceAdd,reduceMul,reduceSub,reduceLeDiff,reduceLT,Nat.reduceBEq,reduceCtorEq,g8,g1,g9,g10,g5,List.length_map,hk,hpr,hw,op_callV (f:=180) (first:=[]) (caps:=[]),e180,appO,isIntT_slice,rowsIn,ha]
     refine .inr ⟨H.n+1, ?_,by omega,by omega,by simp⟩
     rw [htk,hk0];rfl
   · have hj1:((H.push (.cells [.int .i64 0,.int .i64 0,.bool false] 200)).set H.n (.cells [.int .i64 pl,.int .i64 pq,.bool pb] 200)).get j=.row [] 1 33:=by
      rw [Heap.get_set,if_neg (by omega),Heap.get_push,if_neg (by omega)];exact hj
     have ha:=app_next (lo:=0) (rows:=intRows ((ps.take k).map pieceP)) (rx:=[[.int .i64 (pieceP ⟨pl,pq,pb⟩)]]) (e:=33) (sz:=1) (by simp) (by simp [intRows];omega) rfl (by decide) (intRows_all _) hj1 (Nat.zero_le _) (by simp [intRows];refine ⟨by omega, ?_⟩;intro e;rw [e] at hk;simp at hk)
     simp only [go_sem,reduceIte,reduceEqDiff,reduceAdd,reduceMul,reduceSub,reduceLeDiff,reduceLT,Nat.reduceBEq,reduceCtorEq,g8,g1,g9,g10,g5,List.length_map,hk,hpr,hw,op_callV (f:=180) (first:=[]) (caps:=[]),e180,appO,isIntT_slice,rowsIn,ha]
     refine .inr ⟨H.n+1, ?_,by omega,by omega,by simp⟩
     rw [htk]
     simp [intRows]
 · rintro T H M ⟨rfl,g8,g1,g9,g10,hap⟩
   rcases hap with ⟨h0,g5⟩ | ⟨j,g5,hk0,hjn,hj⟩
   · simp only [go_sem,reduceIte,reduceEqDiff,reduceAdd,reduceMul,reduceSub,reduceLeDiff,reduceLT,Nat.reduceBEq,reduceCtorEq,g8,g1,g9,g10,g5,Nat.lt_irrefl]
     rw [List.length_eq_zero_iff.1 h0];rfl
   · simp only [go_sem,reduceIte,reduceEqDiff,reduceAdd,reduceMul,reduceSub,reduceLeDiff,reduceLT,Nat.reduceBEq,reduceCtorEq,g8,g1,g9,g10,g5,Nat.lt_irrefl,List.take_length]
noncomputable def p181:List AV→Option AV:=primOf (α:=List Pc) (fun x=>[.ps .unk (x.map Pc.row),.fn 180 [] []]) (fun x=>x.length≤maxRows) (fun x=>.ps .unk (intRows (x.map pieceP)))
theorem pok181:∀ args v,p181 args=some v → ∀ lo H,CallOk NC lo 181 args H v H:=by
 intro args v h
 obtain ⟨x,rfl,hp,rfl⟩:=primOf_inv h
 clear h
 revert x
 intro x hx;exact c181 x hx
theorem pe181 (x:List Pc) (hp:(fun x=>x.length≤maxRows) x):p181 ((fun x=>[.ps .unk (x.map Pc.row),.fn 180 [] []]) x)=some ((fun x=>.ps .unk (intRows (x.map pieceP))) x):=primOf_enc (by intro x y h;(simp only [List.cons.injEq,AV.ps.injEq,and_true,true_and] at h;exact map_inj Pc.row_inj h)) x hp
noncomputable def p183:List AV→Option AV:=primOf (α:=Ln × Int × Int) (fun x=>[.agg x.1.row,.agg [i64 x.2.1,i64 x.2.2]]) (fun x=>x.1.ps.length≤maxRows) (fun x=>i64 (whenI (spanB x.1 x.2.1 x.2.2) 14))
theorem pok183:∀ args v,p183 args=some v → ∀ lo H,CallOk NC lo 183 args H v H:=by
 intro args v h
 obtain ⟨x,rfl,hp,rfl⟩:=primOf_inv h
 clear h
 revert x
 intro x hx;exact c183 x.1 x.2.1 x.2.2 hx
theorem pe183 (x:Ln × Int × Int) (hp:(fun x=>x.1.ps.length≤maxRows) x):p183 ((fun x=>[.agg x.1.row,.agg [i64 x.2.1,i64 x.2.2]]) x)=some ((fun x=>i64 (whenI (spanB x.1 x.2.1 x.2.2) 14)) x):=primOf_enc (by intro x y h;(obtain ⟨a,b,c⟩:=x;obtain ⟨d,e,f⟩:=y;simp only [List.cons.injEq,AV.agg.injEq,AV.int.injEq,true_and,and_true] at h;obtain ⟨h1,rfl,rfl⟩:=h;rw [Ln.row_inj _ _ h1])) x hp
noncomputable def PPH:FuncId→Option (List AV→Option AV):=addPrim 183 p183 (addPrim 181 p181 (PPG))
theorem primsH:PrimsOk NC PPH:=primsOk_add (primsOk_add (primsG) (by kernel_rfl) (by kernel_rfl) pok181) (by kernel_rfl) (by kernel_rfl) pok183
theorem enH_48:En PPH 48 p48:=enter_prim (by rfl) (by kernel_rfl)
theorem enH_121:En PPH 121 p121:=enter_prim (by rfl) (by kernel_rfl)
theorem enH_34:En PPH 34 p34:=enter_prim (by rfl) (by kernel_rfl)
theorem enH_111:En PPH 111 p111:=enter_prim (by rfl) (by kernel_rfl)
theorem enH_26:En PPH 26 p26:=enter_prim (by rfl) (by kernel_rfl)
theorem enH_178:En PPH 178 p178:=enter_prim (by rfl) (by kernel_rfl)
theorem enH_109:En PPH 109 p109:=enter_prim (by rfl) (by kernel_rfl)
theorem enH_108:En PPH 108 p108:=enter_prim (by rfl) (by kernel_rfl)
theorem enH_27:En PPH 27 p27:=enter_prim (by rfl) (by kernel_rfl)
theorem enH_97:En PPH 97 p97:=enter_prim (by rfl) (by kernel_rfl)
theorem enH_122:En PPH 122 p122:=enter_prim (by rfl) (by kernel_rfl)
theorem enH_182:En PPH 182 p182:=enter_prim (by rfl) (by kernel_rfl)
theorem enH_35:En PPH 35 p35:=enter_prim (by rfl) (by kernel_rfl)
theorem enH_115:En PPH 115 p115:=enter_prim (by rfl) (by kernel_rfl)
theorem enH_36:En PPH 36 p36:=enter_prim (by rfl) (by kernel_rfl)
theorem enH_120:En PPH 120 p120:=enter_prim (by rfl) (by kernel_rfl)
theorem enH_106:En PPH 106 p106:=enter_prim (by rfl) (by kernel_rfl)
theorem enH_179:En PPH 179 p179:=enter_prim (by rfl) (by kernel_rfl)
theorem enH_126:En PPH 126 p126:=enter_prim (by rfl) (by kernel_rfl)
theorem enH_103:En PPH 103 p103:=enter_prim (by rfl) (by kernel_rfl)
theorem enH_104:En PPH 104 p104:=enter_prim (by rfl) (by kernel_rfl)
theorem enH_105:En PPH 105 p105:=enter_prim (by rfl) (by kernel_rfl)
theorem enH_99:En PPH 99 p99:=enter_prim (by rfl) (by kernel_rfl)
theorem enH_226:En PPH 226 p226:=enter_prim (by rfl) (by kernel_rfl)
theorem enH_134:En PPH 134 p134:=enter_prim (by rfl) (by kernel_rfl)
theorem enH_177:En PPH 177 p177:=enter_prim (by rfl) (by kernel_rfl)
theorem enH_180:En PPH 180 p180:=enter_prim (by rfl) (by kernel_rfl)
theorem enH_98:En PPH 98 p98:=enter_prim (by rfl) (by kernel_rfl)
theorem enH_181:En PPH 181 p181:=enter_prim (by rfl) (by kernel_rfl)
theorem enH_183:En PPH 183 p183:=enter_prim (by rfl) (by kernel_rfl)
attribute [go_sem ↓] enH_48 enH_121 enH_34 enH_111 enH_26 enH_178 enH_109 enH_108 enH_27 enH_97 enH_122 enH_182
attribute [go_sem ↓] enH_35 enH_115 enH_36 enH_120 enH_106 enH_179 enH_126 enH_103 enH_104 enH_105 enH_99 enH_226
attribute [go_sem ↓] enH_134 enH_177 enH_180 enH_98 enH_181 enH_183
def nameMap (l:List (List Nat)):List (AV × AV):=l.map fun s=>(.str s,.bool true)
theorem aeq9 (a b:List Nat):aeqT NC.P 100 9 (.str a) (.str b)=some (beqL a b):=by
 have h:NC.P.underlying 9=some .string:=un_9
 unfold aeqT
 simp only [h]
theorem keyOk9 (s:List Nat):keyOk NC.P 9 (.str s)=true:=by
 unfold keyOk
 rw [aeq9]
 have:beqL s s=true:=by
  induction s with
  | nil=>rfl
  | cons a r ih=>simp [beqL,ih]
 rw [this]
 have h:eqType NC.P 100 9=true:=by kernel_rfl
 rw [h];rfl
theorem afind9 (s:List Nat):∀ (l:List (List Nat)) (i:Nat),(l.any (beqL s)=true → ∃ j k,afind NC.P 9 (.str s) (nameMap l) i=some (some (j,k,.bool true)))∧(l.any (beqL s)=false→afind NC.P 9 (.str s) (nameMap l) i=some none)
 | [],i=>⟨fun h=>by simp at h,fun _=>rfl⟩
 | a::r,i=>by
   have ih:=afind9 s r (i+1)
   have hu:afind NC.P 9 (.str s) (nameMap (a::r)) i=match aeqT NC.P 100 9 (.str s) (.str a) with
    | some true=>some (some (i,.str a,.bool true))
    | some false=>afind NC.P 9 (.str s) (nameMap r) (i+1)
    | none=>none:=rfl
   rw [hu,aeq9]
   cases hb:beqL s a with
   | true=>exact ⟨fun _=>⟨_,_,rfl⟩,fun h=>by simp [hb] at h⟩
   | false=>simp only [List.any_cons,hb,Bool.false_or];exact ih
theorem look9 {H:Heap} {m:Nat} {l:List (List Nat)} (h:H.get m=.map (nameMap l)) (s:List Nat):alookup NC.P H 310 (.map m) (.str s) false=some (.bool (l.any (beqL s))):=by
 unfold alookup
 have hu:NC.P.underlying 310=some (.map 9 4):=un_310
 have hz:zeroOf NC.P 4=some (.bool false):=ze_4
 simp only [hu,keyOk9,if_true,hz,mapEntries,h]
 obtain ⟨h1,h2⟩:=afind9 s l 0
 cases hb:l.any (beqL s) with
 | true =>
   obtain ⟨j,k,e⟩:=h1 hb
   rw [e];rfl
 | false=>rw [h2 hb];rfl
theorem upd9 {lo:Nat} {H:Heap} {m:Nat} {l:List (List Nat)} (h:H.get m=.map (nameMap l)) (hlo:lo≤m) (s:List Nat) (hs:l.any (beqL s)=false):amapUpdate NC.P lo H 310 (.map m) (.str s) (.bool true)=some (H.set m (.map (nameMap (l++[s])))):=by
 unfold amapUpdate
 have hu:NC.P.underlying 310=some (.map 9 4):=un_310
 obtain ⟨_,h2⟩:=afind9 s l 0
 simp only [hu,keyOk9,hlo,decide_true,Bool.and_self,if_true,h,h2 hs]
 simp [nameMap,AV.strip]
end Go.Sim

/-
The program: CheckNetwork, its parts.
-/
namespace Go.Sim
open Go Go.Proofs
set_option maxRecDepth 100000
set_option maxHeartbeats 8000000
theorem first4 (a b c d:Int):firstI [a,b,c,d]=0→a=0∧b=0∧c=0∧d=0:=by
 simp only [firstI];split<;>(try split)<;>(try split)<;>(try split)<;>simp_all
def dupP (l:List (List Nat)) (s:List Nat):Bool:=l.any (beqL s)
def lineP (ls:List Ln) (i:Nat):Int:=match ls[i]? with
 | none=>0
 | some l =>
   let e:=firstI [whenI (!nameB l.name) 8,whenI (dupP ((ls.take i).map Ln.name) l.name) 9,whenI (decide ((l.ps.length:Int)=0)) 12,whenI (decide ((8:Int) < l.ps.length)) 5]
   if e=0 then firstI (l.ps.map pieceP) else e
def linesP (ls:List Ln):Int:=if (8:Int) < ls.length then 5 else allR (lineP ls) ls.length
theorem c110 (ls:List Ln) (hl:ls.length≤maxRows) (hn:∀ l ∈ ls,l.name.length≤maxRows∧l.ps.length≤maxRows):∀ lo H,CallOk NC lo 110 [.ps .unk (ls.map Ln.row)] H (i64 (linesP ls)) H:=by
 refine contract saneNC primsH (fn:=Tryz.f110) (by kernel_rfl) Tryz.func110 rfl rfl (by rfl) (by rfl) ?_
 rcases Classical.propComplete ((8:Int) < ls.length) with q1 | q1
 · simp only [go_sem,reduceIte,reduceEqDiff,reduceAdd,reduceMul,reduceSub,reduceLeDiff,reduceLT,Nat.reduceBEq,reduceCtorEq,List.length_map,q1]
   simp [linesP,q1]
 simp only [go_sem,reduceIte,reduceEqDiff,reduceAdd,reduceMul,reduceSub,reduceLeDiff,reduceLT,Nat.reduceBEq,reduceCtorEq,List.length_map,q1]
 refine W_for (fun k T H M=>M=[]∧getT T 13=.ps .unk (ls.map Ln.row)∧getT T 14=i64 (ls.length:Nat)∧getT T 15=i64 k∧getT T 3=.map 0∧getT T 4=.fn 180 [] []∧H.get 0=.map (nameMap ((ls.take k).map Ln.name))∧0 < H.n∧allR (lineP ls) ls.length=firstI (((List.range ls.length).map (lineP ls)).drop k)) ls.length ?_ ?_ ?_
 · simp only [go_sem,reduceIte,reduceEqDiff,reduceAdd,reduceMul,reduceSub,reduceLeDiff,reduceLT,Nat.reduceBEq,reduceCtorEq,List.length_map];exact ⟨rfl,rfl⟩
 · rintro k T H M hk ⟨rfl,g13,g14,g15,g3,g4,gH,hn0,hf⟩
   obtain ⟨l,hp⟩:∃ p,ls[k]? = some p:=⟨ls[k],by simp⟩
   have hmem:=List.mem_of_getElem? hp
   have hr:=map_at (f:=Ln.row) hp
   have hw:=wrap_succ hk hl
   have hfd:=allR_step (f:=lineP ls) hk
   have htk:(ls.take (k+1)).map Ln.name=(ls.take k).map Ln.name++[l.name]:=by rw [List.take_add_one,hp];simp
   simp only [Ln.row] at hr
   have e120':=e120 l.name (hn l hmem).1
   have e181':=pe181 l.ps (hn l hmem).2
   have e111':=pe111 (l.ps.map pieceP) (by simpa using (hn l hmem).2)
   have h0n:(0=H.n)=False:=by simp;omega
   have h0l:(0 < H.n+1)=True:=by simp
   have hHx:((H.push (.cells [.str [],.ps .nil []] 196)).set H.n (.cells [.str l.name,.ps .unk (l.ps.map Pc.row)] 196)).get 0=.map (nameMap ((ls.take k).map Ln.name)):=by
    rw [Heap.get_set,if_neg (by omega),Heap.get_push,if_neg (by omega)];exact gH
   have hlk:=look9 hHx l.name
   generalize hE:firstI [whenI (!nameB l.name) 8,whenI (dupP ((ls.take k).map Ln.name) l.name) 9,whenI (decide ((l.ps.length:Int)=0)) 12,whenI (decide ((8:Int) < l.ps.length)) 5]=E
   have hsp:lineP ls k=if E=0 then firstI (l.ps.map pieceP) else E:=by
    unfold lineP
    simp only [hp,hE]
   unfold dupP at hE
   rcases Classical.propComplete (E=0) with z | z
   · have hdup:((ls.take k).map Ln.name).any (beqL l.name)=false:=by
      have:=(first4 _ _ _ _ (hE.trans (of_eq_true z))).2.1
      cases hd:((ls.take k).map Ln.name).any (beqL l.name) with
      | false=>rfl
      | true=>rw [hd] at this;simp [whenI] at this
     have hup:=upd9 hHx (Nat.zero_le 0) l.name hdup
     rcases Classical.propComplete (firstI (l.ps.map pieceP)=0) with z2 | z2
     · simp only [go_sem,reduceIte,reduceEqDiff,reduceAdd,reduceMul,reduceSub,reduceLeDiff,reduceLT,Nat.reduceBEq,reduceCtorEq,g13,g14,g15,g3,g4,List.length_map,hk,hr,hw,h0l,e120',hlk,e121,e111_4,hE,z,e181',e111',z2,hup]
       rw [htk]
       refine ⟨rfl, ?_⟩
       simp [hf,hfd,hsp,z,z2]
     · simp only [go_sem,reduceIte,reduceEqDiff,reduceAdd,reduceMul,reduceSub,reduceLeDiff,reduceLT,Nat.reduceBEq,reduceCtorEq,g13,g14,g15,g3,g4,List.length_map,hk,hr,hw,h0l,e120',hlk,e121,e111_4,hE,z,e181',e111',z2]
       simp [linesP,q1,hf,hfd,hsp,z,z2]
   · simp only [go_sem,reduceIte,reduceEqDiff,reduceAdd,reduceMul,reduceSub,reduceLeDiff,reduceLT,Nat.reduceBEq,reduceCtorEq,g13,g14,g15,g3,g4,List.length_map,hk,hr,hw,h0l,e120',hlk,e121,e111_4,hE,z]
     simp [linesP,q1,hf,hfd,hsp,z]
 · rintro T H M ⟨rfl,g13,g14,g15,g3,g4,gH,hn0,hf⟩
   rw [allR_end] at hf
   simp only [go_sem,reduceIte,reduceEqDiff,reduceAdd,reduceMul,reduceSub,reduceLeDiff,reduceLT,Nat.reduceBEq,reduceCtorEq,g13,g14,g15,List.length_map,Nat.lt_irrefl]
   simp [linesP,q1,hf]
/-! ### Switches -/
theorem lnOf_fits {ls:List Ln} {s:List Nat} (h:∀ l ∈ ls,l.ps.length≤maxRows):(lnOf ls s).ps.length≤maxRows:=by
 unfold lnOf
 cases hf:findL ls s with
 | none=>simp
 | some i =>
   obtain ⟨l,hl,_,hm⟩:=findL_at hf
   simp only [List.getD_eq_getElem?_getD,hl,Option.getD_some]
   exact h l hm
theorem first6 (a b c d e f:Int):firstI [a,b,c,d,e,f]=0→b=0:=by
 simp only [firstI];split<;>(try split)<;>simp_all
theorem first5 (a b c d e:Int):firstI [a,b,c,d,e]=0→b=0:=by
 simp only [firstI];split<;>(try split)<;>simp_all
def switchP (n:Net) (i:Nat):Int:=match n.sws[i]? with
 | none=>0
 | some s=>firstI [whenI (!nameB s.name) 8,whenI (dupP ((n.sws.take i).map Sw.name) s.name) 9,whenI (!lnB n.lines s.line) 10,whenI (!hasB (lnOf n.lines s.line) s.metre) 14,whenI (!lnB n.lines s.other) 10,whenI (beqL s.line s.other) 24]
def switchesP (n:Net):Int:=if (8:Int) < n.sws.length then 5 else allR (switchP n) n.sws.length
theorem c112 (n:Net) (hl:n.lines.length≤maxRows) (hps:∀ l ∈ n.lines,l.ps.length≤maxRows) (hs:n.sws.length≤maxRows) (hn:∀ s ∈ n.sws,s.name.length≤maxRows):∀ lo H,CallOk NC lo 112 [.agg n.cells] H (i64 (switchesP n)) H:=by
 refine contract saneNC primsH (fn:=Tryz.f112) (by kernel_rfl) Tryz.func112 rfl rfl (by rfl) (by rfl) ?_
 rcases Classical.propComplete ((8:Int) < n.sws.length) with q1 | q1
 · simp only [go_sem,reduceIte,reduceEqDiff,reduceAdd,reduceMul,reduceSub,reduceLeDiff,reduceLT,Nat.reduceBEq,reduceCtorEq,Net.cells,List.length_map,q1]
   simp [switchesP,q1]
 simp only [go_sem,reduceIte,reduceEqDiff,reduceAdd,reduceMul,reduceSub,reduceLeDiff,reduceLT,Nat.reduceBEq,reduceCtorEq,Net.cells,List.length_map,q1]
 refine W_for (fun k T H M=>M=[]∧getT T 1=.ptr 0 0∧H.get 0=.cells n.cells 40∧getT T 17=.ps .unk (n.sws.map Sw.row)∧getT T 18=i64 (n.sws.length:Nat)∧getT T 19=i64 k∧getT T 3=.map 1∧H.get 1=.map (nameMap ((n.sws.take k).map Sw.name))∧1 < H.n∧allR (switchP n) n.sws.length=firstI (((List.range n.sws.length).map (switchP n)).drop k)) n.sws.length ?_ ?_ ?_
 · simp only [go_sem,reduceIte,reduceEqDiff,reduceAdd,reduceMul,reduceSub,reduceLeDiff,reduceLT,Nat.reduceBEq,reduceCtorEq,List.length_map,Net.cells];exact ⟨rfl,rfl⟩
 · rintro k T H M hk ⟨rfl,g1,gH0,g17,g18,g19,g3,gH,hn0,hf⟩
   obtain ⟨s,hp⟩:∃ p,n.sws[k]? = some p:=⟨n.sws[k],by simp⟩
   have hmem:=List.mem_of_getElem? hp
   have hr:=map_at (f:=Sw.row) hp
   have hw:=wrap_succ hk hs
   have hfd:=allR_step (f:=switchP n) hk
   have htk:(n.sws.take (k+1)).map Sw.name=(n.sws.take k).map Sw.name++[s.name]:=by rw [List.take_add_one,hp];simp
   simp only [Sw.row] at hr
   have e120':=e120 s.name (hn s hmem)
   have e98a:=pe98 (n,s.line) hl
   have e98b:=pe98 (n,s.other) hl
   have e177':=pe177 (lnOf n.lines s.line,s.metre) (lnOf_fits hps)
   simp only [Net.cells,Ln.row,i64] at e98a e98b e177'
   have b0:(0=H.n)=False:=by simp;omega
   have b1:(1=H.n)=False:=by simp;omega
   have b00:(0=H.n+1)=False:=by simp
   have b01:(0=H.n+1+1)=False:=by simp
   have b10:(1=H.n+1)=False:=by simp;omega
   have b11:(1=H.n+1+1)=False:=by simp
   have b2:(H.n=H.n+1)=False:=by simp
   have b3:(H.n=H.n+1+1)=False:=by simp;omega
   have b4:(H.n+1=H.n+1+1)=False:=by simp
   have b5:(1 < H.n+1+1+1)=True:=by simp
   generalize hE:firstI [whenI (!nameB s.name) 8,whenI (dupP ((n.sws.take k).map Sw.name) s.name) 9,whenI (!lnB n.lines s.line) 10,whenI (!hasB (lnOf n.lines s.line) s.metre) 14,whenI (!lnB n.lines s.other) 10,whenI (beqL s.line s.other) 24]=E
   have hsp:switchP n k=E:=by
    unfold switchP
    simp only [hp,hE]
   unfold dupP at hE
   have hlk:∀ H2:Heap,H2.get 1=.map (nameMap ((n.sws.take k).map Sw.name))→alookup NC.P H2 310 (.map 1) (.str s.name) false=some (.bool (((n.sws.take k).map Sw.name).any (beqL s.name))):=fun H2 h2=>look9 h2 s.name
   rcases Classical.propComplete (E=0) with z | z
   · have hdup:((n.sws.take k).map Sw.name).any (beqL s.name)=false:=by
      have:=first6 _ _ _ _ _ _ (hE.trans (of_eq_true z))
      cases hd:((n.sws.take k).map Sw.name).any (beqL s.name) with
      | false=>rfl
      | true=>rw [hd] at this;simp [whenI] at this
     have hup:∀ H2:Heap,H2.get 1=.map (nameMap ((n.sws.take k).map Sw.name))→amapUpdate NC.P 0 H2 310 (.map 1) (.str s.name) (.bool true)=some (H2.set 1 (.map (nameMap ((n.sws.take k).map Sw.name++[s.name])))):=fun H2 h2=>upd9 h2 (Nat.zero_le 1) s.name hdup
     simp only [go_sem,reduceIte,reduceEqDiff,reduceAdd,reduceMul,reduceSub,reduceLeDiff,reduceLT,Nat.reduceBEq,reduceCtorEq,g1,gH0,g17,g18,g19,g3,gH,Net.cells,Ln.row,List.length_map,hk,hr,hw,b0,b1,b00,b01,b10,b11,b2,b3,b4,b5,e120',e98a,e98b,e177',hlk,e121,e111_6,hE,z,hup]
     rw [htk]
     refine ⟨rfl, ?_⟩
     simp [hf,hfd,hsp,z]
   · simp only [go_sem,reduceIte,reduceEqDiff,reduceAdd,reduceMul,reduceSub,reduceLeDiff,reduceLT,Nat.reduceBEq,reduceCtorEq,g1,gH0,g17,g18,g19,g3,gH,Net.cells,Ln.row,List.length_map,hk,hr,hw,b0,b1,b00,b01,b10,b11,b2,b3,b4,b5,e120',e98a,e98b,e177',hlk,e121,e111_6,hE,z]
     simp [switchesP,q1,hf,hfd,hsp,z]
 · rintro T H M ⟨rfl,g1,gH0,g17,g18,g19,g3,gH,hn0,hf⟩
   rw [allR_end] at hf
   simp only [go_sem,reduceIte,reduceEqDiff,reduceAdd,reduceMul,reduceSub,reduceLeDiff,reduceLT,Nat.reduceBEq,reduceCtorEq,g17,g18,g19,List.length_map,Nat.lt_irrefl]
   simp [switchesP,q1,hf]
/-! ### Structures -/
def structP (n:Net) (i:Nat):Int:=match n.sts[i]? with
 | none=>0
 | some s=>firstI [whenI (!nameB s.name) 8,whenI (dupP ((n.sts.take i).map Stc.name) s.name) 9,whenI (!nameB s.kind) 13,whenI (!lnB n.lines s.line) 10,whenI (spanB (lnOf n.lines s.line) s.fr s.till) 14]
def structsP (n:Net):Int:=if (16:Int) < n.sts.length then 5 else allR (structP n) n.sts.length
theorem c113 (n:Net) (hl:n.lines.length≤maxRows) (hps:∀ l ∈ n.lines,l.ps.length≤maxRows) (hs:n.sts.length≤maxRows) (hn:∀ s ∈ n.sts,s.name.length≤maxRows∧s.kind.length≤maxRows):∀ lo H,CallOk NC lo 113 [.agg n.cells] H (i64 (structsP n)) H:=by
 refine contract saneNC primsH (fn:=Tryz.f113) (by kernel_rfl) Tryz.func113 rfl rfl (by rfl) (by rfl) ?_
 rcases Classical.propComplete ((16:Int) < n.sts.length) with q1 | q1
 · simp only [go_sem,reduceIte,reduceEqDiff,reduceAdd,reduceMul,reduceSub,reduceLeDiff,reduceLT,Nat.reduceBEq,reduceCtorEq,Net.cells,List.length_map,q1]
   simp [structsP,q1]
 simp only [go_sem,reduceIte,reduceEqDiff,reduceAdd,reduceMul,reduceSub,reduceLeDiff,reduceLT,Nat.reduceBEq,reduceCtorEq,Net.cells,List.length_map,q1]
 refine W_for (fun k T H M=>M=[]∧getT T 1=.ptr 0 0∧H.get 0=.cells n.cells 40∧getT T 15=.ps .unk (n.sts.map Stc.row)∧getT T 16=i64 (n.sts.length:Nat)∧getT T 17=i64 k∧getT T 3=.map 1∧H.get 1=.map (nameMap ((n.sts.take k).map Stc.name))∧1 < H.n∧allR (structP n) n.sts.length=firstI (((List.range n.sts.length).map (structP n)).drop k)) n.sts.length ?_ ?_ ?_
 · simp only [go_sem,reduceIte,reduceEqDiff,reduceAdd,reduceMul,reduceSub,reduceLeDiff,reduceLT,Nat.reduceBEq,reduceCtorEq,List.length_map,Net.cells];exact ⟨rfl,rfl⟩
 · rintro k T H M hk ⟨rfl,g1,gH0,g17,g18,g19,g3,gH,hn0,hf⟩
   obtain ⟨s,hp⟩:∃ p,n.sts[k]? = some p:=⟨n.sts[k],by simp⟩
   have hmem:=List.mem_of_getElem? hp
   have hr:=map_at (f:=Stc.row) hp
   have hw:=wrap_succ hk hs
   have hfd:=allR_step (f:=structP n) hk
   have htk:(n.sts.take (k+1)).map Stc.name=(n.sts.take k).map Stc.name++[s.name]:=by rw [List.take_add_one,hp];simp
   simp only [Stc.row] at hr
   have e120':=e120 s.name (hn s hmem).1
   have e182':=e182 s.kind (hn s hmem).2
   have e98a:=pe98 (n,s.line) hl
   have e183':=pe183 (lnOf n.lines s.line,s.fr,s.till) (lnOf_fits hps)
   simp only [Net.cells,Ln.row,i64] at e98a e183'
   have b0:(0=H.n)=False:=by simp;omega
   have b1:(1=H.n)=False:=by simp;omega
   have b00:(0=H.n+1)=False:=by simp
   have b10:(1=H.n+1)=False:=by simp;omega
   have b2:(H.n=H.n+1)=False:=by simp
   have b5:(1 < H.n+1+1)=True:=by simp
   generalize hE:firstI [whenI (!nameB s.name) 8,whenI (dupP ((n.sts.take k).map Stc.name) s.name) 9,whenI (!nameB s.kind) 13,whenI (!lnB n.lines s.line) 10,whenI (spanB (lnOf n.lines s.line) s.fr s.till) 14]=E
   have hsp:structP n k=E:=by
    unfold structP
    simp only [hp,hE]
   unfold dupP at hE
   have hlk:∀ H2:Heap,H2.get 1=.map (nameMap ((n.sts.take k).map Stc.name))→alookup NC.P H2 310 (.map 1) (.str s.name) false=some (.bool (((n.sts.take k).map Stc.name).any (beqL s.name))):=fun H2 h2=>look9 h2 s.name
   rcases Classical.propComplete (E=0) with z | z
   · have hdup:((n.sts.take k).map Stc.name).any (beqL s.name)=false:=by
      have:=first5 _ _ _ _ _ (hE.trans (of_eq_true z))
      cases hd:((n.sts.take k).map Stc.name).any (beqL s.name) with
      | false=>rfl
      | true=>rw [hd] at this;simp [whenI] at this
     have hup:∀ H2:Heap,H2.get 1=.map (nameMap ((n.sts.take k).map Stc.name))→amapUpdate NC.P 0 H2 310 (.map 1) (.str s.name) (.bool true)=some (H2.set 1 (.map (nameMap ((n.sts.take k).map Stc.name++[s.name])))):=fun H2 h2=>upd9 h2 (Nat.zero_le 1) s.name hdup
     simp only [go_sem,reduceIte,reduceEqDiff,reduceAdd,reduceMul,reduceSub,reduceLeDiff,reduceLT,Nat.reduceBEq,reduceCtorEq,g1,gH0,g17,g18,g19,g3,gH,Net.cells,Ln.row,List.length_map,hk,hr,hw,b0,b1,b00,b10,b2,b5,e120',e182',e98a,e183',hlk,e121,e111_5,hE,z,hup]
     rw [htk]
     refine ⟨rfl, ?_⟩
     simp [hf,hfd,hsp,z]
   · simp only [go_sem,reduceIte,reduceEqDiff,reduceAdd,reduceMul,reduceSub,reduceLeDiff,reduceLT,Nat.reduceBEq,reduceCtorEq,g1,gH0,g17,g18,g19,g3,gH,Net.cells,Ln.row,List.length_map,hk,hr,hw,b0,b1,b00,b10,b2,b5,e120',e182',e98a,e183',hlk,e121,e111_5,hE,z]
     simp [structsP,q1,hf,hfd,hsp,z]
 · rintro T H M ⟨rfl,g1,gH0,g17,g18,g19,g3,gH,hn0,hf⟩
   rw [allR_end] at hf
   simp only [go_sem,reduceIte,reduceEqDiff,reduceAdd,reduceMul,reduceSub,reduceLeDiff,reduceLT,Nat.reduceBEq,reduceCtorEq,g17,g18,g19,List.length_map,Nat.lt_irrefl]
   simp [structsP,q1,hf]
end Go.Sim

/-
The program: CheckNetwork, Length, Addressed, Placed.
-/
namespace Go.Sim
open Go Go.Proofs
set_option maxRecDepth 100000
set_option maxHeartbeats 8000000
structure Net.Ok (n:Net):Prop where
 lines:n.lines.length≤maxRows
 line:∀ l ∈ n.lines,l.name.length≤maxRows∧l.ps.length≤maxRows
 sws:n.sws.length≤maxRows
 sw:∀ s ∈ n.sws,s.name.length≤maxRows
 sts:n.sts.length≤maxRows
 st:∀ s ∈ n.sts,s.name.length≤maxRows∧s.kind.length≤maxRows
theorem Net.Ok.fits {n:Net} (h:n.Ok):n.fits:=⟨h.lines,fun l hl=>(h.line l hl).2⟩
theorem cells1_inj (x y:Net) (h:[AV.agg x.cells]=[AV.agg y.cells]):x=y:=by
 simp only [List.cons.injEq,AV.agg.injEq,and_true] at h;exact Net.cells_inj _ _ h
noncomputable def p110:List AV→Option AV:=primOf (α:=List Ln) (fun x=>[.ps .unk (x.map Ln.row)]) (fun x=>(x.length≤maxRows ∧ ∀ l ∈ x,l.name.length≤maxRows∧l.ps.length≤maxRows)) (fun x=>i64 (linesP x))
theorem pok110:∀ args v,p110 args=some v → ∀ lo H,CallOk NC lo 110 args H v H:=by
 intro args v h
 obtain ⟨x,rfl,hp,rfl⟩:=primOf_inv h
 clear h
 revert x
 intro x hx;exact c110 x hx.1 hx.2
theorem pe110 (x:List Ln) (hp:(fun x=>(x.length≤maxRows ∧ ∀ l ∈ x,l.name.length≤maxRows∧l.ps.length≤maxRows)) x):p110 ((fun x=>[.ps .unk (x.map Ln.row)]) x)=some ((fun x=>i64 (linesP x)) x):=primOf_enc (by intro x y h;(simp only [List.cons.injEq,AV.ps.injEq,and_true,true_and] at h;exact map_inj Ln.row_inj h)) x hp
noncomputable def p112:List AV→Option AV:=primOf (α:=Net) (fun x=>[.agg x.cells]) (fun x=>x.Ok) (fun x=>i64 (switchesP x))
theorem pok112:∀ args v,p112 args=some v → ∀ lo H,CallOk NC lo 112 args H v H:=by
 intro args v h
 obtain ⟨x,rfl,hp,rfl⟩:=primOf_inv h
 clear h
 revert x
 intro x hx;exact c112 x hx.lines (fun l hl=>(hx.line l hl).2) hx.sws hx.sw
theorem pe112 (x:Net) (hp:(fun x=>x.Ok) x):p112 ((fun x=>[.agg x.cells]) x)=some ((fun x=>i64 (switchesP x)) x):=primOf_enc (by intro x y h;exact cells1_inj x y h) x hp
noncomputable def p113:List AV→Option AV:=primOf (α:=Net) (fun x=>[.agg x.cells]) (fun x=>x.Ok) (fun x=>i64 (structsP x))
theorem pok113:∀ args v,p113 args=some v → ∀ lo H,CallOk NC lo 113 args H v H:=by
 intro args v h
 obtain ⟨x,rfl,hp,rfl⟩:=primOf_inv h
 clear h
 revert x
 intro x hx;exact c113 x hx.lines (fun l hl=>(hx.line l hl).2) hx.sts hx.st
theorem pe113 (x:Net) (hp:(fun x=>x.Ok) x):p113 ((fun x=>[.agg x.cells]) x)=some ((fun x=>i64 (structsP x)) x):=primOf_enc (by intro x y h;exact cells1_inj x y h) x hp
noncomputable def PPI:FuncId→Option (List AV→Option AV):=addPrim 113 p113 (addPrim 112 p112 (addPrim 110 p110 (PPH)))
theorem primsI:PrimsOk NC PPI:=primsOk_add (primsOk_add (primsOk_add (primsH) (by kernel_rfl) (by kernel_rfl) pok110) (by kernel_rfl) (by kernel_rfl) pok112) (by kernel_rfl) (by kernel_rfl) pok113
theorem enI_48:En PPI 48 p48:=enter_prim (by rfl) (by kernel_rfl)
theorem enI_121:En PPI 121 p121:=enter_prim (by rfl) (by kernel_rfl)
theorem enI_34:En PPI 34 p34:=enter_prim (by rfl) (by kernel_rfl)
theorem enI_111:En PPI 111 p111:=enter_prim (by rfl) (by kernel_rfl)
theorem enI_26:En PPI 26 p26:=enter_prim (by rfl) (by kernel_rfl)
theorem enI_178:En PPI 178 p178:=enter_prim (by rfl) (by kernel_rfl)
theorem enI_109:En PPI 109 p109:=enter_prim (by rfl) (by kernel_rfl)
theorem enI_108:En PPI 108 p108:=enter_prim (by rfl) (by kernel_rfl)
theorem enI_27:En PPI 27 p27:=enter_prim (by rfl) (by kernel_rfl)
theorem enI_97:En PPI 97 p97:=enter_prim (by rfl) (by kernel_rfl)
theorem enI_122:En PPI 122 p122:=enter_prim (by rfl) (by kernel_rfl)
theorem enI_182:En PPI 182 p182:=enter_prim (by rfl) (by kernel_rfl)
theorem enI_35:En PPI 35 p35:=enter_prim (by rfl) (by kernel_rfl)
theorem enI_115:En PPI 115 p115:=enter_prim (by rfl) (by kernel_rfl)
theorem enI_36:En PPI 36 p36:=enter_prim (by rfl) (by kernel_rfl)
theorem enI_120:En PPI 120 p120:=enter_prim (by rfl) (by kernel_rfl)
theorem enI_106:En PPI 106 p106:=enter_prim (by rfl) (by kernel_rfl)
theorem enI_179:En PPI 179 p179:=enter_prim (by rfl) (by kernel_rfl)
theorem enI_126:En PPI 126 p126:=enter_prim (by rfl) (by kernel_rfl)
theorem enI_103:En PPI 103 p103:=enter_prim (by rfl) (by kernel_rfl)
theorem enI_104:En PPI 104 p104:=enter_prim (by rfl) (by kernel_rfl)
theorem enI_105:En PPI 105 p105:=enter_prim (by rfl) (by kernel_rfl)
theorem enI_99:En PPI 99 p99:=enter_prim (by rfl) (by kernel_rfl)
theorem enI_226:En PPI 226 p226:=enter_prim (by rfl) (by kernel_rfl)
theorem enI_134:En PPI 134 p134:=enter_prim (by rfl) (by kernel_rfl)
theorem enI_177:En PPI 177 p177:=enter_prim (by rfl) (by kernel_rfl)
theorem enI_180:En PPI 180 p180:=enter_prim (by rfl) (by kernel_rfl)
theorem enI_98:En PPI 98 p98:=enter_prim (by rfl) (by kernel_rfl)
theorem enI_181:En PPI 181 p181:=enter_prim (by rfl) (by kernel_rfl)
theorem enI_183:En PPI 183 p183:=enter_prim (by rfl) (by kernel_rfl)
theorem enI_110:En PPI 110 p110:=enter_prim (by rfl) (by kernel_rfl)
theorem enI_112:En PPI 112 p112:=enter_prim (by rfl) (by kernel_rfl)
theorem enI_113:En PPI 113 p113:=enter_prim (by rfl) (by kernel_rfl)
attribute [go_sem ↓] enI_48 enI_121 enI_34 enI_111 enI_26 enI_178 enI_109 enI_108 enI_27 enI_97 enI_122 enI_182
attribute [go_sem ↓] enI_35 enI_115 enI_36 enI_120 enI_106 enI_179 enI_126 enI_103 enI_104 enI_105 enI_99 enI_226
attribute [go_sem ↓] enI_134 enI_177 enI_180 enI_98 enI_181 enI_183 enI_110 enI_112 enI_113
def netP (n:Net):Int:=if linesP n.lines=0 then firstI [switchesP n,structsP n] else linesP n.lines
theorem c29 (n:Net) (hn:n.Ok):∀ lo H,CallOk NC lo 29 [.agg n.cells] H (i64 (netP n)) H:=by
 refine contract saneNC primsI (fn:=Tryz.f29) (by kernel_rfl) Tryz.func29 rfl rfl (by rfl) (by rfl) ?_
 have e110:=pe110 n.lines ⟨hn.lines,hn.line⟩
 have e112:=pe112 n hn
 have e113:=pe113 n hn
 simp only [Net.cells,i64] at e110 e112 e113
 generalize hE:linesP n.lines=E at e110
 rcases Classical.propComplete (E=0) with z | z
 · simp only [go_sem,reduceIte,reduceEqDiff,reduceAdd,reduceMul,reduceSub,reduceLeDiff,reduceLT,Nat.reduceBEq,reduceCtorEq,Net.cells,e110,e112,e113,e111_2,z]
   simp [netP,hE,z]
 · simp only [go_sem,reduceIte,reduceEqDiff,reduceAdd,reduceMul,reduceSub,reduceLeDiff,reduceLT,Nat.reduceBEq,reduceCtorEq,Net.cells,e110,e112,e113,e111_2,z]
   simp [netP,hE,z]
noncomputable def p29:List AV→Option AV:=primOf (α:=Net) (fun x=>[.agg x.cells]) (fun x=>x.Ok) (fun x=>i64 (netP x))
theorem pok29:∀ args v,p29 args=some v → ∀ lo H,CallOk NC lo 29 args H v H:=by
 intro args v h
 obtain ⟨x,rfl,hp,rfl⟩:=primOf_inv h
 clear h
 revert x
 intro x hx;exact c29 x hx
theorem pe29 (x:Net) (hp:(fun x=>x.Ok) x):p29 ((fun x=>[.agg x.cells]) x)=some ((fun x=>i64 (netP x)) x):=primOf_enc (by intro x y h;exact cells1_inj x y h) x hp
noncomputable def PPJ:FuncId→Option (List AV→Option AV):=addPrim 29 p29 (PPI)
theorem primsJ:PrimsOk NC PPJ:=primsOk_add (primsI) (by kernel_rfl) (by kernel_rfl) pok29
theorem enJ_48:En PPJ 48 p48:=enter_prim (by rfl) (by kernel_rfl)
theorem enJ_121:En PPJ 121 p121:=enter_prim (by rfl) (by kernel_rfl)
theorem enJ_34:En PPJ 34 p34:=enter_prim (by rfl) (by kernel_rfl)
theorem enJ_111:En PPJ 111 p111:=enter_prim (by rfl) (by kernel_rfl)
theorem enJ_26:En PPJ 26 p26:=enter_prim (by rfl) (by kernel_rfl)
theorem enJ_178:En PPJ 178 p178:=enter_prim (by rfl) (by kernel_rfl)
theorem enJ_109:En PPJ 109 p109:=enter_prim (by rfl) (by kernel_rfl)
theorem enJ_108:En PPJ 108 p108:=enter_prim (by rfl) (by kernel_rfl)
theorem enJ_27:En PPJ 27 p27:=enter_prim (by rfl) (by kernel_rfl)
theorem enJ_97:En PPJ 97 p97:=enter_prim (by rfl) (by kernel_rfl)
theorem enJ_122:En PPJ 122 p122:=enter_prim (by rfl) (by kernel_rfl)
theorem enJ_182:En PPJ 182 p182:=enter_prim (by rfl) (by kernel_rfl)
theorem enJ_35:En PPJ 35 p35:=enter_prim (by rfl) (by kernel_rfl)
theorem enJ_115:En PPJ 115 p115:=enter_prim (by rfl) (by kernel_rfl)
theorem enJ_36:En PPJ 36 p36:=enter_prim (by rfl) (by kernel_rfl)
theorem enJ_120:En PPJ 120 p120:=enter_prim (by rfl) (by kernel_rfl)
theorem enJ_106:En PPJ 106 p106:=enter_prim (by rfl) (by kernel_rfl)
theorem enJ_179:En PPJ 179 p179:=enter_prim (by rfl) (by kernel_rfl)
theorem enJ_126:En PPJ 126 p126:=enter_prim (by rfl) (by kernel_rfl)
theorem enJ_103:En PPJ 103 p103:=enter_prim (by rfl) (by kernel_rfl)
theorem enJ_104:En PPJ 104 p104:=enter_prim (by rfl) (by kernel_rfl)
theorem enJ_105:En PPJ 105 p105:=enter_prim (by rfl) (by kernel_rfl)
theorem enJ_99:En PPJ 99 p99:=enter_prim (by rfl) (by kernel_rfl)
theorem enJ_226:En PPJ 226 p226:=enter_prim (by rfl) (by kernel_rfl)
theorem enJ_134:En PPJ 134 p134:=enter_prim (by rfl) (by kernel_rfl)
theorem enJ_177:En PPJ 177 p177:=enter_prim (by rfl) (by kernel_rfl)
theorem enJ_180:En PPJ 180 p180:=enter_prim (by rfl) (by kernel_rfl)
theorem enJ_98:En PPJ 98 p98:=enter_prim (by rfl) (by kernel_rfl)
theorem enJ_181:En PPJ 181 p181:=enter_prim (by rfl) (by kernel_rfl)
theorem enJ_183:En PPJ 183 p183:=enter_prim (by rfl) (by kernel_rfl)
theorem enJ_110:En PPJ 110 p110:=enter_prim (by rfl) (by kernel_rfl)
theorem enJ_112:En PPJ 112 p112:=enter_prim (by rfl) (by kernel_rfl)
theorem enJ_113:En PPJ 113 p113:=enter_prim (by rfl) (by kernel_rfl)
theorem enJ_29:En PPJ 29 p29:=enter_prim (by rfl) (by kernel_rfl)
attribute [go_sem ↓] enJ_48 enJ_121 enJ_34 enJ_111 enJ_26 enJ_178 enJ_109 enJ_108 enJ_27 enJ_97 enJ_122 enJ_182
attribute [go_sem ↓] enJ_35 enJ_115 enJ_36 enJ_120 enJ_106 enJ_179 enJ_126 enJ_103 enJ_104 enJ_105 enJ_99 enJ_226
attribute [go_sem ↓] enJ_134 enJ_177 enJ_180 enJ_98 enJ_181 enJ_183 enJ_110 enJ_112 enJ_113 enJ_29
def placeP (n:Net) (s:List Nat) (m:Int):Int:=firstI [whenI (!lnB n.lines s) 10,whenI (!hasB (lnOf n.lines s) m) 14]
theorem c100 (n:Net) (s:List Nat) (m:Int) (hn:n.Ok):∀ lo H,CallOk NC lo 100 [.agg n.cells,.agg [.str s,i64 m]] H (i64 (placeP n s m)) H:=by
 refine contract saneNC primsJ (fn:=Tryz.f100) (by kernel_rfl) Tryz.func100 rfl rfl (by rfl) (by rfl) ?_
 have e98:=pe98 (n,s) hn.lines
 have e177:=pe177 (lnOf n.lines s,m) (lnOf_fits fun l hl=>(hn.line l hl).2)
 simp only [Net.cells,Ln.row,i64] at e98 e177
 simp only [go_sem,reduceIte,reduceEqDiff,reduceAdd,reduceMul,reduceSub,reduceLeDiff,reduceLT,Nat.reduceBEq,reduceCtorEq,Net.cells,Ln.row,e98,e177,e121,e111_2]
 rfl
end Go.Sim

/-
The program: Addressed, Placed.
-/
namespace Go.Sim
open Go Go.Proofs
set_option maxRecDepth 100000
set_option maxHeartbeats 8000000
noncomputable def p100:List AV→Option AV:=primOf (α:=Net × List Nat × Int) (fun x=>[.agg x.1.cells,.agg [.str x.2.1,i64 x.2.2]]) (fun x=>x.1.Ok) (fun x=>i64 (placeP x.1 x.2.1 x.2.2))
theorem pok100:∀ args v,p100 args=some v → ∀ lo H,CallOk NC lo 100 args H v H:=by
 intro args v h
 obtain ⟨x,rfl,hp,rfl⟩:=primOf_inv h
 clear h
 revert x
 intro x hx;exact c100 x.1 x.2.1 x.2.2 hx
noncomputable def PPK:FuncId→Option (List AV→Option AV):=addPrim 100 p100 (PPJ)
theorem primsK:PrimsOk NC PPK:=primsOk_add (primsJ) (by kernel_rfl) (by kernel_rfl) pok100
theorem enK_48:En PPK 48 p48:=enter_prim (by rfl) (by kernel_rfl)
theorem enK_121:En PPK 121 p121:=enter_prim (by rfl) (by kernel_rfl)
theorem enK_34:En PPK 34 p34:=enter_prim (by rfl) (by kernel_rfl)
theorem enK_111:En PPK 111 p111:=enter_prim (by rfl) (by kernel_rfl)
theorem enK_26:En PPK 26 p26:=enter_prim (by rfl) (by kernel_rfl)
theorem enK_178:En PPK 178 p178:=enter_prim (by rfl) (by kernel_rfl)
theorem enK_109:En PPK 109 p109:=enter_prim (by rfl) (by kernel_rfl)
theorem enK_108:En PPK 108 p108:=enter_prim (by rfl) (by kernel_rfl)
theorem enK_27:En PPK 27 p27:=enter_prim (by rfl) (by kernel_rfl)
theorem enK_97:En PPK 97 p97:=enter_prim (by rfl) (by kernel_rfl)
theorem enK_122:En PPK 122 p122:=enter_prim (by rfl) (by kernel_rfl)
theorem enK_182:En PPK 182 p182:=enter_prim (by rfl) (by kernel_rfl)
theorem enK_35:En PPK 35 p35:=enter_prim (by rfl) (by kernel_rfl)
theorem enK_115:En PPK 115 p115:=enter_prim (by rfl) (by kernel_rfl)
theorem enK_36:En PPK 36 p36:=enter_prim (by rfl) (by kernel_rfl)
theorem enK_120:En PPK 120 p120:=enter_prim (by rfl) (by kernel_rfl)
theorem enK_106:En PPK 106 p106:=enter_prim (by rfl) (by kernel_rfl)
theorem enK_179:En PPK 179 p179:=enter_prim (by rfl) (by kernel_rfl)
theorem enK_126:En PPK 126 p126:=enter_prim (by rfl) (by kernel_rfl)
theorem enK_103:En PPK 103 p103:=enter_prim (by rfl) (by kernel_rfl)
theorem enK_104:En PPK 104 p104:=enter_prim (by rfl) (by kernel_rfl)
theorem enK_105:En PPK 105 p105:=enter_prim (by rfl) (by kernel_rfl)
theorem enK_99:En PPK 99 p99:=enter_prim (by rfl) (by kernel_rfl)
theorem enK_226:En PPK 226 p226:=enter_prim (by rfl) (by kernel_rfl)
theorem enK_134:En PPK 134 p134:=enter_prim (by rfl) (by kernel_rfl)
theorem enK_177:En PPK 177 p177:=enter_prim (by rfl) (by kernel_rfl)
theorem enK_180:En PPK 180 p180:=enter_prim (by rfl) (by kernel_rfl)
theorem enK_98:En PPK 98 p98:=enter_prim (by rfl) (by kernel_rfl)
theorem enK_181:En PPK 181 p181:=enter_prim (by rfl) (by kernel_rfl)
theorem enK_183:En PPK 183 p183:=enter_prim (by rfl) (by kernel_rfl)
theorem enK_110:En PPK 110 p110:=enter_prim (by rfl) (by kernel_rfl)
theorem enK_112:En PPK 112 p112:=enter_prim (by rfl) (by kernel_rfl)
theorem enK_113:En PPK 113 p113:=enter_prim (by rfl) (by kernel_rfl)
theorem enK_29:En PPK 29 p29:=enter_prim (by rfl) (by kernel_rfl)
theorem enK_100:En PPK 100 p100:=enter_prim (by rfl) (by kernel_rfl)
attribute [go_sem ↓] enK_48 enK_121 enK_34 enK_111 enK_26 enK_178 enK_109 enK_108 enK_27 enK_97 enK_122 enK_182
attribute [go_sem ↓] enK_35 enK_115 enK_36 enK_120 enK_106 enK_179 enK_126 enK_103 enK_104 enK_105 enK_99 enK_226
attribute [go_sem ↓] enK_134 enK_177 enK_180 enK_98 enK_181 enK_183 enK_110 enK_112 enK_113 enK_29 enK_100
def addrK (l:Ln) (m:Int):Nat→Int × Int
 | 0=>(0,0)
 | k+1=>match l.ps[k]? with
   | none=>addrK l m k
   | some p=>if !decide (m < begI l k) && decide (m < begI l (k+1)) then ((k:Int),wrapq .i64 (Int.add p.post (wrapq .i64 (Int.mul (stepI p.back) (wrapq .i64 (Int.sub m (begI l k))))))) else addrK l m k
theorem c101 (n:Net) (s:List Nat) (m:Int) (hn:n.Ok):∀ lo H,CallOk NC lo 101 [.agg n.cells,.agg [.str s,i64 m]] H (.agg [.str s,i64 (addrK (lnOf n.lines s) m (lnOf n.lines s).ps.length).1,i64 (addrK (lnOf n.lines s) m (lnOf n.lines s).ps.length).2]) H:=by
 refine contract saneNC primsK (fn:=Tryz.f101) (by kernel_rfl) Tryz.func101 rfl rfl (by rfl) (by rfl) ?_
 have e98:=pe98 (n,s) hn.lines
 have hfit:(lnOf n.lines s).ps.length≤maxRows:=lnOf_fits fun l hl=>(hn.line l hl).2
 simp only [Net.cells,Ln.row,i64] at e98
 generalize lnOf n.lines s=l at e98 hfit ⊢
 generalize lnB n.lines s=B at e98
 have r:=fun lo H=>r176 (P:=PPK) lo l H
 simp only [Ln.row] at r
 simp only [go_sem,reduceIte,reduceEqDiff,reduceAdd,reduceMul,reduceSub,reduceLeDiff,reduceLT,Nat.reduceBEq,reduceCtorEq,Net.cells,Ln.row,e98,en176 rfl (show PPK 176=none from rfl),r,ofVal_v,ofVal_H]
 refine W_pieces (l:=l) (c:=6) rfl hfit (Nat.zero_le _) (by simp only [go_sem,reduceIte,reduceEqDiff,reduceAdd,reduceMul,reduceSub,reduceLeDiff,reduceLT,Nat.reduceBEq,reduceCtorEq]) (by simp only [go_sem,reduceIte,reduceEqDiff,reduceAdd,reduceMul,reduceSub,reduceLeDiff,reduceLT,Nat.reduceBEq,reduceCtorEq]) (fun k i=>match i with | 0=>.cells n.cells 40 | 1=>.cells [.str s,i64 m] 45 | 2=>.cells [.str [],i64 0,i64 0] 42 | 3=>.cells l.row 196 | 4=>.cells [.str s,i64 (addrK l m k).1,i64 (addrK l m k).2] 42 | 5=>.cells [i64 k] 3 | 6=>.cells l.row 196 | _=>.dead) (fun _ _=>False) ?_ (fun k=>rfl) ?_ ?_ ?_
 · intro i hi
   simp only [go_sem,reduceIte,reduceEqDiff,reduceAdd,reduceMul,reduceSub,reduceLeDiff,reduceLT,Nat.reduceBEq,reduceCtorEq] at hi
   match i,hi with
   | 0,_=>simp only [go_sem,reduceIte,reduceEqDiff,reduceAdd,reduceMul,reduceSub,reduceLeDiff,reduceLT,Nat.reduceBEq,reduceCtorEq]<;>rfl
   | 1,_=>simp only [go_sem,reduceIte,reduceEqDiff,reduceAdd,reduceMul,reduceSub,reduceLeDiff,reduceLT,Nat.reduceBEq,reduceCtorEq]<;>rfl
   | 2,_=>simp only [go_sem,reduceIte,reduceEqDiff,reduceAdd,reduceMul,reduceSub,reduceLeDiff,reduceLT,Nat.reduceBEq,reduceCtorEq]<;>rfl
   | 3,_=>simp only [go_sem,reduceIte,reduceEqDiff,reduceAdd,reduceMul,reduceSub,reduceLeDiff,reduceLT,Nat.reduceBEq,reduceCtorEq]<;>rfl
   | 4,_=>simp only [go_sem,reduceIte,reduceEqDiff,reduceAdd,reduceMul,reduceSub,reduceLeDiff,reduceLT,Nat.reduceBEq,reduceCtorEq]<;>rfl
   | 5,_=>simp only [go_sem,reduceIte,reduceEqDiff,reduceAdd,reduceMul,reduceSub,reduceLeDiff,reduceLT,Nat.reduceBEq,reduceCtorEq]<;>rfl
   | 6,_=>simp only [go_sem,reduceIte,reduceEqDiff,reduceAdd,reduceMul,reduceSub,reduceLeDiff,reduceLT,Nat.reduceBEq,reduceCtorEq]<;>rfl
   | i+7,hi=>omega
 · intro k p Hk q hp hq hB
   simp only [go_sem,reduceIte,reduceEqDiff,reduceAdd,reduceMul,reduceSub,reduceLeDiff,reduceLT,Nat.reduceBEq,reduceCtorEq] at hq hB
   have h1:=hB 1 (by omega)
   have h4:=hB 4 (by omega)
   have h5:=hB 5 (by omega)
   have hbs:=begI_succ hp
   have hw:=wrap_succ (List.getElem?_eq_some_iff.1 hp).1 hfit
   obtain ⟨pl,pq,pb⟩:=p
   simp only at h1 h4 h5 hbs
   simp only [go_sem,reduceIte,reduceEqDiff,reduceAdd,reduceMul,reduceSub,reduceLeDiff,reduceLT,Nat.reduceBEq,reduceCtorEq,Pc.row,hq]
   refine ⟨fun j _ hj=>by rw [if_neg (by omega),if_neg (by omega)],fun r => ?_⟩
   rcases Classical.propComplete (m < begI l k) with c1 | c1<;>rcases Classical.propComplete (m < begI l (k+1)) with c2 | c2<;>simp only [go_sem,reduceIte,reduceEqDiff,reduceAdd,reduceMul,reduceSub,reduceLeDiff,reduceLT,Nat.reduceBEq,reduceCtorEq,hq,h1,h4,h5,← hbs,e178,hw,c1,c2]
   all_goals
    refine ⟨by omega,fun j h3 hj hj2 => ?_,fun i hi => ?_⟩
    · repeat (rw [if_neg (by omega)])
    · match i,hi with
      | 0,_=>simp [hB 0 (by omega)]
      | 1,_=>simp [hB 1 (by omega)]
      | 2,_=>simp [hB 2 (by omega)]
      | 3,_=>simp [hB 3 (by omega)]
      | 4,_=>simp [h4,addrK,hp,c1,c2]
      | 5,_=>simp
      | 6,_=>simp [hB 6 (by omega)]
      | i+7,hi=>omega
 · intro H4 hB hd
   simp only [go_sem,reduceIte,reduceEqDiff,reduceAdd,reduceMul,reduceSub,reduceLeDiff,reduceLT,Nat.reduceBEq,reduceCtorEq] at hB hd
   have h4:=hB 4 (by omega)
   have h2:=hB 2 (by omega)
   simp only at h4 h2
   simp only [go_sem,reduceIte,reduceEqDiff,reduceAdd,reduceMul,reduceSub,reduceLeDiff,reduceLT,Nat.reduceBEq,reduceCtorEq,h2,h4,hd,shutMarks_cons]
 · intro e H3 H4 _ h
   exact h.elim
end Go.Sim

/-
The program: Placed; the calls that check first.
-/
namespace Go.Sim
open Go Go.Proofs
set_option maxRecDepth 100000
set_option maxHeartbeats 8000000
noncomputable def p101:List AV→Option AV:=primOf (α:=Net × List Nat × Int) (fun x=>[.agg x.1.cells,.agg [.str x.2.1,i64 x.2.2]]) (fun x=>x.1.Ok) (fun x=>.agg [.str x.2.1,i64 (addrK (lnOf x.1.lines x.2.1) x.2.2 (lnOf x.1.lines x.2.1).ps.length).1,i64 (addrK (lnOf x.1.lines x.2.1) x.2.2 (lnOf x.1.lines x.2.1).ps.length).2])
theorem pok101:∀ args v,p101 args=some v → ∀ lo H,CallOk NC lo 101 args H v H:=by
 intro args v h
 obtain ⟨x,rfl,hp,rfl⟩:=primOf_inv h
 clear h
 revert x
 intro x hx;exact c101 x.1 x.2.1 x.2.2 hx
noncomputable def PPL:FuncId→Option (List AV→Option AV):=addPrim 101 p101 (PPK)
theorem primsL:PrimsOk NC PPL:=primsOk_add (primsK) (by kernel_rfl) (by kernel_rfl) pok101
theorem enL_48:En PPL 48 p48:=enter_prim (by rfl) (by kernel_rfl)
theorem enL_121:En PPL 121 p121:=enter_prim (by rfl) (by kernel_rfl)
theorem enL_34:En PPL 34 p34:=enter_prim (by rfl) (by kernel_rfl)
theorem enL_111:En PPL 111 p111:=enter_prim (by rfl) (by kernel_rfl)
theorem enL_26:En PPL 26 p26:=enter_prim (by rfl) (by kernel_rfl)
theorem enL_178:En PPL 178 p178:=enter_prim (by rfl) (by kernel_rfl)
theorem enL_109:En PPL 109 p109:=enter_prim (by rfl) (by kernel_rfl)
theorem enL_108:En PPL 108 p108:=enter_prim (by rfl) (by kernel_rfl)
theorem enL_27:En PPL 27 p27:=enter_prim (by rfl) (by kernel_rfl)
theorem enL_97:En PPL 97 p97:=enter_prim (by rfl) (by kernel_rfl)
theorem enL_122:En PPL 122 p122:=enter_prim (by rfl) (by kernel_rfl)
theorem enL_182:En PPL 182 p182:=enter_prim (by rfl) (by kernel_rfl)
theorem enL_35:En PPL 35 p35:=enter_prim (by rfl) (by kernel_rfl)
theorem enL_115:En PPL 115 p115:=enter_prim (by rfl) (by kernel_rfl)
theorem enL_36:En PPL 36 p36:=enter_prim (by rfl) (by kernel_rfl)
theorem enL_120:En PPL 120 p120:=enter_prim (by rfl) (by kernel_rfl)
theorem enL_106:En PPL 106 p106:=enter_prim (by rfl) (by kernel_rfl)
theorem enL_179:En PPL 179 p179:=enter_prim (by rfl) (by kernel_rfl)
theorem enL_126:En PPL 126 p126:=enter_prim (by rfl) (by kernel_rfl)
theorem enL_103:En PPL 103 p103:=enter_prim (by rfl) (by kernel_rfl)
theorem enL_104:En PPL 104 p104:=enter_prim (by rfl) (by kernel_rfl)
theorem enL_105:En PPL 105 p105:=enter_prim (by rfl) (by kernel_rfl)
theorem enL_99:En PPL 99 p99:=enter_prim (by rfl) (by kernel_rfl)
theorem enL_226:En PPL 226 p226:=enter_prim (by rfl) (by kernel_rfl)
theorem enL_134:En PPL 134 p134:=enter_prim (by rfl) (by kernel_rfl)
theorem enL_177:En PPL 177 p177:=enter_prim (by rfl) (by kernel_rfl)
theorem enL_180:En PPL 180 p180:=enter_prim (by rfl) (by kernel_rfl)
theorem enL_98:En PPL 98 p98:=enter_prim (by rfl) (by kernel_rfl)
theorem enL_181:En PPL 181 p181:=enter_prim (by rfl) (by kernel_rfl)
theorem enL_183:En PPL 183 p183:=enter_prim (by rfl) (by kernel_rfl)
theorem enL_110:En PPL 110 p110:=enter_prim (by rfl) (by kernel_rfl)
theorem enL_112:En PPL 112 p112:=enter_prim (by rfl) (by kernel_rfl)
theorem enL_113:En PPL 113 p113:=enter_prim (by rfl) (by kernel_rfl)
theorem enL_29:En PPL 29 p29:=enter_prim (by rfl) (by kernel_rfl)
theorem enL_100:En PPL 100 p100:=enter_prim (by rfl) (by kernel_rfl)
theorem enL_101:En PPL 101 p101:=enter_prim (by rfl) (by kernel_rfl)
attribute [go_sem ↓] enL_48 enL_121 enL_34 enL_111 enL_26 enL_178 enL_109 enL_108 enL_27 enL_97 enL_122 enL_182
attribute [go_sem ↓] enL_35 enL_115 enL_36 enL_120 enL_106 enL_179 enL_126 enL_103 enL_104 enL_105 enL_99 enL_226
attribute [go_sem ↓] enL_134 enL_177 enL_180 enL_98 enL_181 enL_183 enL_110 enL_112 enL_113 enL_29 enL_100 enL_101
def noPlace:AV:=.agg [.str [],i64 0]
def hitB (l:Ln) (piece post:Int) (k:Nat):Bool:=match l.ps[k]? with
 | none=>false
 | some p=>metreB p post && decide ((k:Int)=piece)
def placedV (l:Ln) (s:List Nat) (piece post:Int):List AV:=match l.ps[piece.toNat]? with
 | none=>[noPlace,i64 14]
 | some p=>if metreB p post && decide (0≤piece) then [.agg [.str s,i64 (wrapq .i64 (Int.add (begI l piece.toNat) (metreI p post)))],i64 0] else [noPlace,i64 14]
def placedP (n:Net) (s:List Nat) (piece post:Int):List AV :=
 let e:=firstI [whenI (!lnB n.lines s) 10,whenI (decide (piece < 0) || !decide (piece < ((lnOf n.lines s).ps.length:Nat))) 7]
 if e=0 then (if rangeI post 0 9999999=0 then placedV (lnOf n.lines s) s piece post else [noPlace,i64 14]) else [noPlace,i64 e]
theorem placedV_hit {l:Ln} {s:List Nat} {piece post:Int} {k:Nat} {p:Pc} (hp:l.ps[k]? = some p) (hm:metreB p post=true) (hk:(k:Int)=piece):placedV l s piece post=[.agg [.str s,i64 (wrapq .i64 (Int.add (begI l k) (metreI p post)))],i64 0]:=by
 subst hk
 unfold placedV
 simp [hp,hm]
theorem placedV_none {l:Ln} {s:List Nat} {piece post:Int} (h:∀ k,k < l.ps.length→hitB l piece post k=false):placedV l s piece post=[noPlace,i64 14]:=by
 unfold placedV
 cases hp:l.ps[piece.toNat]? with
 | none=>rfl
 | some p =>
   by_cases h0:0≤piece
   · have:=h piece.toNat (List.getElem?_eq_some_iff.1 hp).1
     unfold hitB at this
     rw [hp] at this
     have e:((piece.toNat:Nat):Int)=piece:=Int.toNat_of_nonneg h0
     simp only [e,decide_true,Bool.and_true] at this
     simp [this]
   · simp [h0]
theorem placedP_pure (n:Net) (s:List Nat) (piece post:Int):(AV.tup (placedP n s piece post)).pure=true:=by
 unfold placedP placedV
 simp only []
 split
 · split
   · split
     · rfl
     · split<;>rfl
   · rfl
 · rfl
theorem first2 (a b:Int):firstI [a,b]=0→a=0∧b=0:=by
 simp only [firstI];split<;>(try split)<;>simp_all
theorem c102 (n:Net) (s:List Nat) (piece post:Int) (hn:n.Ok):∀ lo H,CallOk NC lo 102 [.agg n.cells,.agg [.str s,i64 piece,i64 post]] H (.tup (placedP n s piece post)) H:=by
 refine contract saneNC primsL (fn:=Tryz.f102) (by kernel_rfl) Tryz.func102 rfl rfl (by rfl) (placedP_pure ..) ?_
 have e98:=pe98 (n,s) hn.lines
 have hfit:(lnOf n.lines s).ps.length≤maxRows:=lnOf_fits fun l hl=>(hn.line l hl).2
 have hsp:placedP n s piece post=(let e:=firstI [whenI (!lnB n.lines s) 10,whenI (decide (piece < 0) || !decide (piece < ((lnOf n.lines s).ps.length:Nat))) 7]
  if e=0 then (if rangeI post 0 9999999=0 then placedV (lnOf n.lines s) s piece post else [noPlace,i64 14]) else [noPlace,i64 e]):=rfl
 simp only [Net.cells,Ln.row,i64] at e98
 rw [hsp]
 simp only []
 generalize lnOf n.lines s=l at e98 hfit ⊢
 generalize lnB n.lines s=B at e98 ⊢
 have r:=fun lo H=>r176 (P:=PPL) lo l H
 simp only [Ln.row] at r
 generalize hE:firstI [whenI (!B) 10,whenI (decide (piece < 0) || !decide (piece < (l.ps.length:Nat))) 7]=E
 generalize hF:rangeI post 0 9999999=F
 rcases Classical.propComplete (E=0) with z | z
 case inr =>
  rcases Classical.propComplete (piece < 0) with c1 | c1<;>rcases Classical.propComplete (piece < (l.ps.length:Nat)) with c2 | c2<;>simp only [c1,c2,decide_true,decide_false,Bool.true_or,Bool.or_true,Bool.not_true,Bool.not_false,Bool.or_false,Bool.false_or] at hE<;>simp only [go_sem,reduceIte,reduceEqDiff,reduceAdd,reduceMul,reduceSub,reduceLeDiff,reduceLT,Nat.reduceBEq,reduceCtorEq,Net.cells,Ln.row,e98,e121,e111_2,List.length_map,c1,c2,hE,z,noPlace]
 rcases Classical.propComplete (F=0) with z2 | z2
 case inr =>
  rcases Classical.propComplete (piece < 0) with c1 | c1<;>rcases Classical.propComplete (piece < (l.ps.length:Nat)) with c2 | c2<;>simp only [c1,c2,decide_true,decide_false,Bool.true_or,Bool.or_true,Bool.not_true,Bool.not_false,Bool.or_false,Bool.false_or] at hE<;>simp only [go_sem,reduceIte,reduceEqDiff,reduceAdd,reduceMul,reduceSub,reduceLeDiff,reduceLT,Nat.reduceBEq,reduceCtorEq,Net.cells,Ln.row,e98,e121,e111_2,e115,hF,List.length_map,c1,c2,hE,z,z2,noPlace]
 have h2:=first2 _ _ (hE.trans (of_eq_true z))
 have c1:(piece < 0)=False:=by
  rcases Classical.propComplete (piece < 0) with c1 | c1
  · have:=h2.2;simp [c1,whenI] at this
  · exact c1
 have c2:(piece < (l.ps.length:Nat))=True:=by
  rcases Classical.propComplete (piece < (l.ps.length:Nat)) with c2 | c2
  · exact c2
  · have:=h2.2;simp [c2,whenI] at this
 have e134:∀ (a b:Int) (d:Bool),p134 [.agg [.int .i64 a,.int .i64 b,.bool d],.int .i64 post]=some (.tup [.int .i64 (metreI ⟨a,b,d⟩ post),.bool (metreB ⟨a,b,d⟩ post)]):=fun a b d=>pe134 (⟨a,b,d⟩,post) trivial
 simp only [c1,c2,decide_true,decide_false,Bool.true_or,Bool.or_true,Bool.not_true,Bool.not_false,Bool.or_false,Bool.false_or] at hE
 simp only [go_sem,reduceIte,reduceEqDiff,reduceAdd,reduceMul,reduceSub,reduceLeDiff,reduceLT,Nat.reduceBEq,reduceCtorEq,Net.cells,Ln.row,e98,e121,e111_2,e115,hF,List.length_map,c1,c2,hE,z,z2,en176 rfl (show PPL 176=none from rfl),r,ofVal_v,ofVal_H]
 refine W_piecesG (l:=l) (c:=6) rfl hfit (Nat.zero_le _) (by simp only [go_sem,reduceIte,reduceEqDiff,reduceAdd,reduceMul,reduceSub,reduceLeDiff,reduceLT,Nat.reduceBEq,reduceCtorEq]) (by simp only [go_sem,reduceIte,reduceEqDiff,reduceAdd,reduceMul,reduceSub,reduceLeDiff,reduceLT,Nat.reduceBEq,reduceCtorEq]) (fun k=>∀ j,j < k→hitB l piece post j=false) (fun j hj=>by omega) (fun k i=>match i with | 0=>.cells n.cells 40 | 1=>.cells [.str s,i64 piece,i64 post] 42 | 2=>.cells [.str [],i64 0] 45 | 3=>.cells [i64 0] 33 | 4=>.cells l.row 196 | 5=>.cells [i64 k] 3 | 6=>.cells l.row 196 | _=>.dead)
  (fun e H3=>e=.ret ∧ ∃ (k:Nat) (p:Pc),l.ps[k]? = some p∧metreB p post=true∧(k:Int)=piece∧H3.get 2=.cells [.str s,i64 (wrapq .i64 (Int.add (begI l k) (metreI p post)))] 45∧H3.get 3=.cells [i64 0] 33) ?_ (fun k=>rfl) ?_ ?_ ?_
 · intro i hi
   simp only [go_sem,reduceIte,reduceEqDiff,reduceAdd,reduceMul,reduceSub,reduceLeDiff,reduceLT,Nat.reduceBEq,reduceCtorEq] at hi
   match i,hi with
   | 0,_=>simp only [go_sem,reduceIte,reduceEqDiff,reduceAdd,reduceMul,reduceSub,reduceLeDiff,reduceLT,Nat.reduceBEq,reduceCtorEq]<;>rfl
   | 1,_=>simp only [go_sem,reduceIte,reduceEqDiff,reduceAdd,reduceMul,reduceSub,reduceLeDiff,reduceLT,Nat.reduceBEq,reduceCtorEq]<;>rfl
   | 2,_=>simp only [go_sem,reduceIte,reduceEqDiff,reduceAdd,reduceMul,reduceSub,reduceLeDiff,reduceLT,Nat.reduceBEq,reduceCtorEq]<;>rfl
   | 3,_=>simp only [go_sem,reduceIte,reduceEqDiff,reduceAdd,reduceMul,reduceSub,reduceLeDiff,reduceLT,Nat.reduceBEq,reduceCtorEq]<;>rfl
   | 4,_=>simp only [go_sem,reduceIte,reduceEqDiff,reduceAdd,reduceMul,reduceSub,reduceLeDiff,reduceLT,Nat.reduceBEq,reduceCtorEq]<;>rfl
   | 5,_=>simp only [go_sem,reduceIte,reduceEqDiff,reduceAdd,reduceMul,reduceSub,reduceLeDiff,reduceLT,Nat.reduceBEq,reduceCtorEq]<;>rfl
   | 6,_=>simp only [go_sem,reduceIte,reduceEqDiff,reduceAdd,reduceMul,reduceSub,reduceLeDiff,reduceLT,Nat.reduceBEq,reduceCtorEq]<;>rfl
   | i+7,hi=>omega
 · intro k p Hk q hp hq hB hG
   simp only [go_sem,reduceIte,reduceEqDiff,reduceAdd,reduceMul,reduceSub,reduceLeDiff,reduceLT,Nat.reduceBEq,reduceCtorEq] at hq hB
   have h1:=hB 1 (by omega)
   have h2:=hB 2 (by omega)
   have h3:=hB 3 (by omega)
   have h5:=hB 5 (by omega)
   have hw:=wrap_succ (List.getElem?_eq_some_iff.1 hp).1 hfit
   obtain ⟨pl,pq,pb⟩:=p
   simp only at h1 h2 h3 h5
   simp only [go_sem,reduceIte,reduceEqDiff,reduceAdd,reduceMul,reduceSub,reduceLeDiff,reduceLT,Nat.reduceBEq,reduceCtorEq,Pc.row,hq]
   refine ⟨fun j _ hj=>by rw [if_neg (by omega),if_neg (by omega)],fun r => ?_⟩
   have hh:hitB l piece post k=(metreB ⟨pl,pq,pb⟩ post && decide ((k:Int)=piece)):=by unfold hitB;rw [hp]
   cases d1:metreB ⟨pl,pq,pb⟩ post<;>rcases Classical.propComplete ((k:Int)=piece) with d2 | d2<;>simp only [go_sem,reduceIte,reduceEqDiff,reduceAdd,reduceMul,reduceSub,reduceLeDiff,reduceLT,Nat.reduceBEq,reduceCtorEq,hq,h1,h2,h3,h5,e134,hw,d1,d2]
   case true.inl =>
    refine ⟨by omega,fun j h3 hj hj2=>by repeat (rw [if_neg (by omega)]),k,⟨pl,pq,pb⟩,hp,d1,of_eq_true d2, ?_⟩
    simp
   all_goals
    refine ⟨by omega,fun j h3 hj hj2 => ?_,fun i hi => ?_,fun j hj => ?_⟩
    · repeat (rw [if_neg (by omega)])
    · match i,hi with
      | 0,_=>simp [hB 0 (by omega)]
      | 1,_=>simp [hB 1 (by omega)]
      | 2,_=>simp [hB 2 (by omega)]
      | 3,_=>simp [hB 3 (by omega)]
      | 4,_=>simp [hB 4 (by omega)]
      | 5,_=>simp
      | 6,_=>simp [hB 6 (by omega)]
      | i+7,hi=>omega
    · by_cases e:j=k
      · subst e;rw [hh];simp [d1,d2]
      · exact hG j (by omega)
 · intro H4 hB hG hd
   simp only [go_sem,reduceIte,reduceEqDiff,reduceAdd,reduceMul,reduceSub,reduceLeDiff,reduceLT,Nat.reduceBEq,reduceCtorEq] at hB hd
   have h2:=hB 2 (by omega)
   have h3:=hB 3 (by omega)
   simp only at h2 h3
   simp only [go_sem,reduceIte,reduceEqDiff,reduceAdd,reduceMul,reduceSub,reduceLeDiff,reduceLT,Nat.reduceBEq,reduceCtorEq,h2,h3,hd,shutMarks_cons]
   rw [placedV_none hG];simp [z,z2,noPlace]
 · rintro e H3 H4 _ ⟨rfl,k,p,hp,hm,hk,q2,q3⟩ hH hd
   simp only [go_sem,reduceIte,reduceEqDiff,reduceAdd,reduceMul,reduceSub,reduceLeDiff,reduceLT,Nat.reduceBEq,reduceCtorEq] at hH hd
   have h2:=(hH 2 (by omega)).trans q2
   have h3:=(hH 3 (by omega)).trans q3
   have h7:=(hH 7 (by omega)).trans hd
   simp only [go_sem,reduceIte,reduceEqDiff,reduceAdd,reduceMul,reduceSub,reduceLeDiff,reduceLT,Nat.reduceBEq,reduceCtorEq,h2,h3,h7,shutMarks_cons]
   rw [placedV_hit hp hm hk];simp [z,z2]
noncomputable def p102:List AV→Option AV:=primOf (α:=Net × List Nat × Int × Int) (fun x=>[.agg x.1.cells,.agg [.str x.2.1,i64 x.2.2.1,i64 x.2.2.2]]) (fun x=>x.1.Ok) (fun x=>.tup (placedP x.1 x.2.1 x.2.2.1 x.2.2.2))
theorem pok102:∀ args v,p102 args=some v → ∀ lo H,CallOk NC lo 102 args H v H:=by
 intro args v h
 obtain ⟨x,rfl,hp,rfl⟩:=primOf_inv h
 clear h
 revert x
 intro x hx;exact c102 x.1 x.2.1 x.2.2.1 x.2.2.2 hx
noncomputable def PPM:FuncId→Option (List AV→Option AV):=addPrim 102 p102 (PPL)
theorem primsM:PrimsOk NC PPM:=primsOk_add (primsL) (by kernel_rfl) (by kernel_rfl) pok102
theorem enM_48:En PPM 48 p48:=enter_prim (by rfl) (by kernel_rfl)
theorem enM_121:En PPM 121 p121:=enter_prim (by rfl) (by kernel_rfl)
theorem enM_34:En PPM 34 p34:=enter_prim (by rfl) (by kernel_rfl)
theorem enM_111:En PPM 111 p111:=enter_prim (by rfl) (by kernel_rfl)
theorem enM_26:En PPM 26 p26:=enter_prim (by rfl) (by kernel_rfl)
theorem enM_178:En PPM 178 p178:=enter_prim (by rfl) (by kernel_rfl)
theorem enM_109:En PPM 109 p109:=enter_prim (by rfl) (by kernel_rfl)
theorem enM_108:En PPM 108 p108:=enter_prim (by rfl) (by kernel_rfl)
theorem enM_27:En PPM 27 p27:=enter_prim (by rfl) (by kernel_rfl)
theorem enM_97:En PPM 97 p97:=enter_prim (by rfl) (by kernel_rfl)
theorem enM_122:En PPM 122 p122:=enter_prim (by rfl) (by kernel_rfl)
theorem enM_182:En PPM 182 p182:=enter_prim (by rfl) (by kernel_rfl)
theorem enM_35:En PPM 35 p35:=enter_prim (by rfl) (by kernel_rfl)
theorem enM_115:En PPM 115 p115:=enter_prim (by rfl) (by kernel_rfl)
theorem enM_36:En PPM 36 p36:=enter_prim (by rfl) (by kernel_rfl)
theorem enM_120:En PPM 120 p120:=enter_prim (by rfl) (by kernel_rfl)
theorem enM_106:En PPM 106 p106:=enter_prim (by rfl) (by kernel_rfl)
theorem enM_179:En PPM 179 p179:=enter_prim (by rfl) (by kernel_rfl)
theorem enM_126:En PPM 126 p126:=enter_prim (by rfl) (by kernel_rfl)
theorem enM_103:En PPM 103 p103:=enter_prim (by rfl) (by kernel_rfl)
theorem enM_104:En PPM 104 p104:=enter_prim (by rfl) (by kernel_rfl)
theorem enM_105:En PPM 105 p105:=enter_prim (by rfl) (by kernel_rfl)
theorem enM_99:En PPM 99 p99:=enter_prim (by rfl) (by kernel_rfl)
theorem enM_226:En PPM 226 p226:=enter_prim (by rfl) (by kernel_rfl)
theorem enM_134:En PPM 134 p134:=enter_prim (by rfl) (by kernel_rfl)
theorem enM_177:En PPM 177 p177:=enter_prim (by rfl) (by kernel_rfl)
theorem enM_180:En PPM 180 p180:=enter_prim (by rfl) (by kernel_rfl)
theorem enM_98:En PPM 98 p98:=enter_prim (by rfl) (by kernel_rfl)
theorem enM_181:En PPM 181 p181:=enter_prim (by rfl) (by kernel_rfl)
theorem enM_183:En PPM 183 p183:=enter_prim (by rfl) (by kernel_rfl)
theorem enM_110:En PPM 110 p110:=enter_prim (by rfl) (by kernel_rfl)
theorem enM_112:En PPM 112 p112:=enter_prim (by rfl) (by kernel_rfl)
theorem enM_113:En PPM 113 p113:=enter_prim (by rfl) (by kernel_rfl)
theorem enM_29:En PPM 29 p29:=enter_prim (by rfl) (by kernel_rfl)
theorem enM_100:En PPM 100 p100:=enter_prim (by rfl) (by kernel_rfl)
theorem enM_101:En PPM 101 p101:=enter_prim (by rfl) (by kernel_rfl)
theorem enM_102:En PPM 102 p102:=enter_prim (by rfl) (by kernel_rfl)
attribute [go_sem ↓] enM_48 enM_121 enM_34 enM_111 enM_26 enM_178 enM_109 enM_108 enM_27 enM_97 enM_122 enM_182
attribute [go_sem ↓] enM_35 enM_115 enM_36 enM_120 enM_106 enM_179 enM_126 enM_103 enM_104 enM_105 enM_99 enM_226
attribute [go_sem ↓] enM_134 enM_177 enM_180 enM_98 enM_181 enM_183 enM_110 enM_112 enM_113 enM_29 enM_100 enM_101
attribute [go_sem ↓] enM_102
end Go.Sim

/-
The reference: Addressed, Placed.
-/
namespace Go.Sim
open Go Go.Proofs
set_option maxRecDepth 100000
set_option maxHeartbeats 8000000
def offI (p:Pc) (post:Int):Int:=if p.back then wrapq .i64 (Int.sub p.post post) else wrapq .i64 (Int.sub post p.post)
def metreOfI (l:Ln) (k:Nat) (post:Int):Int:=match l.ps[k]? with
 | none=>0
 | some p=>if decide (offI p post < 0) || !decide (offI p post < p.len) then -1 else wrapq .i64 (Int.add (begI l k) (offI p post))
theorem c107 (l : Ln) (k : Nat) (post : Int) (hl : l.ps.length ≤ maxRows) (hk : k < l.ps.length) : ∀ lo H, CallOk NC lo 107 [.agg l.row, i64 k, i64 post] H (i64 (metreOfI l k post)) H := by
 refine contract saneNC primsM (fn := Tryz.f107) (by kernel_rfl) Tryz.func107 rfl rfl (by rfl) (by rfl) ?_
 obtain ⟨p, hp⟩ : ∃ p, l.ps[k]? = some p := ⟨l.ps[k], by simp⟩
 have hr := map_at (f := Pc.row) hp
 have e108 := pe108 (l, k) ⟨Nat.le_of_lt hk, hl⟩
 obtain ⟨pl, pq, pb⟩ := p
 simp only [Pc.row] at hr
 simp only [Ln.row, i64] at e108
 have hbeg : sumW (l.ps.take k) 0 = begI l k := rfl
 rw [hbeg] at e108
 cases pb with
 | true =>
   generalize hE : wrapq .i64 (Int.sub pq post) = E
   have hsp : metreOfI l k post = if decide (E < 0) || !decide (E < pl) then -1 else wrapq .i64 (Int.add (begI l k) E) := by
    unfold metreOfI offI; simp only [hp, hE, if_true]
   rcases Classical.propComplete (E < 0) with c1 | c1 <;> rcases Classical.propComplete (E < pl) with c2 | c2 <;> simp only [go_sem, reduceIte, reduceEqDiff, reduceAdd, reduceMul, reduceSub, reduceLeDiff, reduceLT, Nat.reduceBEq, reduceCtorEq, Ln.row, List.length_map, hk, hr, e108, hE, c1, c2] <;> simp [hsp, c1, c2] <;> rfl
 | false =>
   generalize hE : wrapq .i64 (Int.sub post pq) = E
   have hsp : metreOfI l k post = if decide (E < 0) || !decide (E < pl) then -1 else wrapq .i64 (Int.add (begI l k) E) := by
    unfold metreOfI offI; simp only [hp, hE, Bool.false_eq_true, if_false]
   rcases Classical.propComplete (E < 0) with c1 | c1 <;> rcases Classical.propComplete (E < pl) with c2 | c2 <;> simp only [go_sem, reduceIte, reduceEqDiff, reduceAdd, reduceMul, reduceSub, reduceLeDiff, reduceLT, Nat.reduceBEq, reduceCtorEq, Ln.row, List.length_map, hk, hr, e108, hE, c1, c2] <;> simp [hsp, c1, c2] <;> rfl
noncomputable def p107:List AV→Option AV:=primOf (α:=Ln × Nat × Int) (fun x=>[.agg x.1.row,i64 x.2.1,i64 x.2.2]) (fun x=>x.1.ps.length≤maxRows∧x.2.1 < x.1.ps.length) (fun x=>i64 (metreOfI x.1 x.2.1 x.2.2))
theorem pok107:∀ args v,p107 args=some v → ∀ lo H,CallOk NC lo 107 args H v H:=by
 intro args v h
 obtain ⟨x,rfl,hp,rfl⟩:=primOf_inv h
 clear h
 revert x
 intro x hx;exact c107 x.1 x.2.1 x.2.2 hx.1 hx.2
noncomputable def PPN:FuncId→Option (List AV→Option AV):=addPrim 107 p107 (PPM)
theorem primsN:PrimsOk NC PPN:=primsOk_add (primsM) (by kernel_rfl) (by kernel_rfl) pok107
theorem enN_48:En PPN 48 p48:=enter_prim (by rfl) (by kernel_rfl)
theorem enN_121:En PPN 121 p121:=enter_prim (by rfl) (by kernel_rfl)
theorem enN_34:En PPN 34 p34:=enter_prim (by rfl) (by kernel_rfl)
theorem enN_111:En PPN 111 p111:=enter_prim (by rfl) (by kernel_rfl)
theorem enN_26:En PPN 26 p26:=enter_prim (by rfl) (by kernel_rfl)
theorem enN_178:En PPN 178 p178:=enter_prim (by rfl) (by kernel_rfl)
theorem enN_109:En PPN 109 p109:=enter_prim (by rfl) (by kernel_rfl)
theorem enN_108:En PPN 108 p108:=enter_prim (by rfl) (by kernel_rfl)
theorem enN_27:En PPN 27 p27:=enter_prim (by rfl) (by kernel_rfl)
theorem enN_97:En PPN 97 p97:=enter_prim (by rfl) (by kernel_rfl)
theorem enN_122:En PPN 122 p122:=enter_prim (by rfl) (by kernel_rfl)
theorem enN_182:En PPN 182 p182:=enter_prim (by rfl) (by kernel_rfl)
theorem enN_35:En PPN 35 p35:=enter_prim (by rfl) (by kernel_rfl)
theorem enN_115:En PPN 115 p115:=enter_prim (by rfl) (by kernel_rfl)
theorem enN_36:En PPN 36 p36:=enter_prim (by rfl) (by kernel_rfl)
theorem enN_120:En PPN 120 p120:=enter_prim (by rfl) (by kernel_rfl)
theorem enN_106:En PPN 106 p106:=enter_prim (by rfl) (by kernel_rfl)
theorem enN_179:En PPN 179 p179:=enter_prim (by rfl) (by kernel_rfl)
theorem enN_126:En PPN 126 p126:=enter_prim (by rfl) (by kernel_rfl)
theorem enN_103:En PPN 103 p103:=enter_prim (by rfl) (by kernel_rfl)
theorem enN_104:En PPN 104 p104:=enter_prim (by rfl) (by kernel_rfl)
theorem enN_105:En PPN 105 p105:=enter_prim (by rfl) (by kernel_rfl)
theorem enN_99:En PPN 99 p99:=enter_prim (by rfl) (by kernel_rfl)
theorem enN_226:En PPN 226 p226:=enter_prim (by rfl) (by kernel_rfl)
theorem enN_134:En PPN 134 p134:=enter_prim (by rfl) (by kernel_rfl)
theorem enN_177:En PPN 177 p177:=enter_prim (by rfl) (by kernel_rfl)
theorem enN_180:En PPN 180 p180:=enter_prim (by rfl) (by kernel_rfl)
theorem enN_98:En PPN 98 p98:=enter_prim (by rfl) (by kernel_rfl)
theorem enN_181:En PPN 181 p181:=enter_prim (by rfl) (by kernel_rfl)
theorem enN_183:En PPN 183 p183:=enter_prim (by rfl) (by kernel_rfl)
theorem enN_110:En PPN 110 p110:=enter_prim (by rfl) (by kernel_rfl)
theorem enN_112:En PPN 112 p112:=enter_prim (by rfl) (by kernel_rfl)
theorem enN_113:En PPN 113 p113:=enter_prim (by rfl) (by kernel_rfl)
theorem enN_29:En PPN 29 p29:=enter_prim (by rfl) (by kernel_rfl)
theorem enN_100:En PPN 100 p100:=enter_prim (by rfl) (by kernel_rfl)
theorem enN_101:En PPN 101 p101:=enter_prim (by rfl) (by kernel_rfl)
theorem enN_102:En PPN 102 p102:=enter_prim (by rfl) (by kernel_rfl)
theorem enN_107:En PPN 107 p107:=enter_prim (by rfl) (by kernel_rfl)
attribute [go_sem ↓] enN_48 enN_121 enN_34 enN_111 enN_26 enN_178 enN_109 enN_108 enN_27 enN_97 enN_122 enN_182
attribute [go_sem ↓] enN_35 enN_115 enN_36 enN_120 enN_106 enN_179 enN_126 enN_103 enN_104 enN_105 enN_99 enN_226
attribute [go_sem ↓] enN_134 enN_177 enN_180 enN_98 enN_181 enN_183 enN_110 enN_112 enN_113 enN_29 enN_100 enN_101
attribute [go_sem ↓] enN_102 enN_107
end Go.Sim

/-
The plain law: the program's errors are the reference's.
-/
namespace Go.Sim
open Go
theorem whenI_false (e:Int):whenI false e=0:=rfl
theorem firstI_cons (e:Int) (r:List Int):firstI (e::r)=if e=0 then firstI r else e:=rfl
theorem firstI_nil:firstI []=0:=rfl
theorem beqL_iff:∀ (a b:List Nat),beqL a b=true ↔ a=b
 | [],[]=>by simp [beqL]
 | [],_::_=>by simp [beqL]
 | _::_,[]=>by simp [beqL]
 | a::x,b::y=>by
   unfold beqL
   by_cases h:a=b
   · subst h
     have:Nat.beq a a=true:=Nat.beq_refl a
     rw [this]
     simp [beqL_iff x y]
   · have:Nat.beq a b=false:=by
      cases hb:Nat.beq a b with
      | false=>rfl
      | true=>exact absurd (Nat.eq_of_beq_eq_true hb) h
     rw [this]
     simp [h]
theorem rangeI_zero {n a b:Int} (h:rangeI n a b=0):a≤n∧n≤b:=by
 unfold rangeI whenI at h
 by_cases h1:n < a
 · simp [h1] at h
 · by_cases h2:b < n
   · simp [h2] at h
   · omega
theorem wrap_small {x:Int} (h:-1000000000≤x) (h2:x≤1000000000):wrapq .i64 x=x:=wrapq_i64 (by omega) (by omega)
theorem last_post {p:Pc} (h1:1≤p.len∧p.len≤100000) (h2:0≤p.post∧p.post≤9999999):lastI p=postI p (wrapq .i64 (Int.sub p.len 1)):=by
 unfold lastI postI stepI
 have e0:Int.sub p.len 1=p.len - 1:=rfl
 rw [e0,wrap_small (x:=p.len - 1) (by omega) (by omega)]
 cases p.back with
 | true =>
   simp only [if_true]
   have e1:Int.mul (-1) (p.len - 1) = -(p.len - 1):=by show (-1) * (p.len - 1)=_;omega
   rw [e1,wrap_small (x:=-(p.len - 1)) (by omega) (by omega)]
   have e2:Int.add p.post (-(p.len - 1))=p.post - (p.len - 1):=by show p.post + -(p.len - 1)=_;omega
   rw [e2]
 | false =>
   simp only [Bool.false_eq_true,if_false]
   have e1:Int.mul 1 (p.len - 1)=p.len - 1:=by show 1 * (p.len - 1)=_;omega
   rw [e1,wrap_small (x:=p.len - 1) (by omega) (by omega)]
   rfl
theorem piece_same (p:Pc):pieceP p=pieceR p:=by
 unfold pieceP pieceR
 simp only [firstI_cons,firstI_nil]
 by_cases h1:rangeI p.len 1 100000=0
 · by_cases h2:rangeI p.post 0 9999999=0
   · have a:=rangeI_zero h1
     have b:=rangeI_zero h2
     have hl:=last_post a b
     simp only [h1,h2,if_true,hl]
     split
     · rename_i h;rw [h]
     · rfl
   · simp [h1,h2]
 · simp [h1]
theorem dup_iff {ls:List Ln} {i:Nat} {l:Ln} (h:ls[i]? = some l):decide (findI ls l.name < i)=dupP ((ls.take i).map Ln.name) l.name:=by
 unfold dupP
 cases hd:((ls.take i).map Ln.name).any (beqL l.name) with
 | true =>
   rw [List.any_eq_true] at hd
   obtain ⟨x,hx,hb⟩:=hd
   obtain ⟨y,hy,rfl⟩:=List.mem_map.1 hx
   obtain ⟨j,hj⟩:=List.mem_iff_getElem?.1 hy
   rw [List.getElem?_take] at hj
   split at hj
   · rename_i hji
     have he:=(beqL_iff _ _).1 hb
     unfold findI findL
     cases hf:ls.findIdx? (fun l'=>beqL l'.name l.name) with
     | none=>simp only [decide_eq_true_eq];omega
     | some k =>
       simp only [decide_eq_true_eq]
       rw [List.findIdx?_eq_some_iff_getElem] at hf
       obtain ⟨hk,_,hmin⟩:=hf
       have:k≤j:=by
        rcases Nat.lt_or_ge j k with h' | h'
        · have:=hmin j h'
          have hjl:ls[j]? = some y:=hj
          rw [(List.getElem?_eq_some_iff.1 hjl).2] at this
          have h2:beqL y.name l.name=true:=(beqL_iff _ _).2 he.symm
          simp [h2] at this
        · exact h'
       omega
   · cases hj
 | false =>
   rw [List.any_eq_false] at hd
   have hno:∀ j l',j < i→ls[j]? = some l'→beqL l'.name l.name=false:=by
    intro j l' hj hl'
    have hm:l'.name ∈ (ls.take i).map Ln.name:=List.mem_map.2 ⟨l',List.mem_of_getElem? (i:=j) (by rw [List.getElem?_take_of_lt hj];exact hl'),rfl⟩
    have:=hd _ hm
    cases hb:beqL l'.name l.name with
    | false=>rfl
    | true =>
      have he:=(beqL_iff _ _).1 hb
      rw [he] at this
      exact absurd ((beqL_iff _ _).2 rfl) (by simpa using this)
   have:=findL_drop hno h ((beqL_iff _ _).2 rfl)
   unfold findI
   rw [this]
   simp
theorem line_same (n:Net) (i:Nat):lineP n.lines i=lineR n i:=by
 unfold lineP lineR
 cases h:n.lines[i]? with
 | none=>rfl
 | some l =>
   simp only []
   rw [← dup_iff h]
   have:l.ps.map pieceP=l.ps.map pieceR:=List.map_congr_left fun p _=>piece_same p
   rw [this]
theorem allR_congr {f g:Nat→Int} {n:Nat} (h:∀ i,f i=g i):allR f n=allR g n:=by
 have:f=g:=funext h
 rw [this]
theorem dupB_same {α:Type} (nm:α→List Nat) (l:List α) (i:Nat) (s:List Nat):dupP ((l.take i).map nm) s=dupB nm l i s:=by
 unfold dupP dupB
 rw [List.any_map]
 congr 1
 funext x
 simp only [Function.comp]
 rw [Bool.eq_iff_iff,beqL_iff,beqL_iff]
 exact eq_comm
theorem findI_neg (ls:List Ln) (s:List Nat):decide (findI ls s < 0) = !lnB ls s:=by
 unfold findI lnB
 cases findL ls s<;>simp
theorem has_same (ls:List Ln) (s:List Nat) (m:Int) (r:List Int):firstI (whenI (!lnB ls s) 10::whenI (!hasB (lnOf ls s) m) 14::r)=firstI (hasI ls s m::r):=by
 unfold hasI lnB lnOf
 cases hf:findL ls s with
 | none=>simp [firstI,whenI]
 | some i =>
   obtain ⟨l,hl,_⟩:=findL_at hf
   simp only [hl,Option.isSome_some,Bool.not_true,whenI_false,firstI_cons,if_true,List.getD_eq_getElem?_getD,Option.getD_some]
   have:(!hasB l m)=(decide (m < 0) || !decide (m < sumW l.ps 0)):=by
    unfold hasB
    by_cases h1:m < 0<;>by_cases h2:m < sumW l.ps 0<;>simp [h1,h2]
   rw [this]
theorem switch_same (n:Net) (i:Nat):switchP n i=switchR n i:=by
 unfold switchP switchR
 cases h:n.sws[i]? with
 | none=>rfl
 | some s =>
   simp only []
   rw [dupB_same]
   cases hn:nameB s.name with
   | false=>simp [firstI,whenI]
   | true =>
     simp only [Bool.not_true,whenI_false,if_true]
     rw [firstI_cons,if_pos rfl]
     cases hd:dupB Sw.name n.sws i s.name with
     | true=>simp [firstI,whenI]
     | false =>
       simp only [whenI_false,Bool.false_eq_true,if_false]
       rw [firstI_cons,if_pos rfl,has_same,findI_neg]
theorem metres_same (ls:List Ln) (s:List Nat) (fr till:Int):firstI [whenI (!lnB ls s) 10,whenI (spanB (lnOf ls s) fr till) 14]=metresI ls s fr till:=by
 unfold metresI lnB lnOf
 cases hf:findL ls s with
 | none=>simp [firstI,whenI]
 | some i =>
   obtain ⟨l,hl,_⟩:=findL_at hf
   simp only [hl,Option.isSome_some,Bool.not_true,whenI_false,firstI_cons,firstI_nil,if_true,List.getD_eq_getElem?_getD,Option.getD_some]
   have:spanB l fr till=(decide (fr < 0) || !decide (fr < till) || decide (sumW l.ps 0 < till)):=by
    unfold spanB hasB
    by_cases h1:fr < 0
    · simp [h1]
    · by_cases h2:fr < till
      · by_cases h3:sumW l.ps 0 < till
        · simp [h3]
        · have h4:fr < sumW l.ps 0:=by omega
          simp [h1,h2,h3,h4]
      · simp [h2]
   rw [this]
   split
   · rename_i h;exact h.symm
   · rfl
theorem struct_same (n:Net) (i:Nat):structP n i=structR n i:=by
 unfold structP structR
 cases h:n.sts[i]? with
 | none=>rfl
 | some s =>
   simp only []
   rw [dupB_same]
   cases hn:nameB s.name with
   | false=>simp [firstI,whenI]
   | true =>
     simp only [Bool.not_true,whenI_false,if_true]
     rw [firstI_cons,if_pos rfl]
     cases hd:dupB Stc.name n.sts i s.name with
     | true=>simp [firstI,whenI]
     | false =>
       simp only [whenI_false,Bool.false_eq_true,if_false]
       rw [firstI_cons,if_pos rfl]
       cases hk:nameB s.kind with
       | false=>simp [firstI,whenI]
       | true =>
         simp only [Bool.not_true,whenI_false,decide_true]
         show firstI [whenI (!lnB n.lines s.line) 10,whenI (spanB (lnOf n.lines s.line) s.fr s.till) 14]=firstI [metresI n.lines s.line s.fr s.till]
         rw [metres_same]
         simp only [firstI_cons,firstI_nil]
         split
         · rename_i h;exact h
         · rfl
theorem net_same (n:Net):netP n=netR n:=by
 unfold netP netR linesP switchesP structsP
 rw [allR_congr (line_same n),allR_congr (switch_same n),allR_congr (struct_same n)]
 by_cases h1:(8:Int) < n.lines.length
 · simp [h1]
 · simp only [h1,if_false]
   split
   · simp only [firstI_cons,firstI_nil]
     by_cases h2:(8:Int) < n.sws.length
     · simp [h2]
     · simp only [h2,if_false]
       split
       · by_cases h3:(16:Int) < n.sts.length
         · simp [h3]
         · simp only [h3,if_false]
           split
           · rename_i h;exact h.symm
           · rfl
       · rfl
   · rfl
end Go.Sim

/-
Maps: data; the small functions, of the program and of the reference.
-/
namespace Go.Sim
open Go Go.Proofs
set_option maxRecDepth 100000
set_option maxHeartbeats 4000000
structure Mv where
 line:List Nat
 fr:Int
 len:Int
 other:List Nat
 to:Int
 turned:Bool
def Mv.row (x:Mv):List AV:=[.str x.line,i64 x.fr,i64 x.len,.str x.other,i64 x.to,.bool x.turned]
theorem Mv.row_inj (a b:Mv) (h:a.row=b.row):a=b:=by
 cases a;cases b;simp [Mv.row] at h;obtain ⟨rfl,rfl,rfl,rfl,rfl,rfl⟩:=h;rfl
theorem Net.cells_iff (a b:Net):a.cells=b.cells ↔ a=b:=⟨Net.cells_inj a b,fun h=>by rw [h]⟩
theorem Ln.row_iff (a b:Ln):a.row=b.row ↔ a=b:=⟨Ln.row_inj a b,fun h=>by rw [h]⟩
theorem Pc.row_iff (a b:Pc):a.row=b.row ↔ a=b:=⟨Pc.row_inj a b,fun h=>by rw [h]⟩
theorem Mv.row_iff (a b:Mv):a.row=b.row ↔ a=b:=⟨Mv.row_inj a b,fun h=>by rw [h]⟩
theorem lns_iff (a b:List Ln):a.map Ln.row=b.map Ln.row ↔ a=b:=⟨fun h=>map_inj Ln.row_inj h,fun h=>by rw [h]⟩
theorem pcs_iff (a b:List Pc):a.map Pc.row=b.map Pc.row ↔ a=b:=⟨fun h=>map_inj Pc.row_inj h,fun h=>by rw [h]⟩
theorem mvs_iff (a b:List Mv):a.map Mv.row=b.map Mv.row ↔ a=b:=⟨fun h=>map_inj Mv.row_inj h,fun h=>by rw [h]⟩
end Go.Sim

/-
The law: what it takes for short.
-/
namespace Go.Sim
open Go Go.Proofs
set_option maxRecDepth 100000
set_option maxHeartbeats 8000000
def shortLn (l:Ln):Bool:=shortB l.name && !decide ((9:Int) < l.ps.length)
def shortSw (s:Sw):Bool:=shortB s.name && shortB s.line && shortB s.other
def shortSt (s:Stc):Bool:=shortB s.name && shortB s.kind && shortB s.line
def shortN (n:Net):Bool:=!(decide ((9:Int) < n.lines.length) || decide ((9:Int) < n.sws.length) || decide ((17:Int) < n.sts.length)) && n.lines.all shortLn && n.sws.all shortSw && n.sts.all shortSt
theorem all_false {α:Type} {f:α→Bool} {l:List α} {k:Nat} {x:α} (h:l[k]? = some x) (hf:f x=false):l.all f=false:=by
 rw [List.all_eq_false];exact ⟨x,List.mem_of_getElem? h,by simp [hf]⟩
theorem all_true {α:Type} {f:α→Bool} {l:List α} (h:∀ (j:Nat) x,j < l.length→l[j]? = some x→f x=true):l.all f=true:=by
 rw [List.all_eq_true]
 intro x hx
 obtain ⟨j,hj⟩:=List.mem_iff_getElem?.1 hx
 exact h j x (List.getElem?_eq_some_iff.1 hj).1 hj
theorem c17 (n:Net):∀ lo H,CallOk NC lo 17 [.agg n.cells] H (.bool (shortN n)) H:=by
 refine contract saneNC primsN (fn:=Tryz.f17) (by kernel_rfl) Tryz.func17 rfl rfl (by rfl) (by rfl) ?_
 rcases Classical.propComplete ((9:Int) < n.lines.length) with q1 | q1
 · simp only [go_sem,reduceIte,reduceEqDiff,reduceAdd,reduceMul,reduceSub,reduceLeDiff,reduceLT,Nat.reduceBEq,reduceCtorEq,Net.cells,List.length_map,q1]
   simp [shortN,q1]
 rcases Classical.propComplete ((9:Int) < n.sws.length) with q2 | q2
 · simp only [go_sem,reduceIte,reduceEqDiff,reduceAdd,reduceMul,reduceSub,reduceLeDiff,reduceLT,Nat.reduceBEq,reduceCtorEq,Net.cells,List.length_map,q1,q2]
   simp [shortN,q1,q2]
 rcases Classical.propComplete ((17:Int) < n.sts.length) with q3 | q3
 · simp only [go_sem,reduceIte,reduceEqDiff,reduceAdd,reduceMul,reduceSub,reduceLeDiff,reduceLT,Nat.reduceBEq,reduceCtorEq,Net.cells,List.length_map,q1,q2,q3]
   simp [shortN,q1,q2,q3]
 have z1:n.lines.length≤maxRows:=by have:=of_eq_false q1;unfold maxRows;omega
 have z2:n.sws.length≤maxRows:=by have:=of_eq_false q2;unfold maxRows;omega
 have z3:n.sts.length≤maxRows:=by have:=of_eq_false q3;unfold maxRows;omega
 have hsp:shortN n=(n.lines.all shortLn && n.sws.all shortSw && n.sts.all shortSt):=by simp [shortN,q1,q2,q3]
 rw [hsp]
 simp only [go_sem,reduceIte,reduceEqDiff,reduceAdd,reduceMul,reduceSub,reduceLeDiff,reduceLT,Nat.reduceBEq,reduceCtorEq,Net.cells,List.length_map,q1,q2,q3]
 refine W_for (fun k T H M=>M=[]∧getT T 1=.ptr 0 0∧getT T 3=i64 k∧H.get 0=.cells n.cells 26∧0 < H.n ∧ ∀ (j:Nat) x,j < k→n.lines[j]? = some x→shortLn x=true) n.lines.length ?_ ?_ ?_
 · simp only [go_sem,reduceIte,reduceEqDiff,reduceAdd,reduceMul,reduceSub,reduceLeDiff,reduceLT,Nat.reduceBEq,reduceCtorEq,Net.cells];exact fun j x hj=>by omega
 · rintro k T H M hk ⟨rfl,g1,g3,h0,hn,hall⟩
   obtain ⟨l,hp⟩:∃ p,n.lines[k]? = some p:=⟨n.lines[k],by simp⟩
   have hr:=map_at (f:=Ln.row) hp
   have hw:=wrap_succ hk z1
   simp only [Ln.row] at hr
   cases d1:shortB l.name<;>rcases Classical.propComplete ((9:Int) < l.ps.length) with d2 | d2<;>simp only [go_sem,reduceIte,reduceEqDiff,reduceAdd,reduceMul,reduceSub,reduceLeDiff,reduceLT,Nat.reduceBEq,reduceCtorEq,g1,g3,h0,Net.cells,List.length_map,hk,hr,hw,e97,d1,d2]
   case true.inr =>
    refine ⟨hn,fun j x hj hx => ?_⟩
    by_cases e:j=k
    · subst e;rw [hp] at hx;cases hx;simp [shortLn,d1,d2]
    · exact hall j x (by omega) hx
   all_goals rw [all_false hp (by simp [shortLn,d1,d2])];try rfl
 rintro T H M ⟨rfl,g1,g3,h0,hn,hall⟩
 rw [all_true hall]
 simp only [go_sem,reduceIte,reduceEqDiff,reduceAdd,reduceMul,reduceSub,reduceLeDiff,reduceLT,Nat.reduceBEq,reduceCtorEq,g1,g3,h0,Net.cells,List.length_map,Nat.lt_irrefl]
 refine W_for (fun k T H M=>M=[]∧getT T 1=.ptr 0 0∧getT T 4=i64 k∧H.get 0=.cells n.cells 26∧0 < H.n ∧ ∀ (j:Nat) x,j < k→n.sws[j]? = some x→shortSw x=true) n.sws.length ?_ ?_ ?_
 · simp only [go_sem,reduceIte,reduceEqDiff,reduceAdd,reduceMul,reduceSub,reduceLeDiff,reduceLT,Nat.reduceBEq,reduceCtorEq,g1,h0,Net.cells];exact ⟨hn,fun j x hj=>by omega⟩
 · rintro k T H M hk ⟨rfl,g1,g3,h0,hn,hall⟩
   obtain ⟨l,hp⟩:∃ p,n.sws[k]? = some p:=⟨n.sws[k],by simp⟩
   have hr:=map_at (f:=Sw.row) hp
   have hw:=wrap_succ hk z2
   have b0:(0=H.n)=False:=by simp;omega
   simp only [Sw.row] at hr
   cases d1:shortB l.name<;>cases d2:shortB l.line<;>cases d3:shortB l.other<;>simp only [go_sem,reduceIte,reduceEqDiff,reduceAdd,reduceMul,reduceSub,reduceLeDiff,reduceLT,Nat.reduceBEq,reduceCtorEq,g1,g3,h0,b0,Net.cells,List.length_map,hk,hr,hw,e97,d1,d2,d3]
   case true.true.true =>
    refine ⟨by omega,fun j x hj hx => ?_⟩
    by_cases e:j=k
    · subst e;rw [hp] at hx;cases hx;simp [shortSw,d1,d2,d3]
    · exact hall j x (by omega) hx
   all_goals rw [all_false hp (by simp [shortSw,d1,d2,d3])];try rfl
 rintro T H M ⟨rfl,g1,g3,h0,hn,hall⟩
 rw [all_true hall]
 simp only [go_sem,reduceIte,reduceEqDiff,reduceAdd,reduceMul,reduceSub,reduceLeDiff,reduceLT,Nat.reduceBEq,reduceCtorEq,g1,g3,h0,Net.cells,List.length_map,Nat.lt_irrefl]
 refine W_for (fun k T H M=>M=[]∧getT T 1=.ptr 0 0∧getT T 6=i64 k∧H.get 0=.cells n.cells 26∧0 < H.n ∧ ∀ (j:Nat) x,j < k→n.sts[j]? = some x→shortSt x=true) n.sts.length ?_ ?_ ?_
 · simp only [go_sem,reduceIte,reduceEqDiff,reduceAdd,reduceMul,reduceSub,reduceLeDiff,reduceLT,Nat.reduceBEq,reduceCtorEq,g1,h0,Net.cells];exact ⟨hn,fun j x hj=>by omega⟩
 · rintro k T H M hk ⟨rfl,g1,g3,h0,hn,hall⟩
   obtain ⟨l,hp⟩:∃ p,n.sts[k]? = some p:=⟨n.sts[k],by simp⟩
   have hr:=map_at (f:=Stc.row) hp
   have hw:=wrap_succ hk z3
   have b0:(0=H.n)=False:=by simp;omega
   simp only [Stc.row] at hr
   cases d1:shortB l.name<;>cases d2:shortB l.kind<;>cases d3:shortB l.line<;>simp only [go_sem,reduceIte,reduceEqDiff,reduceAdd,reduceMul,reduceSub,reduceLeDiff,reduceLT,Nat.reduceBEq,reduceCtorEq,g1,g3,h0,b0,Net.cells,List.length_map,hk,hr,hw,e97,d1,d2,d3]
   case true.true.true =>
    refine ⟨by omega,fun j x hj hx => ?_⟩
    by_cases e:j=k
    · subst e;rw [hp] at hx;cases hx;simp [shortSt,d1,d2,d3]
    · exact hall j x (by omega) hx
   all_goals rw [all_false hp (by simp [shortSt,d1,d2,d3])];try rfl
 rintro T H M ⟨rfl,g1,g3,h0,hn,hall⟩
 rw [all_true hall]
 simp only [go_sem,reduceIte,reduceEqDiff,reduceAdd,reduceMul,reduceSub,reduceLeDiff,reduceLT,Nat.reduceBEq,reduceCtorEq,g1,g3,h0,Net.cells,List.length_map,Nat.lt_irrefl]
end Go.Sim

/-
The law: the network told to the program.
-/
namespace Go.Sim
open Go Go.Proofs
set_option maxRecDepth 100000
set_option maxHeartbeats 16000000
def App (H:Heap) (t:Tok) (rows:List (List AV)) (sz:Nat) (e:TypeId):Prop:=(t=.nil∧rows=[]) ∨ ∃ j,t=.tok j∧rows ≠ []∧j < H.n∧H.get j=.row [] sz e
theorem App.push {H:Heap} {t:Tok} {rows:List (List AV)} {sz:Nat} {e:TypeId} (h:App H t rows sz e) (b:ABlk):App (H.push b) t rows sz e:=by
 rcases h with h | ⟨j,h1,h2,h3,h4⟩
 · exact .inl h
 · exact .inr ⟨j,h1,h2,by simp;omega,by rw [Heap.get_push,if_neg (by omega)];exact h4⟩
theorem App.set {H:Heap} {t:Tok} {rows:List (List AV)} {sz:Nat} {e:TypeId} (h:App H t rows sz e) {i:Nat} (b:ABlk) (hi:H.get i ≠ .row [] sz e):App (H.set i b) t rows sz e:=by
 rcases h with h | ⟨j,h1,h2,h3,h4⟩
 · exact .inl h
 · exact .inr ⟨j,h1,h2,h3,by rw [Heap.get_set,if_neg (fun he=>hi (by rw [← he];exact h4))];exact h4⟩
theorem App.fresh {H:Heap} {t:Tok} {rows:List (List AV)} {sz:Nat} {e:TypeId} (h:App H t rows sz e) (b c:ABlk) {i:Nat} (hi:i=H.n):App ((H.push b).set i c) t rows sz e:=by
 subst hi
 rcases h with h | ⟨j,h1,h2,h3,h4⟩
 · exact .inl h
 · exact .inr ⟨j,h1,h2,by simp;omega,by rw [Heap.get_set,if_neg (by omega),Heap.get_push,if_neg (by omega)];exact h4⟩
theorem app_any {H:Heap} {t:Tok} {rows:List (List AV)} {sz:Nat} {e:TypeId} (h:App H t rows sz e) {r:List AV} (h1:rows.length+1≤maxRows) (h2:pureRow r=true) (h3:0 < sz) (h4:rows.all (fun r=>r.length=sz)=true) :
 ∃ t' H',appP 0 H sz e (.ps t rows) [r]=some (.ps t' (rows++[r.map AV.strip0]),H')∧App H' t' (rows++[r.map AV.strip0]) sz e∧H.n≤H'.n∧(∀ i c u,i < H.n→H.get i=.cells c u→H'.get i=.cells c u) ∧
   ∀ t2 rows2 sz2 e2,¬ (sz2=sz∧e2=e)→App H t2 rows2 sz2 e2→App H' t2 rows2 sz2 e2:=by
 rcases h with ⟨rfl,rfl⟩ | ⟨j,rfl,h6,h7,h8⟩
 · refine ⟨.tok H.n,H.push (.row [] sz e),app_first (by simp) (by show 1≤1073741824;decide) (by simp [h2]) h3,.inr ⟨H.n,rfl,by simp,by simp,by rw [Heap.get_push,if_pos rfl]⟩,by simp,fun i c u hi hc => ?_,fun t2 rows2 sz2 e2 _ ha=>ha.push _⟩
   rw [Heap.get_push,if_neg (by omega)];exact hc
 · refine ⟨.tok H.n,(H.set j .dead).push (.row [] sz e),app_next (by simp) (by simpa using h1) (by simp [h2]) h3 h4 h8 (Nat.zero_le _) h6,.inr ⟨H.n,rfl,by simp,by simp,by rw [Heap.get_push,if_pos (by simp)]⟩,by simp,fun i c u hi hc => ?_,fun t2 rows2 sz2 e2 hne ha => ?_⟩
   · rw [Heap.get_push,if_neg (by simp;omega),Heap.get_set,if_neg (fun he=>by rw [he,h8] at hc;cases hc)];exact hc
   · exact (ha.set _ (by rw [h8];intro he;cases he;exact hne ⟨rfl,rfl⟩)).push _
theorem rows_all {α:Type} {f:α→List AV} {sz:Nat} (hf:∀ x,(f x).length=sz) (l:List α):(l.map f).all (fun r=>decide (r.length=sz))=true:=by
 rw [List.all_eq_true]
 intro r hr
 obtain ⟨x,_,rfl⟩:=List.mem_map.1 hr
 simp [hf x]
theorem strip_ps (t:Tok) (rows:List (List AV)):AV.strip0 (.ps t rows)=.ps .unk rows:=rfl
attribute [go_sem] strip_ps
theorem take_map {α β:Type} {f:α→β} {l:List α} {k:Nat} {x:α} (h:l[k]? = some x):(l.take (k+1)).map f=(l.take k).map f++[f x]:=by
 rw [List.take_add_one,h];simp
theorem c19 (n:Net) (hn:n.fits) (hs:n.sws.length≤maxRows) (ht:n.sts.length≤maxRows):∀ lo H,CallOk NC lo 19 [.agg n.cells] H (.agg n.cells) H:=by
 refine contract saneNC primsN (fn:=Tryz.f19) (by kernel_rfl) Tryz.func19 rfl rfl (by rfl) (by rfl) ?_
 simp only [go_sem,reduceIte,reduceEqDiff,reduceAdd,reduceMul,reduceSub,reduceLeDiff,reduceLT,Nat.reduceBEq,reduceCtorEq,Net.cells]
 refine W_for (fun k T H M=>M=[]∧getT T 1=.ptr 0 0∧getT T 2=.ptr 1 0∧getT T 3=.ptr 2 0∧getT T 14=.ps .unk (n.lines.map Ln.row)∧getT T 15=i64 (n.lines.length:Nat)∧getT T 16=i64 k∧H.get 0=.cells n.cells 26∧H.get 1=.cells [.ps .nil [],.ps .nil [],.ps .nil []] 40∧2 < H.n ∧ ∃ t,H.get 2=.cells [.ps t ((n.lines.take k).map Ln.row),.ps .nil [],.ps .nil []] 40∧App H t ((n.lines.take k).map Ln.row) 2 196) n.lines.length ?_ ?_ ?_
 · simp only [go_sem,reduceIte,reduceEqDiff,reduceAdd,reduceMul,reduceSub,reduceLeDiff,reduceLT,Nat.reduceBEq,reduceCtorEq,Net.cells,List.length_map];exact ⟨.nil,by simp,.inl ⟨rfl,rfl⟩⟩
 · rintro k T H M hk ⟨rfl,g1,g2,g3,g14,g15,g16,h0,h1,hh,t,h2,hA⟩
   obtain ⟨l,hp⟩:∃ p,n.lines[k]? = some p:=⟨n.lines[k],by simp⟩
   have hfit:=hn.2 l (List.mem_of_getElem? hp)
   have hr:=map_at (f:=Ln.row) hp
   have hw:=wrap_succ hk hn.1
   have htk:=take_map (f:=Ln.row) hp
   simp only [Ln.row] at hr
   have b0:(0=H.n)=False:=by simp;omega
   have b1:(1=H.n)=False:=by simp;omega
   have b2:(2=H.n)=False:=by simp;omega
   have b3:(H.n=H.n+1)=False:=by simp
   have b4:(0=H.n+1)=False:=by simp
   have b5:(1=H.n+1)=False:=by simp;omega
   have b6:(2=H.n+1)=False:=by simp;omega
   simp only [go_sem,reduceIte,reduceEqDiff,reduceAdd,reduceMul,reduceSub,reduceLeDiff,reduceLT,Nat.reduceBEq,reduceCtorEq,g1,g2,g3,g14,g15,g16,h0,h1,h2,b0,b1,b2,b3,b4,b5,b6,List.length_map,hk,hr]
   refine W_for (fun k2 T' H' M=>M=[]∧getT T' 1=.ptr 0 0∧getT T' 2=.ptr 1 0∧getT T' 3=.ptr 2 0∧getT T' 14=.ps .unk (n.lines.map Ln.row)∧getT T' 15=i64 (n.lines.length:Nat)∧getT T' 16=i64 k∧getT T' 6=.ptr (H.n+1) 0∧getT T' 24=.ps .unk (l.ps.map Pc.row)∧getT T' 25=i64 (l.ps.length:Nat)∧getT T' 26=i64 k2∧H'.get 0=.cells n.cells 26∧H'.get 1=.cells [.ps .nil [],.ps .nil [],.ps .nil []] 40∧H.n+1 < H'.n∧(∃ t,H'.get 2=.cells [.ps t ((n.lines.take k).map Ln.row),.ps .nil [],.ps .nil []] 40∧App H' t ((n.lines.take k).map Ln.row) 2 196) ∧
    ∃ u,H'.get (H.n+1)=.cells [.str l.name,.ps u ((l.ps.take k2).map Pc.row)] 196∧App H' u ((l.ps.take k2).map Pc.row) 3 200) l.ps.length ?_ ?_ ?_
   · simp only [go_sem,reduceIte,reduceEqDiff,reduceAdd,reduceMul,reduceSub,reduceLeDiff,reduceLT,Nat.reduceBEq,reduceCtorEq,g1,g2,g3,g14,g15,g16,h0,h1,h2,b0,b1,b2,b3,b4,b5,b6,Net.cells,List.length_map]
     refine ⟨⟨t,rfl, ?_⟩,.nil,by simp,.inl ⟨rfl,rfl⟩⟩
     exact (hA.fresh _ _ rfl).fresh _ _ rfl
   · rintro k2 T' H' M hk2 ⟨rfl,i1,i2,i3,i14,i15,i16,i6,i24,i25,i26,j0,j1,jh,⟨t',j2,jA⟩,u,ju,jB⟩
     obtain ⟨p,hpp⟩:∃ p,l.ps[k2]? = some p:=⟨l.ps[k2],by simp⟩
     have hpr:=map_at (f:=Pc.row) hpp
     have hw2:=wrap_succ hk2 hfit
     have htk2:=take_map (f:=Pc.row) hpp
     obtain ⟨pl,pq,pb⟩:=p
     simp only [Pc.row] at hpr
     have d0:(0=H'.n)=False:=by simp;omega
     have d1:(1=H'.n)=False:=by simp;omega
     have d2:(2=H'.n)=False:=by simp;omega
     have d3:(H.n+1=H'.n)=False:=by simp;omega
     obtain ⟨u',H1,ha,hB',hn1,hc1,ho1⟩:=app_any (H:=(H'.push (.cells [.int .i64 0,.int .i64 0,.bool false] 97)).set H'.n (.cells [.int .i64 pl,.int .i64 pq,.bool pb] 97)) (jB.fresh _ _ rfl) (r:=[.int .i64 pl,.int .i64 pq,.bool pb]) (by simp;omega) rfl (by decide) (rows_all Pc.row_len _)
     have x1:=hc1 (H.n+1) [.str l.name,.ps u ((l.ps.take k2).map Pc.row)] 196 (by simp;omega) (by rw [Heap.get_set,if_neg (by omega),Heap.get_push,if_neg (by omega)];exact ju)
     have x0:=hc1 0 _ _ (by simp) (by rw [Heap.get_set,if_neg (by omega),Heap.get_push,if_neg (by omega)];exact j0)
     have x01:=hc1 1 _ _ (by simp;omega) (by rw [Heap.get_set,if_neg (by omega),Heap.get_push,if_neg (by omega)];exact j1)
     have x2:=hc1 2 _ _ (by simp;omega) (by rw [Heap.get_set,if_neg (by omega),Heap.get_push,if_neg (by omega)];exact j2)
     have xA:=ho1 _ _ 2 196 (by decide) (jA.fresh (.cells [.int .i64 0,.int .i64 0,.bool false] 97) (.cells [.int .i64 pl,.int .i64 pq,.bool pb] 97) rfl)
     simp only [Heap.n_set,Heap.n_push] at hn1
     simp only [go_sem,reduceIte,reduceEqDiff,reduceAdd,reduceMul,reduceSub,reduceLeDiff,reduceLT,Nat.reduceBEq,reduceCtorEq,i1,i2,i3,i14,i15,i16,i6,i24,i25,i26,d0,d1,d2,d3,b4,b5,b6,ju,List.length_map,hk2,hpr,hw2,appO,isIntT_slice,rowsIn,ha,x1,x0,x01,x2,strip_ps]
     rw [htk2]
     exact ⟨by omega,⟨t',rfl,xA.set _ (by rw [x1];simp)⟩,u',rfl,hB'.set _ (by rw [x1];simp)⟩
   · rintro T' H' M ⟨rfl,i1,i2,i3,i14,i15,i16,i6,i24,i25,i26,j0,j1,jh,⟨t',j2,jA⟩,u,ju,jB⟩
     rw [List.take_length] at ju jB
     obtain ⟨t2,H1,ha,hB',hn1,hc1,ho1⟩:=app_any jA (r:=[.str l.name,.ps .unk (l.ps.map Pc.row)]) (by simp;have:=hn.1;omega) rfl (by decide) (rows_all Ln.row_len _)
     have x0:=hc1 0 _ _ (by omega) j0
     have x01:=hc1 1 _ _ (by omega) j1
     have x2:=hc1 2 _ _ (by omega) j2
     simp only [go_sem,reduceIte,reduceEqDiff,reduceAdd,reduceMul,reduceSub,reduceLeDiff,reduceLT,Nat.reduceBEq,reduceCtorEq,i1,i2,i3,i14,i15,i16,i6,i24,i25,i26,ju,j2,List.length_map,Nat.lt_irrefl,appO,isIntT_slice,rowsIn,ha,x0,x01,x2,strip_ps,hw]
     rw [htk]
     exact ⟨by omega,t2,rfl,hB'.set _ (by rw [x2];simp)⟩
 rintro T H M ⟨rfl,g1,g2,g3,g14,g15,g16,h0,h1,hh,t,h2,hA⟩
 rw [List.take_length] at h2 hA
 simp only [go_sem,reduceIte,reduceEqDiff,reduceAdd,reduceMul,reduceSub,reduceLeDiff,reduceLT,Nat.reduceBEq,reduceCtorEq,g1,g2,g3,g14,g15,g16,h0,h1,h2,Net.cells,List.length_map,Nat.lt_irrefl]
 refine W_for (fun k T H M=>M=[]∧getT T 1=.ptr 0 0∧getT T 2=.ptr 1 0∧getT T 3=.ptr 2 0∧getT T 45=.ps .unk (n.sws.map Sw.row)∧getT T 46=i64 (n.sws.length:Nat)∧getT T 47=i64 k∧H.get 0=.cells n.cells 26∧H.get 1=.cells [.ps .nil [],.ps .nil [],.ps .nil []] 40∧2 < H.n ∧ ∃ u,H.get 2=.cells [.ps t (n.lines.map Ln.row),.ps u ((n.sws.take k).map Sw.row),.ps .nil []] 40∧App H u ((n.sws.take k).map Sw.row) 5 201) n.sws.length ?_ ?_ ?_
 · simp only [go_sem,reduceIte,reduceEqDiff,reduceAdd,reduceMul,reduceSub,reduceLeDiff,reduceLT,Nat.reduceBEq,reduceCtorEq,g1,g2,g3,h0,h1,h2,Net.cells,List.length_map];exact ⟨hh,.nil,by simp,.inl ⟨rfl,rfl⟩⟩
 · rintro k T H M hk ⟨rfl,g1,g2,g3,g14,g15,g16,h0,h1,hh,u,h2,hA⟩
   obtain ⟨l,hp⟩:∃ p,n.sws[k]? = some p:=⟨n.sws[k],by simp⟩
   have hr:=map_at (f:=Sw.row) hp
   have hw:=wrap_succ hk hs
   have htk:=take_map (f:=Sw.row) hp
   simp only [Sw.row] at hr
   have b0:(0=H.n)=False:=by simp;omega
   have b1:(1=H.n)=False:=by simp;omega
   have b2:(2=H.n)=False:=by simp;omega
   obtain ⟨u',H1,ha,hB',hn1,hc1,ho1⟩:=app_any (H:=(H.push (.cells [.str [],.str [],.int .i64 0,.str [],.bool false] 191)).set H.n (.cells [.str l.name,.str l.line,.int .i64 l.metre,.str l.other,.bool l.last] 191)) (hA.fresh _ _ rfl) (r:=[.str l.name,.str l.line,.int .i64 l.metre,.str l.other,.bool l.last]) (by simp;omega) rfl (by decide) (rows_all Sw.row_len _)
   have x0:=hc1 0 _ _ (by simp) (by rw [Heap.get_set,if_neg (by omega),Heap.get_push,if_neg (by omega)];exact h0)
   have x01:=hc1 1 _ _ (by simp;omega) (by rw [Heap.get_set,if_neg (by omega),Heap.get_push,if_neg (by omega)];exact h1)
   have x2:=hc1 2 _ _ (by simp;omega) (by rw [Heap.get_set,if_neg (by omega),Heap.get_push,if_neg (by omega)];exact h2)
   simp only [Heap.n_set,Heap.n_push] at hn1
   simp only [go_sem,reduceIte,reduceEqDiff,reduceAdd,reduceMul,reduceSub,reduceLeDiff,reduceLT,Nat.reduceBEq,reduceCtorEq,g1,g2,g3,g14,g15,g16,h0,h1,h2,b0,b1,b2,List.length_map,hk,hr,hw,appO,isIntT_slice,rowsIn,ha,x0,x01,x2]
   rw [htk]
   exact ⟨by omega,u',rfl,hB'.set _ (by rw [x2];simp)⟩
 rintro T H M ⟨rfl,g1,g2,g3,g14,g15,g16,h0,h1,hh,u,h2,hA⟩
 rw [List.take_length] at h2 hA
 simp only [go_sem,reduceIte,reduceEqDiff,reduceAdd,reduceMul,reduceSub,reduceLeDiff,reduceLT,Nat.reduceBEq,reduceCtorEq,g1,g2,g3,g14,g15,g16,h0,h1,h2,Net.cells,List.length_map,Nat.lt_irrefl]
 refine W_for (fun k T H M=>M=[]∧getT T 1=.ptr 0 0∧getT T 2=.ptr 1 0∧getT T 3=.ptr 2 0∧getT T 59=.ps .unk (n.sts.map Stc.row)∧getT T 60=i64 (n.sts.length:Nat)∧getT T 61=i64 k∧H.get 0=.cells n.cells 26∧H.get 1=.cells [.ps .nil [],.ps .nil [],.ps .nil []] 40∧2 < H.n ∧ ∃ v,H.get 2=.cells [.ps t (n.lines.map Ln.row),.ps u (n.sws.map Sw.row),.ps v ((n.sts.take k).map Stc.row)] 40∧App H v ((n.sts.take k).map Stc.row) 5 202) n.sts.length ?_ ?_ ?_
 · simp only [go_sem,reduceIte,reduceEqDiff,reduceAdd,reduceMul,reduceSub,reduceLeDiff,reduceLT,Nat.reduceBEq,reduceCtorEq,g1,g2,g3,h0,h1,h2,Net.cells,List.length_map];exact ⟨hh,.nil,by simp,.inl ⟨rfl,rfl⟩⟩
 · rintro k T H M hk ⟨rfl,g1,g2,g3,g14,g15,g16,h0,h1,hh,v,h2,hA⟩
   obtain ⟨l,hp⟩:∃ p,n.sts[k]? = some p:=⟨n.sts[k],by simp⟩
   have hr:=map_at (f:=Stc.row) hp
   have hw:=wrap_succ hk ht
   have htk:=take_map (f:=Stc.row) hp
   simp only [Stc.row] at hr
   have b0:(0=H.n)=False:=by simp;omega
   have b1:(1=H.n)=False:=by simp;omega
   have b2:(2=H.n)=False:=by simp;omega
   obtain ⟨u',H1,ha,hB',hn1,hc1,ho1⟩:=app_any (H:=(H.push (.cells [.str [],.str [],.str [],.int .i64 0,.int .i64 0] 193)).set H.n (.cells [.str l.name,.str l.kind,.str l.line,.int .i64 l.fr,.int .i64 l.till] 193)) (hA.fresh _ _ rfl) (r:=[.str l.name,.str l.kind,.str l.line,.int .i64 l.fr,.int .i64 l.till]) (by simp;omega) rfl (by decide) (rows_all Stc.row_len _)
   have x0:=hc1 0 _ _ (by simp) (by rw [Heap.get_set,if_neg (by omega),Heap.get_push,if_neg (by omega)];exact h0)
   have x01:=hc1 1 _ _ (by simp;omega) (by rw [Heap.get_set,if_neg (by omega),Heap.get_push,if_neg (by omega)];exact h1)
   have x2:=hc1 2 _ _ (by simp;omega) (by rw [Heap.get_set,if_neg (by omega),Heap.get_push,if_neg (by omega)];exact h2)
   simp only [Heap.n_set,Heap.n_push] at hn1
   simp only [go_sem,reduceIte,reduceEqDiff,reduceAdd,reduceMul,reduceSub,reduceLeDiff,reduceLT,Nat.reduceBEq,reduceCtorEq,g1,g2,g3,g14,g15,g16,h0,h1,h2,b0,b1,b2,List.length_map,hk,hr,hw,appO,isIntT_slice,rowsIn,ha,x0,x01,x2]
   rw [htk]
   exact ⟨by omega,u',rfl,hB'.set _ (by rw [x2];simp)⟩
 rintro T H M ⟨rfl,g1,g2,g3,g14,g15,g16,h0,h1,hh,v,h2,hA⟩
 rw [List.take_length] at h2 hA
 simp only [go_sem,reduceIte,reduceEqDiff,reduceAdd,reduceMul,reduceSub,reduceLeDiff,reduceLT,Nat.reduceBEq,reduceCtorEq,g1,g2,g3,g14,g15,g16,h0,h1,h2,Net.cells,List.length_map,Nat.lt_irrefl]
end Go.Sim
