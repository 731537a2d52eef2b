/-
Lemmas of one proof, the texts Lay to Forms joined.
-/
import Derived.Test.YtlooccmcmeofhaaGreatDoorT13
import Derived.Shelf.Strings.Builder1
import Derived.Shelf.Strings.OnBuilder
import Derived.Shelf.Strconv.Itoa0
import Derived.Shelf.Strconv.Itoa1
import Derived.Shelf.LaysM
import Derived.Shelf.Strconv.Itoa2
import Derived.Shelf.Strconv.Itoa3
import Derived.Test.YtlooccmcmeofhaaGreatDoorProg
set_option linter.unusedSimpArgs false
set_option linter.unusedVariables false
open Nat (reduceEqDiff reduceAdd reduceMul reduceSub reduceLeDiff reduceLT)
set_option maxRecDepth 100000
set_option maxHeartbeats 32000000
noncomputable section
open Go Go.Proofs
open Bool (and_eq_true false_eq_true not_eq_true' or_eq_true)
open Int (ofNat_lt)
open List (all_cons all_eq_false all_eq_true all_map all_nil any_cons any_eq_false any_nil append_nil cons_append contains_cons contains_nil dropLast_concat_getLast dropLast_subset drop_append_of_le_length drop_drop drop_eq_getElem_cons drop_left drop_length drop_length_add_append drop_nil drop_succ_cons drop_zero filterMap_append filterMap_cons filter_cons filter_eq_self filter_sublist find?_append find?_cons find?_eq_none find?_map find?_some flatten_append flatten_cons foldl_append foldl_cons getElem?_cons_succ getElem?_cons_zero getElem?_map getLast_mem length_append length_cons length_eq_one_iff length_eq_zero_iff length_filter_le length_map length_nil length_take map_append map_cons map_map map_nil mem_append mem_cons mem_filter mem_iff_getElem? mem_map mem_map_of_mem mem_of_find?_eq_some mem_of_getElem? mem_of_head? mem_of_mem_take mem_singleton nil_append nodup_append nodup_cons pairwise_append pairwise_map pairwise_singleton set_cons_succ set_cons_zero set_eq_take_append_cons_drop take_add_one take_append take_append_drop take_append_of_le_length take_left' take_length take_length_add_append take_nil take_of_length_le take_succ_cons take_zero)
open Nat (add_assoc add_comm add_left_cancel_iff add_sub_cancel add_zero beq_refl eq_of_beq_eq_true lt_add_one lt_of_lt_of_le lt_or_ge mul_le_mul_right pow_add pow_le_pow_right succ_mul testBit_lt_two_pow zero_add zero_le)
open Option (isSome_some)
variable {C:Go.Sim.Cfg} {H H':Go.Sim.Heap} {P:Go.Sim.PF} {T:Go.Sim.TT Go.Sim.AV} {b c f fid i k lo sz x:Nat} {e t:Go.TypeId} {l:List Int} {r:List Go.Sim.AV} {rec:Go.Sim.Rec} {rows:List (List Go.Sim.AV)} {s:List Nat} {tk:Int} {v:Go.Sim.AV} {α β:Type}

namespace Go.Proofs
open Go.Shelf
def Tryz.lays156_ren:Go.Shelf.Ren:=⟨fun | 156=>109 | 165=>233 | 166=>234 | 169=>235 | 240=>290 | 241=>291 | 276=>322 | 277=>323 | n=>n,fun | 31=>50 | 9=>9 | 3=>3 | 4=>4 | 0=>0 | 20=>20 | 72=>302 | 76=>306 | 70=>300 | 37=>129 | 75=>305 | 127=>347 | 164=>373 | 5=>5 | 80=>96 | n=>n,fun | n=>n⟩
theorem Tryz.lays156:Go.Proofs.Lays.n156 Tryz.prog Tryz.lays156_ren:={
 mixed:=by kernel_rfl
 f156:=Tryz.func109.trans (congrArg some (by kernel_rfl))
 f165:=Tryz.func233.trans (congrArg some (by kernel_rfl))
 f166:=Tryz.func234.trans (congrArg some (by kernel_rfl))
 f169:=Tryz.func235.trans (congrArg some (by kernel_rfl))
 f240:=Tryz.func290.trans (congrArg some (by kernel_rfl))
 f241:=Tryz.func291.trans (congrArg some (by kernel_rfl))
 f276:=Tryz.func322.trans (congrArg some (by kernel_rfl))
 f277:=Tryz.func323.trans (congrArg some (by kernel_rfl))
 t0:=Tryz.underlying0
 a0:=Tryz.isAgg0
 z0:=Tryz.sizeOf0
 v0:=Tryz.zeroValue0
 t3:=Tryz.underlying3
 a3:=Tryz.isAgg3
 z3:=Tryz.sizeOf3
 v3:=Tryz.zeroValue3
 t4:=Tryz.underlying4
 a4:=Tryz.isAgg4
 z4:=Tryz.sizeOf4
 v4:=Tryz.zeroValue4
 t9:=Tryz.underlying9
 a9:=Tryz.isAgg9
 z9:=Tryz.sizeOf9
 v9:=Tryz.zeroValue9
 t20:=Tryz.underlying20
 a20:=Tryz.isAgg20
 z20:=Tryz.sizeOf20
 v20:=Tryz.zeroValue20
 t31:=Tryz.underlying50
 a31:=Tryz.isAgg50
 z31:=Tryz.sizeOf50
 v31:=Tryz.zeroValue50
 t37:=Tryz.underlying129
 a37:=Tryz.isAgg129
 z37:=Tryz.sizeOf129
 v37:=Tryz.zeroValue129
 t70:=Tryz.underlying300
 a70:=Tryz.isAgg300
 z70:=Tryz.sizeOf300
 v70:=Tryz.zeroValue300
 t72:=Tryz.underlying302
 a72:=Tryz.isAgg302
 z72:=Tryz.sizeOf302
 v72:=Tryz.zeroValue302
 t75:=Tryz.underlying305
 a75:=Tryz.isAgg305
 z75:=Tryz.sizeOf305
 v75:=Tryz.zeroValue305
 t76:=Tryz.underlying306
 a76:=Tryz.isAgg306
 z76:=Tryz.sizeOf306
 v76:=Tryz.zeroValue306
 t127:=Tryz.underlying347
 a127:=Tryz.isAgg347
 z127:=Tryz.sizeOf347
 v127:=Tryz.zeroValue347
 t164:=Tryz.underlying373
 a164:=Tryz.isAgg373
 z164:=Tryz.sizeOf373
 v164:=Tryz.zeroValue373 }
theorem Tryz.Builder_Extra_156:Builder.Extra Tryz.prog Tryz.lays156_ren:={
 sizeBuilder:=by kernel_rfl
 liesBuilder:=by kernel_rfl
 t5:=Tryz.underlying5
 a5:=Tryz.isAgg5
 z5:=Tryz.sizeOf5
 v5:=Tryz.zeroValue5
 infoByte:=by kernel_rfl
 cellsByte:=by kernel_rfl
 sizeByte:=by kernel_rfl
 neB5:=by decide }
def Tryz.laysM171_ren:Go.Shelf.Ren:=⟨fun | 171=>107 | 243=>232 | 246=>289 | 283=>318 | 284=>319 | 285=>320 | 286=>321 | 129=>302 | 317=>334 | 318=>335 | 319=>336 | 320=>337 | 337=>341 | 338=>342 | n=>n,fun | 3=>3 | 9=>9 | 2=>2 | 4=>4 | 171=>369 | 0=>0 | 53=>359 | 37=>129 | 5=>5 | 173=>371 | 212=>386 | 51=>357 | 20=>20 | 213=>387 | 46=>315 | 232=>395 | 233=>396 | n=>n,fun | 17=>1 | 18=>4 | 19=>5 | n=>n⟩
theorem Tryz.laysM171:Go.Proofs.LaysM.n171 Tryz.prog Tryz.laysM171_ren:={
 mixed:=by kernel_rfl
 f129:=Tryz.func302.trans (congrArg some (by kernel_rfl))
 f171:=Tryz.func107.trans (congrArg some (by kernel_rfl))
 f243:=Tryz.func232.trans (congrArg some (by kernel_rfl))
 f246:=Tryz.func289.trans (congrArg some (by kernel_rfl))
 f283:=Tryz.func318.trans (congrArg some (by kernel_rfl))
 f284:=Tryz.func319.trans (congrArg some (by kernel_rfl))
 f285:=Tryz.func320.trans (congrArg some (by kernel_rfl))
 f286:=Tryz.func321.trans (congrArg some (by kernel_rfl))
 f317:=Tryz.func334.trans (congrArg some (by kernel_rfl))
 f318:=Tryz.func335.trans (congrArg some (by kernel_rfl))
 f319:=Tryz.func336.trans (congrArg some (by kernel_rfl))
 f320:=Tryz.func337.trans (congrArg some (by kernel_rfl))
 f337:=Tryz.func341.trans (congrArg some (by kernel_rfl))
 f338:=Tryz.func342.trans (congrArg some (by kernel_rfl))
 t0:=Tryz.underlying0
 a0:=Tryz.isAgg0
 z0:=Tryz.sizeOf0
 v0:=Tryz.zeroValue0
 t2:=Tryz.underlying2
 a2:=Tryz.isAgg2
 z2:=Tryz.sizeOf2
 v2:=Tryz.zeroValue2
 t3:=Tryz.underlying3
 a3:=Tryz.isAgg3
 z3:=Tryz.sizeOf3
 v3:=Tryz.zeroValue3
 t4:=Tryz.underlying4
 a4:=Tryz.isAgg4
 z4:=Tryz.sizeOf4
 v4:=Tryz.zeroValue4
 t5:=Tryz.underlying5
 a5:=Tryz.isAgg5
 z5:=Tryz.sizeOf5
 v5:=Tryz.zeroValue5
 t9:=Tryz.underlying9
 a9:=Tryz.isAgg9
 z9:=Tryz.sizeOf9
 v9:=Tryz.zeroValue9
 t20:=Tryz.underlying20
 a20:=Tryz.isAgg20
 z20:=Tryz.sizeOf20
 v20:=Tryz.zeroValue20
 t37:=Tryz.underlying129
 a37:=Tryz.isAgg129
 z37:=Tryz.sizeOf129
 v37:=Tryz.zeroValue129
 t46:=Tryz.underlying315
 a46:=Tryz.isAgg315
 z46:=Tryz.sizeOf315
 v46:=Tryz.zeroValue315
 t51:=Tryz.underlying357
 a51:=Tryz.isAgg357
 z51:=Tryz.sizeOf357
 v51:=Tryz.zeroValue357
 t53:=Tryz.underlying359
 a53:=Tryz.isAgg359
 z53:=Tryz.sizeOf359
 v53:=Tryz.zeroValue359
 t171:=Tryz.underlying369
 a171:=Tryz.isAgg369
 z171:=Tryz.sizeOf369
 v171:=Tryz.zeroValue369
 t173:=Tryz.underlying371
 a173:=Tryz.isAgg371
 z173:=Tryz.sizeOf371
 v173:=Tryz.zeroValue371
 t212:=Tryz.underlying386
 a212:=Tryz.isAgg386
 z212:=Tryz.sizeOf386
 v212:=Tryz.zeroValue386
 t213:=Tryz.underlying387
 a213:=Tryz.isAgg387
 z213:=Tryz.sizeOf387
 t232:=Tryz.underlying395
 a232:=Tryz.isAgg395
 z232:=Tryz.sizeOf395
 v232:=Tryz.zeroValue395
 t233:=Tryz.underlying396
 a233:=Tryz.isAgg396
 z233:=Tryz.sizeOf396
 v233:=Tryz.zeroValue396
 g17:=by kernel_rfl
 g18:=by kernel_rfl
 g19:=by kernel_rfl
 i0:=by kernel_rfl
 i2:=by kernel_rfl
 i3:=by kernel_rfl
 i4:=by kernel_rfl
 i5:=by kernel_rfl
 i9:=by kernel_rfl
 i20:=by kernel_rfl
 i37:=by kernel_rfl
 i46:=by kernel_rfl
 i51:=by kernel_rfl
 i53:=by kernel_rfl
 i171:=by kernel_rfl
 i173:=by kernel_rfl
 i212:=by kernel_rfl
 i232:=by kernel_rfl
 i233:=by kernel_rfl
 m17:=by kernel_rfl
 m18:=by kernel_rfl
 m19:=by kernel_rfl }
end Go.Proofs

namespace Go.Sim
def okF (f:Nat):Bool:=match NC.P.funcs[f]? with
 | some fn=>match fn.body with
   | some c=>!(fn.name == "runtime.NumGoroutine") && Zz NC f fn.ntmps c
   | none=>false
 | none=>false
def YX:Nat->Nat->Bool
 | _,0=>true
 | a,n+1=>(!Vf.testBit a || okF a) && YX (a+1) n
theorem Xl:∀ {a n f:Nat},YX a n=true->a<=f->f < a+n->Vf.testBit f=true->okF f=true
 | a,0,f,_,h1,h2,_=>by omega
 | a,n+1,f,h,h1,h2,hg=>by
   unfold YX at h;simp only [and_eq_true] at h;by_cases e:f=a
   . subst e;have:=h.1;rw [hg] at this;simpa using this
   . exact Xl h.2 (by omega) (by omega) hg
theorem ok0:YX 0 20=true:=by kernel_rfl
theorem ok20:YX 20 20=true:=by kernel_rfl
theorem ok40:YX 40 20=true:=by kernel_rfl
theorem ok60:YX 60 20=true:=by kernel_rfl
theorem ok80:YX 80 20=true:=by kernel_rfl
theorem ok100:YX 100 20=true:=by kernel_rfl
theorem ok120:YX 120 20=true:=by kernel_rfl
theorem ok140:YX 140 20=true:=by kernel_rfl
theorem ok160:YX 160 20=true:=by kernel_rfl
theorem ok180:YX 180 20=true:=by kernel_rfl
theorem ok200:YX 200 20=true:=by kernel_rfl
theorem ok220:YX 220 20=true:=by kernel_rfl
theorem ok240:YX 240 20=true:=by kernel_rfl
theorem ok260:YX 260 20=true:=by kernel_rfl
theorem ok280:YX 280 20=true:=by kernel_rfl
theorem ok300:YX 300 20=true:=by kernel_rfl
theorem ok320:YX 320 20=true:=by kernel_rfl
theorem ok340:YX 340 20=true:=by kernel_rfl
theorem ok360:YX 360 20=true:=by kernel_rfl
theorem Ra {g a:Nat} (h:g < 2 ^ a * 2 ^ a) (hf:a+a<=f):g.testBit f=false :=
 testBit_lt_two_pow (lt_of_lt_of_le h (by rw [<- pow_add];exact pow_le_pow_right (by omega) hf))
theorem Rb:Vf < 2 ^ 190 * 2 ^ 190:=by decide +kernel
theorem okAll (f:Nat) (hg:Vf.testBit f=true):okF f=true:=by
 have hlt:f < 380:=by
  rcases lt_or_ge f 380 with h | h
  . exact h
  . have:Vf.testBit f=false:=Ra Rb h;rw [this] at hg;cases hg
 by_cases h0:f < 20
 . exact Xl ok0 (by omega) (by omega) hg
 by_cases h20:f < 40
 . exact Xl ok20 (by omega) (by omega) hg
 by_cases h40:f < 60
 . exact Xl ok40 (by omega) (by omega) hg
 by_cases h60:f < 80
 . exact Xl ok60 (by omega) (by omega) hg
 by_cases h80:f < 100
 . exact Xl ok80 (by omega) (by omega) hg
 by_cases h100:f < 120
 . exact Xl ok100 (by omega) (by omega) hg
 by_cases h120:f < 140
 . exact Xl ok120 (by omega) (by omega) hg
 by_cases h140:f < 160
 . exact Xl ok140 (by omega) (by omega) hg
 by_cases h160:f < 180
 . exact Xl ok160 (by omega) (by omega) hg
 by_cases h180:f < 200
 . exact Xl ok180 (by omega) (by omega) hg
 by_cases h200:f < 220
 . exact Xl ok200 (by omega) (by omega) hg
 by_cases h220:f < 240
 . exact Xl ok220 (by omega) (by omega) hg
 by_cases h240:f < 260
 . exact Xl ok240 (by omega) (by omega) hg
 by_cases h260:f < 280
 . exact Xl ok260 (by omega) (by omega) hg
 by_cases h280:f < 300
 . exact Xl ok280 (by omega) (by omega) hg
 by_cases h300:f < 320
 . exact Xl ok300 (by omega) (by omega) hg
 by_cases h320:f < 340
 . exact Xl ok320 (by omega) (by omega) hg
 by_cases h340:f < 360
 . exact Xl ok340 (by omega) (by omega) hg
 by_cases h360:f < 380
 . exact Xl ok360 (by omega) (by omega) hg
 omega
theorem H7 {fn:Func} (h:Tryz.prog.funcs[f]? = some fn) (hb:fn.body.isSome=true) (hn:(fn.name == "runtime.NumGoroutine")=false):VP Tryz.prog f:=⟨fn,h,hb,hn⟩
theorem KE:Sane NC where
 depth:=by decide +kernel
 orders:=by kernel_rfl
 good:=fun f hf=>by
  have h:=okAll f hf;unfold okF at h;split at h
  . rename_i fn hfn
    split at h
    . rename_i c hc
      simp only [and_eq_true,not_eq_true'] at h;exact ⟨fn,c,hfn,hc,h.1,h.2⟩
    . cases h
  . cases h
 memo:=fun f args v h=>by cases h
 prim:=fun f p args v hp h lo H=>by
  unfold NC at hp;simp only [] at hp;cases h2:Nat.beq f 107 with
  | true =>
    rw [h2] at hp;simp at hp;subst hp;have:=eq_of_beq_eq_true h2;subst this;exact R5 (C:=NC) (x:=1) rfl Tryz.laysM171 (H7 Tryz.func107 (by kernel_rfl) (by kernel_rfl)) rfl (by kernel_rfl) h lo H
  | false =>
    rw [h2] at hp;cases h3:Nat.beq f 109 with
    | true =>
      rw [h3] at hp;simp at hp;subst hp;have:=eq_of_beq_eq_true h3;subst this;exact R7 (C:=NC) rfl Tryz.lays156 Tryz.Builder_Extra_156 (H7 Tryz.func109 (by kernel_rfl) (by kernel_rfl)) h lo H
    | false=>rw [h3] at hp;simp at hp
 hprim:=fun f p lo args H v H' hp h hl=>by cases hp
theorem nilA (f:FuncId):(NC.withPrims P).nilArg f=NC.nilArg f:=rfl
theorem nilN (f:FuncId):NC.nilArg f=(decide (f=239) || decide (f=277) || decide (f=278)):=rfl
theorem rfP {f:FuncId} (h:refM.testBit f=false):(NC.withPrims P).refApp f t=false:=by show (refM.testBit f && refT.testBit t)=false;rw [h];rfl
def Zi (t i:Nat):Option (Nat × Nat):=match NC.P.underlying t with
 | some (.struct fs)=>GL NC.P fs i
 | _=>none
def Zk (t f:Nat):Option Nat:=match Ja NC.P t f with
 | some fd=>match Zf NC.P fd.type with
   | some (_+1)=>some fd.offset
   | _=>none
 | none=>none
def H8 (id off:Nat):Option Nat->Option AV
 | some o=>some (.ptr id (off+o))
 | none=>none
def faPP (cs:List AV):Option Nat->Option AV
 | some o=>some (.pptr (cs.drop o))
 | none=>none
theorem Rc (id off o:Nat):H8 id off (some o)=some (.ptr id (off+o)):=rfl
theorem Rd (cs:List AV) (o:Nat):faPP cs (some o)=some (.pptr (cs.drop o)):=rfl
theorem Re (t f id off:Nat):Jc NC.P t (.ptr id off) f=H8 id off (Zk t f):=by
 unfold Jc Zk;cases Ja NC.P t f with
 | none=>rfl
 | some fd=>simp only [];cases Zf NC.P fd.type with
   | none=>rfl
   | some n=>cases n<;>rfl
theorem fa_pp (t f:Nat) (cs:List AV):Jc NC.P t (.pptr cs) f=faPP cs (Zk t f):=by
 unfold Jc Zk;cases Ja NC.P t f with
 | none=>rfl
 | some fd=>simp only [];cases Zf NC.P fd.type with
   | none=>rfl
   | some n=>cases n<;>rfl
theorem un_22:NC.P.underlying 22=some (.slice 53):=by kernel_rfl
theorem un_3:NC.P.underlying 3=some (.int .i64):=by kernel_rfl
theorem un_9:NC.P.underlying 9=some (.string):=by kernel_rfl
theorem ze_34:ZF NC.P 34=some (.agg [.int .i64 0,.ps .nil [],.ps .nil [],.ps .nil [],.ps .nil [],.ps .nil []]):=by kernel_rfl
theorem sz_34:Zf NC.P 34=some 6:=by kernel_rfl
theorem ag_34:aggOf NC.P 34=some true:=by kernel_rfl
theorem un_5:NC.P.underlying 5=some (.int .u8):=by kernel_rfl
theorem un_4:NC.P.underlying 4=some (.bool):=by kernel_rfl
theorem el_51:Yk NC.P 51=some 3:=by kernel_rfl
theorem sz_3:Zf NC.P 3=some 1:=by kernel_rfl
theorem ze_3:ZF NC.P 3=some (.int .i64 0):=by kernel_rfl
theorem un_51:NC.P.underlying 51=some (.slice 3):=by kernel_rfl
theorem ze_49:ZF NC.P 49=some (.agg [.int .i64 0,.ps .nil [],.ps .nil [],.ps .nil [],.ps .nil [],.ps .nil []]):=by kernel_rfl
theorem sz_53:Zf NC.P 53=some 5:=by kernel_rfl
theorem ag_53:aggOf NC.P 53=some true:=by kernel_rfl
theorem ze_53:ZF NC.P 53=some (.agg [.int .i64 0,.str [],.ps .nil [],.ps .nil [],.str []]):=by kernel_rfl
theorem sz_49:Zf NC.P 49=some 6:=by kernel_rfl
theorem sz_46:Zf NC.P 46=some 1:=by kernel_rfl
theorem ag_46:aggOf NC.P 46=some false:=by kernel_rfl
theorem un_46:NC.P.underlying 46=some (.slice 59):=by kernel_rfl
theorem sz_44:Zf NC.P 44=some 1:=by kernel_rfl
theorem ag_44:aggOf NC.P 44=some false:=by kernel_rfl
theorem un_44:NC.P.underlying 44=some (.slice 65):=by kernel_rfl
theorem sz_45:Zf NC.P 45=some 1:=by kernel_rfl
theorem ag_45:aggOf NC.P 45=some false:=by kernel_rfl
theorem un_45:NC.P.underlying 45=some (.slice 61):=by kernel_rfl
theorem sz_59:Zf NC.P 59=some 10:=by kernel_rfl
theorem ag_59:aggOf NC.P 59=some true:=by kernel_rfl
theorem Vg:ZF NC.P 59=some (.agg [.str [],.str [],.int .i64 0,.int .i64 0,.bool false,.bool false,.bool false,.int .i64 0,.int .i64 0,.int .i64 0]):=by kernel_rfl
theorem sz_4:Zf NC.P 4=some 1:=by kernel_rfl
theorem ag_4:aggOf NC.P 4=some false:=by kernel_rfl
theorem sz_61:Zf NC.P 61=some 3:=by kernel_rfl
theorem ag_61:aggOf NC.P 61=some true:=by kernel_rfl
theorem Vh:ZF NC.P 61=some (.agg [.str [],.str [],.int .i64 0]):=by kernel_rfl
theorem sz_9:Zf NC.P 9=some 1:=by kernel_rfl
theorem ag_9:aggOf NC.P 9=some false:=by kernel_rfl
theorem ag_3:aggOf NC.P 3=some false:=by kernel_rfl
theorem sz_43:Zf NC.P 43=some 1:=by kernel_rfl
theorem ag_43:aggOf NC.P 43=some false:=by kernel_rfl
theorem un_43:NC.P.underlying 43=some (.slice 63):=by kernel_rfl
theorem sz_63:Zf NC.P 63=some 2:=by kernel_rfl
theorem ag_63:aggOf NC.P 63=some true:=by kernel_rfl
theorem C4:ZF NC.P 63=some (.agg [.str [],.int .i64 0]):=by kernel_rfl
theorem sz_50:Zf NC.P 50=some 1:=by kernel_rfl
theorem ag_50:aggOf NC.P 50=some false:=by kernel_rfl
theorem un_50:NC.P.underlying 50=some (.slice 9):=by kernel_rfl
theorem sz_51:Zf NC.P 51=some 1:=by kernel_rfl
theorem ag_51:aggOf NC.P 51=some false:=by kernel_rfl
theorem sz_65:Zf NC.P 65=some 7:=by kernel_rfl
theorem ag_65:aggOf NC.P 65=some true:=by kernel_rfl
theorem Vi:ZF NC.P 65=some (.agg [.str [],.str [],.int .i64 0,.int .i64 0,.int .i64 0,.bool false,.bool false]):=by kernel_rfl
theorem sz_47:Zf NC.P 47=some 1:=by kernel_rfl
theorem ag_47:aggOf NC.P 47=some false:=by kernel_rfl
theorem un_47:NC.P.underlying 47=some (.slice 67):=by kernel_rfl
theorem sz_67:Zf NC.P 67=some 2:=by kernel_rfl
theorem ag_67:aggOf NC.P 67=some true:=by kernel_rfl
theorem K9:ZF NC.P 67=some (.agg [.str [],.str []]):=by kernel_rfl
theorem ag_49:aggOf NC.P 49=some true:=by kernel_rfl
theorem C5:ZF NC.P 73=some (.agg [.int .i64 0,.int .i64 0]):=by kernel_rfl
theorem sz_73:Zf NC.P 73=some 2:=by kernel_rfl
theorem sz_31:Zf NC.P 31=some 1:=by kernel_rfl
theorem ag_31:aggOf NC.P 31=some false:=by kernel_rfl
theorem un_31:NC.P.underlying 31=some (.slice 76):=by kernel_rfl
theorem sz_76:Zf NC.P 76=some 10:=by kernel_rfl
theorem ag_76:aggOf NC.P 76=some true:=by kernel_rfl
theorem ze_76:ZF NC.P 76=some (.agg [.str [],.str [],.int .i64 0,.int .i64 0,.bool false,.bool false,.bool false,.int .i64 0,.int .i64 0,.int .i64 0]):=by kernel_rfl
theorem un_73:NC.P.underlying 73=some (.array 2 3):=by kernel_rfl
theorem ag_73:aggOf NC.P 73=some true:=by kernel_rfl
theorem el_22:Yk NC.P 22=some 53:=by kernel_rfl
theorem by_53:YR NC.P 53=some 88:=by kernel_rfl
theorem bs_53 (parts:List (Nat × AV)):YC NC.P 53 parts=match YK (fun i=>Zi 53 i) [.int .i64 0,.str [],.ps .nil [],.ps .nil [],.str []] parts with
 | some cs=>some (.agg cs)
 | none=>none:=by kernel_rfl
theorem sz_28:Zf NC.P 28=some 1:=by kernel_rfl
theorem ag_28:aggOf NC.P 28=some false:=by kernel_rfl
theorem un_28:NC.P.underlying 28=some (.slice 113):=by kernel_rfl
theorem Rg:Zf NC.P 113=some 2:=by kernel_rfl
theorem Rh:ZF NC.P 113=some (.agg [.str [],.int .i64 0]):=by kernel_rfl
theorem el_28:Yk NC.P 28=some 113:=by kernel_rfl
theorem bs_34 (parts:List (Nat × AV)):YC NC.P 34 parts=match YK (fun i=>Zi 34 i) [.int .i64 0,.ps .nil [],.ps .nil [],.ps .nil [],.ps .nil [],.ps .nil []] parts with
 | some cs=>some (.agg cs)
 | none=>none:=by kernel_rfl
theorem Ri:Zi 34 0=some (0,1):=by kernel_rfl
theorem Rj:Zi 34 1=some (1,1):=by kernel_rfl
theorem Rk:Zi 34 2=some (2,1):=by kernel_rfl
theorem Rl:Zi 34 3=some (3,1):=by kernel_rfl
theorem Rm:Zi 34 4=some (4,1):=by kernel_rfl
theorem Rn:Zi 34 5=some (5,1):=by kernel_rfl
theorem sz_29:Zf NC.P 29=some 1:=by kernel_rfl
theorem ag_29:aggOf NC.P 29=some false:=by kernel_rfl
theorem un_29:NC.P.underlying 29=some (.slice 114):=by kernel_rfl
theorem Ro:Zf NC.P 114=some 7:=by kernel_rfl
theorem Rp:aggOf NC.P 114=some true:=by kernel_rfl
theorem Rq:ZF NC.P 114=some (.agg [.str [],.str [],.int .i64 0,.int .i64 0,.int .i64 0,.bool false,.bool false]):=by kernel_rfl
theorem el_29:Yk NC.P 29=some 114:=by kernel_rfl
theorem Rr:YR NC.P 114=some 64:=by kernel_rfl
theorem sz_30:Zf NC.P 30=some 1:=by kernel_rfl
theorem ag_30:aggOf NC.P 30=some false:=by kernel_rfl
theorem un_30:NC.P.underlying 30=some (.slice 115):=by kernel_rfl
theorem Rs:Zf NC.P 115=some 3:=by kernel_rfl
theorem Rt:ZF NC.P 115=some (.agg [.str [],.str [],.int .i64 0]):=by kernel_rfl
theorem el_30:Yk NC.P 30=some 115:=by kernel_rfl
theorem Ru:YR NC.P 115=some 40:=by kernel_rfl
theorem el_31:Yk NC.P 31=some 76:=by kernel_rfl
theorem by_76:YR NC.P 76=some 80:=by kernel_rfl
theorem sz_32:Zf NC.P 32=some 1:=by kernel_rfl
theorem ag_32:aggOf NC.P 32=some false:=by kernel_rfl
theorem un_32:NC.P.underlying 32=some (.slice 117):=by kernel_rfl
theorem Rv:Zf NC.P 117=some 2:=by kernel_rfl
theorem Rw:ZF NC.P 117=some (.agg [.str [],.str []]):=by kernel_rfl
theorem ze_4:ZF NC.P 4=some (.bool false):=by kernel_rfl
theorem el_32:Yk NC.P 32=some 117:=by kernel_rfl
theorem Rx:YR NC.P 117=some 32:=by kernel_rfl
theorem sz_22:Zf NC.P 22=some 1:=by kernel_rfl
theorem ag_22:aggOf NC.P 22=some false:=by kernel_rfl
theorem el_50:Yk NC.P 50=some 9:=by kernel_rfl
theorem ze_9:ZF NC.P 9=some (.str []):=by kernel_rfl
theorem ze_57:ZF NC.P 57=some (.agg [.int .i64 0,.int .i64 0]):=by kernel_rfl
theorem bs_57 (parts:List (Nat × AV)):YC NC.P 57 parts=match YK (fun i=>Zi 57 i) [.int .i64 0,.int .i64 0] parts with
 | some cs=>some (.agg cs)
 | none=>none:=by kernel_rfl
theorem Ry:Zi 57 0=some (0,1):=by kernel_rfl
theorem Rz:Zi 57 1=some (1,1):=by kernel_rfl
theorem sz_57:Zf NC.P 57=some 2:=by kernel_rfl
theorem ag_57:aggOf NC.P 57=some true:=by kernel_rfl
theorem C6:NC.P.underlying 176=some (.map 9 175):=by kernel_rfl
theorem Z00:ZF NC.P 175=some (.agg [.str [],.int .i64 0,.nilf,.nilf]):=by kernel_rfl
theorem Z01:NC.P.underlying 178=some (.slice 34):=by kernel_rfl
theorem by_9:YR NC.P 9=some 16:=by kernel_rfl
theorem un_25:NC.P.underlying 25=some (.int .i64):=by kernel_rfl
theorem Z02:Yk NC.P 241=some 25:=by kernel_rfl
theorem sz_25:Zf NC.P 25=some 1:=by kernel_rfl
theorem ze_25:ZF NC.P 25=some (.int .i64 0):=by kernel_rfl
theorem Z03:NC.P.underlying 241=some (.slice 25):=by kernel_rfl
theorem Z04:ZF NC.P 199=some (.agg [.str [],.int .i64 0,.bool false]):=by kernel_rfl
theorem Z05:Zf NC.P 199=some 3:=by kernel_rfl
theorem H9:NC.P.underlying 214=some (.map 9 212):=by kernel_rfl
theorem Z06:ZF NC.P 212=some (.agg [.int .u8 0,.nilf]):=by kernel_rfl
theorem Z07:Zf NC.P 175=some 4:=by kernel_rfl
theorem Z08:YR NC.P 113=some 24:=by kernel_rfl
theorem ag_25:aggOf NC.P 25=some false:=by kernel_rfl
theorem Z09:ZF NC.P 170=some (.agg [.ps .nil [],.ps .nil [],.int .i64 0,.ps .nil [],.ps .nil [],.ps .nil [],.ps .nil [],.ps .nil []]):=by kernel_rfl
theorem Z0a (parts:List (Nat × AV)):YC NC.P 170 parts=match YK (fun i=>Zi 170 i) [.ps .nil [],.ps .nil [],.int .i64 0,.ps .nil [],.ps .nil [],.ps .nil [],.ps .nil [],.ps .nil []] parts with
 | some cs=>some (.agg cs)
 | none=>none:=by kernel_rfl
theorem Z0b:Zi 170 0=some (0,1):=by kernel_rfl
theorem Z0c:Zi 170 1=some (1,1):=by kernel_rfl
theorem Z0d:Zi 170 2=some (2,6):=by kernel_rfl
theorem Z0e (parts:List (Nat × AV)):YC NC.P 175 parts=match YK (fun i=>Zi 175 i) [.str [],.int .i64 0,.nilf,.nilf] parts with
 | some cs=>some (.agg cs)
 | none=>none:=by kernel_rfl
theorem Z0f:Zi 175 0=some (0,1):=by kernel_rfl
theorem Z0g:Zi 175 1=some (1,1):=by kernel_rfl
theorem Z0h:Zi 175 2=some (2,1):=by kernel_rfl
theorem Z0i:Zi 175 3=some (3,1):=by kernel_rfl
theorem Z0j:Yk NC.P 178=some 34:=by kernel_rfl
theorem by_34:YR NC.P 34=some 128:=by kernel_rfl
theorem Z0k (parts:List (Nat × AV)):YC NC.P 199 parts=match YK (fun i=>Zi 199 i) [.str [],.int .i64 0,.bool false] parts with
 | some cs=>some (.agg cs)
 | none=>none:=by kernel_rfl
theorem Z0l:Zi 199 0=some (0,1):=by kernel_rfl
theorem Z0m:Zi 199 1=some (1,1):=by kernel_rfl
theorem Z0n:Zi 199 2=some (2,1):=by kernel_rfl
theorem Z0o (parts:List (Nat × AV)):YC NC.P 212 parts=match YK (fun i=>Zi 212 i) [.int .u8 0,.nilf] parts with
 | some cs=>some (.agg cs)
 | none=>none:=by kernel_rfl
theorem Z0p:Zi 212 0=some (0,1):=by kernel_rfl
theorem Z0q:Zi 212 1=some (1,1):=by kernel_rfl
theorem Z0r:aggOf NC.P 175=some true:=by kernel_rfl
theorem Z0s:Zf NC.P 172=some 1:=by kernel_rfl
theorem Z0t:aggOf NC.P 172=some false:=by kernel_rfl
theorem by_25:YR NC.P 25=some 8:=by kernel_rfl
theorem un_21:NC.P.underlying 21=some (.int .i32):=by kernel_rfl
theorem bs_63 (parts:List (Nat × AV)):YC NC.P 63 parts=match YK (fun i=>Zi 63 i) [.str [],.int .i64 0] parts with
 | some cs=>some (.agg cs)
 | none=>none:=by kernel_rfl
theorem Z0u:Zi 63 0=some (0,1):=by kernel_rfl
theorem Z0v:Zi 63 1=some (1,1):=by kernel_rfl
theorem el_43:Yk NC.P 43=some 63:=by kernel_rfl
theorem by_63:YR NC.P 63=some 24:=by kernel_rfl
theorem bs_65 (parts:List (Nat × AV)):YC NC.P 65 parts=match YK (fun i=>Zi 65 i) [.str [],.str [],.int .i64 0,.int .i64 0,.int .i64 0,.bool false,.bool false] parts with
 | some cs=>some (.agg cs)
 | none=>none:=by kernel_rfl
theorem Z0w:Zi 65 0=some (0,1):=by kernel_rfl
theorem Z0x:Zi 65 1=some (1,1):=by kernel_rfl
theorem Z0y:Zi 65 2=some (2,2):=by kernel_rfl
theorem Z0z:Zi 65 3=some (4,1):=by kernel_rfl
theorem Z0A:Zi 65 4=some (5,1):=by kernel_rfl
theorem Z0B:Zi 65 5=some (6,1):=by kernel_rfl
theorem el_44:Yk NC.P 44=some 65:=by kernel_rfl
theorem by_65:YR NC.P 65=some 64:=by kernel_rfl
theorem bs_61 (parts:List (Nat × AV)):YC NC.P 61 parts=match YK (fun i=>Zi 61 i) [.str [],.str [],.int .i64 0] parts with
 | some cs=>some (.agg cs)
 | none=>none:=by kernel_rfl
theorem Z0C:Zi 61 0=some (0,1):=by kernel_rfl
theorem Z0D:Zi 61 1=some (1,1):=by kernel_rfl
theorem Z0E:Zi 61 2=some (2,1):=by kernel_rfl
theorem el_45:Yk NC.P 45=some 61:=by kernel_rfl
theorem by_61:YR NC.P 61=some 40:=by kernel_rfl
theorem bs_59 (parts:List (Nat × AV)):YC NC.P 59 parts=match YK (fun i=>Zi 59 i) [.str [],.str [],.int .i64 0,.int .i64 0,.bool false,.bool false,.bool false,.int .i64 0,.int .i64 0,.int .i64 0] parts with
 | some cs=>some (.agg cs)
 | none=>none:=by kernel_rfl
theorem Z0F:Zi 59 0=some (0,1):=by kernel_rfl
theorem Z0G:Zi 59 1=some (1,1):=by kernel_rfl
theorem Z0H:Zi 59 2=some (2,2):=by kernel_rfl
theorem Z0I:Zi 59 3=some (4,1):=by kernel_rfl
theorem Z0J:Zi 59 4=some (5,1):=by kernel_rfl
theorem Z0K:Zi 59 5=some (6,1):=by kernel_rfl
theorem Z0L:Zi 59 6=some (7,1):=by kernel_rfl
theorem Z0M:Zi 59 7=some (8,1):=by kernel_rfl
theorem Z0N:Zi 59 8=some (9,1):=by kernel_rfl
theorem el_46:Yk NC.P 46=some 59:=by kernel_rfl
theorem by_59:YR NC.P 59=some 80:=by kernel_rfl
theorem bs_67 (parts:List (Nat × AV)):YC NC.P 67 parts=match YK (fun i=>Zi 67 i) [.str [],.str []] parts with
 | some cs=>some (.agg cs)
 | none=>none:=by kernel_rfl
theorem Z0O:Zi 67 0=some (0,1):=by kernel_rfl
theorem Z0P:Zi 67 1=some (1,1):=by kernel_rfl
theorem el_47:Yk NC.P 47=some 67:=by kernel_rfl
theorem by_67:YR NC.P 67=some 32:=by kernel_rfl
theorem Z0Q:Zf NC.P 163=some 1:=by kernel_rfl
theorem Z0R:aggOf NC.P 163=some false:=by kernel_rfl
theorem Z0S:Zf NC.P 272=some 1:=by kernel_rfl
theorem Z0T:aggOf NC.P 272=some false:=by kernel_rfl
theorem Z0U:Zf NC.P 274=some 1:=by kernel_rfl
theorem Z0V:aggOf NC.P 274=some false:=by kernel_rfl
theorem Z0W (parts:List (Nat × AV)):YC NC.P 113 parts=match YK (fun i=>Zi 113 i) [.str [],.int .i64 0] parts with
 | some cs=>some (.agg cs)
 | none=>none:=by kernel_rfl
theorem Z0X:Zi 113 0=some (0,1):=by kernel_rfl
theorem Z0Y:Zi 113 1=some (1,1):=by kernel_rfl
theorem Z0Z (parts:List (Nat × AV)):YC NC.P 114 parts=match YK (fun i=>Zi 114 i) [.str [],.str [],.int .i64 0,.int .i64 0,.int .i64 0,.bool false,.bool false] parts with
 | some cs=>some (.agg cs)
 | none=>none:=by kernel_rfl
theorem Z10:Zi 114 0=some (0,1):=by kernel_rfl
theorem Z11:Zi 114 1=some (1,1):=by kernel_rfl
theorem Z12:Zi 114 2=some (2,2):=by kernel_rfl
theorem Z13:Zi 114 3=some (4,1):=by kernel_rfl
theorem Z14:Zi 114 4=some (5,1):=by kernel_rfl
theorem Z15:Zi 114 5=some (6,1):=by kernel_rfl
theorem Z16 (parts:List (Nat × AV)):YC NC.P 115 parts=match YK (fun i=>Zi 115 i) [.str [],.str [],.int .i64 0] parts with
 | some cs=>some (.agg cs)
 | none=>none:=by kernel_rfl
theorem Z17:Zi 115 0=some (0,1):=by kernel_rfl
theorem Z18:Zi 115 1=some (1,1):=by kernel_rfl
theorem Z19:Zi 115 2=some (2,1):=by kernel_rfl
theorem bs_76 (parts:List (Nat × AV)):YC NC.P 76 parts=match YK (fun i=>Zi 76 i) [.str [],.str [],.int .i64 0,.int .i64 0,.bool false,.bool false,.bool false,.int .i64 0,.int .i64 0,.int .i64 0] parts with
 | some cs=>some (.agg cs)
 | none=>none:=by kernel_rfl
theorem Z1a:Zi 76 0=some (0,1):=by kernel_rfl
theorem Z1b:Zi 76 1=some (1,1):=by kernel_rfl
theorem Z1c:Zi 76 2=some (2,2):=by kernel_rfl
theorem Z1d:Zi 76 3=some (4,1):=by kernel_rfl
theorem Z1e:Zi 76 4=some (5,1):=by kernel_rfl
theorem Z1f:Zi 76 5=some (6,1):=by kernel_rfl
theorem Z1g:Zi 76 6=some (7,1):=by kernel_rfl
theorem Z1h:Zi 76 7=some (8,1):=by kernel_rfl
theorem Z1i:Zi 76 8=some (9,1):=by kernel_rfl
theorem Z1j (parts:List (Nat × AV)):YC NC.P 117 parts=match YK (fun i=>Zi 117 i) [.str [],.str []] parts with
 | some cs=>some (.agg cs)
 | none=>none:=by kernel_rfl
theorem Z1k:Zi 117 0=some (0,1):=by kernel_rfl
theorem Z1l:Zi 117 1=some (1,1):=by kernel_rfl
theorem Z1m:Zf NC.P 173=some 1:=by kernel_rfl
theorem Z1n:aggOf NC.P 173=some false:=by kernel_rfl
theorem Z1o:Zk 49 4=some 4:=by kernel_rfl
theorem Z1p:Zk 49 2=some 2:=by kernel_rfl
theorem Z1q:Zk 49 3=some 3:=by kernel_rfl
theorem Z1r:Zk 59 3=some 4:=by kernel_rfl
theorem Z1s:Zk 61 1=some 1:=by kernel_rfl
theorem Z1t:Zk 59 1=some 1:=by kernel_rfl
theorem Z1u:Zk 59 2=some 2:=by kernel_rfl
theorem Z1v:Zk 57 0=some 0:=by kernel_rfl
theorem Z1w:Zk 57 1=some 1:=by kernel_rfl
theorem Z1x:Zk 53 1=some 1:=by kernel_rfl
theorem Z1y:Zk 49 1=some 1:=by kernel_rfl
theorem Z1z:Zk 63 0=some 0:=by kernel_rfl
theorem Z1A:Zk 53 2=some 2:=by kernel_rfl
theorem Z1B:Zk 53 3=some 3:=by kernel_rfl
theorem Z1C:Zk 63 1=some 1:=by kernel_rfl
theorem Z1D:Zk 65 1=some 1:=by kernel_rfl
theorem Z1E:Zk 65 5=some 6:=by kernel_rfl
theorem Z1F:Zk 65 4=some 5:=by kernel_rfl
theorem Z1G:Zk 65 3=some 4:=by kernel_rfl
theorem Z1H:Zk 49 5=some 5:=by kernel_rfl
theorem Z1I:Zk 67 1=some 1:=by kernel_rfl
theorem Z1J:Zk 59 0=some 0:=by kernel_rfl
theorem Z1K:Zk 59 7=some 8:=by kernel_rfl
theorem Z1L:Zk 59 5=some 6:=by kernel_rfl
theorem Z1M:Zk 59 4=some 5:=by kernel_rfl
theorem Z1N:Zk 59 6=some 7:=by kernel_rfl
theorem Z1O:Zk 65 0=some 0:=by kernel_rfl
theorem Z1P:Zk 65 2=some 2:=by kernel_rfl
theorem Z1Q:Zk 34 4=some 4:=by kernel_rfl
theorem Z1R:Zk 76 3=some 4:=by kernel_rfl
theorem Z1S:Zk 76 7=some 8:=by kernel_rfl
theorem Z1T:Zk 76 6=some 7:=by kernel_rfl
theorem Z1U:Zk 53 0=some 0:=by kernel_rfl
theorem Z1V:Zk 34 1=some 1:=by kernel_rfl
theorem Z1W:Zk 113 0=some 0:=by kernel_rfl
theorem Z1X:Zk 49 0=some 0:=by kernel_rfl
theorem Z1Y:Zk 34 2=some 2:=by kernel_rfl
theorem Z1Z:Zk 114 1=some 1:=by kernel_rfl
theorem Z20:Zk 34 3=some 3:=by kernel_rfl
theorem Z21:Zk 115 1=some 1:=by kernel_rfl
theorem Z22:Zk 76 1=some 1:=by kernel_rfl
theorem Z23:Zk 76 0=some 0:=by kernel_rfl
theorem Z24:Zk 34 5=some 5:=by kernel_rfl
theorem Z25:Zk 117 1=some 1:=by kernel_rfl
theorem Z26:Zk 53 4=some 4:=by kernel_rfl
theorem Z27:Zk 170 1=some 1:=by kernel_rfl
theorem Z28:Zk 175 3=some 3:=by kernel_rfl
theorem Z29:Zk 170 2=some 2:=by kernel_rfl
theorem Z2a:Zk 117 0=some 0:=by kernel_rfl
theorem Z2b:Zk 76 5=some 6:=by kernel_rfl
theorem Z2c:Zk 76 4=some 5:=by kernel_rfl
theorem Z2d:Zk 199 2=some 2:=by kernel_rfl
theorem Z2e:Zk 199 0=some 0:=by kernel_rfl
theorem Z2f:Zk 199 1=some 1:=by kernel_rfl
theorem Z2g:Zk 170 0=some 0:=by kernel_rfl
theorem Z2h:Zk 113 1=some 1:=by kernel_rfl
theorem Z2i:Zk 114 4=some 5:=by kernel_rfl
theorem Z2j:Zk 114 5=some 6:=by kernel_rfl
theorem Z2k:Zk 114 3=some 4:=by kernel_rfl
theorem Z2l:Zk 76 8=some 9:=by kernel_rfl
theorem Z2m:Zk 76 2=some 2:=by kernel_rfl
theorem Z2n:Zk 114 0=some 0:=by kernel_rfl
theorem Z2o:Zk 34 0=some 0:=by kernel_rfl
theorem Z2p:Zk 175 0=some 0:=by kernel_rfl
theorem Z2q:Zk 175 1=some 1:=by kernel_rfl
theorem Z2r:Zk 115 0=some 0:=by kernel_rfl
theorem Z2s:Zk 175 2=some 2:=by kernel_rfl
theorem Z2t:Zk 59 8=some 9:=by kernel_rfl
theorem Z2u:Zk 61 0=some 0:=by kernel_rfl
theorem Z2v:Zk 67 0=some 0:=by kernel_rfl
theorem Z2w:Zk 114 2=some 2:=by kernel_rfl
abbrev Pl (f r:Nat) (q:List OpI):Prop:=∀ P:PF,(NC.withPrims P).plans f r=q
theorem Zg {f r:Nat} {q:List OpI} (h:NC.plans f r=q):Pl f r q:=fun _=>h
theorem Z2x:Pl 5 16 FD:=Zg (by kernel_rfl)
theorem Z2y:Pl 30 6 FE:=Zg (by kernel_rfl)
theorem Z2z:Pl 45 1 FF:=Zg (by kernel_rfl)
theorem Z2A:Pl 57 1 FG:=Zg (by kernel_rfl)
theorem Z2B:Pl 57 2 FH:=Zg (by kernel_rfl)
theorem Z2C:Pl 73 4 FI:=Zg (by kernel_rfl)
theorem Z2D:Pl 76 1 FJ:=Zg (by kernel_rfl)
theorem Z2E:Pl 78 16 FK:=Zg (by kernel_rfl)
theorem Z2F:Pl 78 19 FM:=Zg (by kernel_rfl)
theorem Z2G:Pl 78 22 FN:=Zg (by kernel_rfl)
theorem Z2H:Pl 78 23 FO:=Zg (by kernel_rfl)
theorem Z2I:Pl 84 1 FP:=Zg (by kernel_rfl)
theorem Z2J:Pl 105 1 FQ:=Zg (by kernel_rfl)
theorem Z2K:Pl 105 6 FR:=Zg (by kernel_rfl)
theorem Z2L:Pl 105 8 FT:=Zg (by kernel_rfl)
theorem Z2M:Pl 105 10 FU:=Zg (by kernel_rfl)
theorem Z2N:Pl 105 11 FV:=Zg (by kernel_rfl)
theorem Z2O:Pl 105 14 FW:=Zg (by kernel_rfl)
theorem Z2P:Pl 106 2 FX:=Zg (by kernel_rfl)
theorem Z2Q:Pl 106 4 FY:=Zg (by kernel_rfl)
theorem Z2R:Pl 106 6 FZ:=Zg (by kernel_rfl)
theorem Z2S:Pl 106 7 D0:=Zg (by kernel_rfl)
theorem Z2T:Pl 126 5 D1:=Zg (by kernel_rfl)
theorem Z2U:Pl 152 1 D2:=Zg (by kernel_rfl)
theorem Z2V:Pl 154 1 D3:=Zg (by kernel_rfl)
theorem Z2W:Pl 155 1 D4:=Zg (by kernel_rfl)
theorem Z2X:Pl 156 2 D5:=Zg (by kernel_rfl)
theorem Z2Y:Pl 157 1 D6:=Zg (by kernel_rfl)
theorem Z2Z:Pl 157 2 D7:=Zg (by kernel_rfl)
theorem Z30:Pl 158 2 D8:=Zg (by kernel_rfl)
theorem Z31:Pl 159 2 D9:=Zg (by kernel_rfl)
theorem Z32:Pl 161 1 Da:=Zg (by kernel_rfl)
theorem Z33:Pl 161 2 Db:=Zg (by kernel_rfl)
theorem Z34:Pl 161 3 Dc:=Zg (by kernel_rfl)
theorem Z35:Pl 163 1 Dd:=Zg (by kernel_rfl)
theorem Z36:Pl 163 2 De:=Zg (by kernel_rfl)
theorem Z37:Pl 164 1 Df:=Zg (by kernel_rfl)
theorem Z38:Pl 168 1 Dg:=Zg (by kernel_rfl)
theorem Z39:Pl 169 4 Dh:=Zg (by kernel_rfl)
theorem Z3a:Pl 170 2 Di:=Zg (by kernel_rfl)
theorem Z3b:Pl 175 1 Dj:=Zg (by kernel_rfl)
theorem Z3c:Pl 177 1 Dk:=Zg (by kernel_rfl)
theorem Z3d:Pl 178 1 Dl:=Zg (by kernel_rfl)
theorem Z3e:Pl 181 1 Dm:=Zg (by kernel_rfl)
theorem Z3f:Pl 182 1 Do:=Zg (by kernel_rfl)
theorem Z3g:Pl 183 1 Dp:=Zg (by kernel_rfl)
theorem Z3h:Pl 184 1 Dq:=Zg (by kernel_rfl)
theorem Z3i:Pl 185 1 Dr:=Zg (by kernel_rfl)
theorem Z3j:Pl 186 1 Ds:=Zg (by kernel_rfl)
theorem Z3k:Pl 188 1 Dt:=Zg (by kernel_rfl)
theorem Z3l:Pl 189 1 Du:=Zg (by kernel_rfl)
theorem Z3m:Pl 190 1 Dv:=Zg (by kernel_rfl)
theorem Z3n:Pl 192 2 Dw:=Zg (by kernel_rfl)
theorem Z3o:Pl 195 1 Dx:=Zg (by kernel_rfl)
theorem Z3p:Pl 231 9 Dy:=Zg (by kernel_rfl)
theorem Z3q:Pl 236 1 Dz:=Zg (by kernel_rfl)
theorem Z3r:Pl 274 1 DA:=Zg (by kernel_rfl)
theorem Z3s:Pl 275 5 DB:=Zg (by kernel_rfl)
theorem Z3t:Pl 275 7 DC:=Zg (by kernel_rfl)
theorem Z3u:Pl 277 25 DD:=Zg (by kernel_rfl)
theorem Z3v:Pl 277 27 DE:=Zg (by kernel_rfl)
theorem Z3w:Pl 277 33 DF:=Zg (by kernel_rfl)
theorem Z3x:Pl 277 35 DG:=Zg (by kernel_rfl)
theorem Z3y:Pl 277 42 DH:=Zg (by kernel_rfl)
theorem Z3z:Pl 277 43 DI:=Zg (by kernel_rfl)
theorem Z3A:Pl 277 52 DJ:=Zg (by kernel_rfl)
theorem Z3B:Pl 277 55 DK:=Zg (by kernel_rfl)
theorem Z3C:Pl 277 59 DL:=Zg (by kernel_rfl)
theorem Z3D:Pl 277 61 DM:=Zg (by kernel_rfl)
theorem Z3E:Pl 277 62 DN:=Zg (by kernel_rfl)
theorem Z3F:Pl 277 3 DO:=Zg (by kernel_rfl)
theorem Z3G:Pl 277 9 DP:=Zg (by kernel_rfl)
theorem Z3H:Pl 277 15 DQ:=Zg (by kernel_rfl)
theorem Z3I:Pl 277 19 DR:=Zg (by kernel_rfl)
theorem Z3J:Pl 278 3 DS:=Zg (by kernel_rfl)
theorem Z3K:Pl 278 4 DT:=Zg (by kernel_rfl)
theorem Z3L:Pl 278 6 DU:=Zg (by kernel_rfl)
theorem Z3M:Pl 278 13 DV:=Zg (by kernel_rfl)
theorem Z3N:Pl 278 15 DW:=Zg (by kernel_rfl)
theorem Z3O:Pl 278 40 DX:=Zg (by kernel_rfl)
theorem Z3P:Pl 278 46 DY:=Zg (by kernel_rfl)
theorem Z3Q:Pl 278 48 DZ:=Zg (by kernel_rfl)
theorem Z3R:Pl 278 52 C0:=Zg (by kernel_rfl)
theorem Z3S:Pl 278 54 C1:=Zg (by kernel_rfl)
theorem Z3T:Pl 278 66 C3:=Zg (by kernel_rfl)
abbrev Rf (f:FuncId):Prop:=∀ (P:PF) (t:TypeId),(NC.withPrims P).refApp f t=false
theorem XC {f:FuncId} (h:refM.testBit f=false):Rf f:=fun P t=>Eq.trans (rfP h) rfl
theorem rf_28:Rf 28:=XC (by decide +kernel)
theorem rf_29:Rf 29:=XC (by decide +kernel)
theorem rf_78:Rf 78:=XC (by decide +kernel)
theorem rf_81:Rf 81:=XC (by decide +kernel)
theorem rf_85:Rf 85:=XC (by decide +kernel)
theorem Z3U (P:PF):(NC.withPrims P).refApp 106 22=true:=Eq.trans (by kernel_rfl) rfl
theorem Z3V:Rf 121:=XC (by decide +kernel)
theorem Z3W:Rf 129:=XC (by decide +kernel)
theorem Z3X:Rf 132:=XC (by decide +kernel)
theorem Z3Y:Rf 155:=XC (by decide +kernel)
theorem Z3Z (P:PF):(NC.withPrims P).refApp 158 44=true:=Eq.trans (by kernel_rfl) rfl
theorem Z40:Rf 164:=XC (by decide +kernel)
theorem Z41:Rf 167:=XC (by decide +kernel)
theorem Z42 (P:PF):(NC.withPrims P).refApp 170 46=true:=Eq.trans (by kernel_rfl) rfl
theorem Z43:Rf 178:=XC (by decide +kernel)
theorem Z44:Rf 180:=XC (by decide +kernel)
theorem Z45:Rf 196:=XC (by decide +kernel)
theorem Z46:Rf 213:=XC (by decide +kernel)
theorem Z47:Rf 221:=XC (by decide +kernel)
theorem Z48:Rf 244:=XC (by decide +kernel)
theorem Z49:Rf 264:=XC (by decide +kernel)
theorem Z4a (P:PF):(NC.withPrims P).refApp 276 28=true:=Eq.trans (by kernel_rfl) rfl
theorem Z4b (P:PF):(NC.withPrims P).refApp 276 29=true:=Eq.trans (by kernel_rfl) rfl
theorem Z4c (P:PF):(NC.withPrims P).refApp 276 30=true:=Eq.trans (by kernel_rfl) rfl
theorem Z4d (P:PF):(NC.withPrims P).refApp 276 31=true:=Eq.trans (by kernel_rfl) rfl
theorem Z4e (P:PF):(NC.withPrims P).refApp 276 32=true:=Eq.trans (by kernel_rfl) rfl
theorem Z4f (P:PF):(NC.withPrims P).refApp 277 28=true:=Eq.trans (by kernel_rfl) rfl
theorem Z4g (P:PF):(NC.withPrims P).refApp 277 29=true:=Eq.trans (by kernel_rfl) rfl
theorem Z4h (P:PF):(NC.withPrims P).refApp 277 30=true:=Eq.trans (by kernel_rfl) rfl
theorem Z4i (P:PF):(NC.withPrims P).refApp 277 31=true:=Eq.trans (by kernel_rfl) rfl
theorem Z4j (P:PF):(NC.withPrims P).refApp 278 32=true:=Eq.trans (by kernel_rfl) rfl
abbrev Ks (b:Array UInt8) (l:List Nat):Prop:=∀ {C:Cfg} {T:TT AV},Z4 C T (.const (.string { data:=b }))=some (.str l)
theorem ks_54:Ks #[109,101,97,115,117,114,101,109,101,110,116] [109,101,97,115,117,114,101,109,101,110,116]:=rfl
theorem ks_55:Ks #[112,114,111,116,101,99,116,105,111,110] [112,114,111,116,101,99,116,105,111,110]:=rfl
theorem ks_58:Ks #[84] [84]:=rfl
theorem ks_59:Ks #[70,116] [70,116]:=rfl
theorem ks_60:Ks #[102] [102]:=rfl
theorem ks_61:Ks #[102,112] [102,112]:=rfl
theorem ks_62:Ks #[82,116] [82,116]:=rfl
theorem ks_63:Ks #[114] [114]:=rfl
theorem ks_64:Ks #[80,116] [80,116]:=rfl
theorem ks_65:Ks #[112] [112]:=rfl
theorem ks_66:Ks #[77,112] [77,112]:=rfl
theorem ks_67:Ks #[109] [109]:=rfl
theorem ks_68:Ks #[115,112,101,101,100] [115,112,101,101,100]:=rfl
theorem ks_69:Ks #[116,114,97,105,110,115] [116,114,97,105,110,115]:=rfl
theorem ks_70:Ks #[98,97,114,114,105,101,114] [98,97,114,114,105,101,114]:=rfl
theorem ks_71:Ks #[112,101,114,115,111,110,115] [112,101,114,115,111,110,115]:=rfl
theorem ks_72:Ks #[115,105,108,101,110,116] [115,105,108,101,110,116]:=rfl
theorem ks_73:Ks #[116,97,107,101,110] [116,97,107,101,110]:=rfl
theorem ks_74:Ks #[109,97,99,104,105,110,101,115] [109,97,99,104,105,110,101,115]:=rfl
theorem ks_75:Ks #[114,101,116,117,114,110] [114,101,116,117,114,110]:=rfl
theorem ks_76:Ks #[117,110,100,111] [117,110,100,111]:=rfl
theorem ks_77:Ks #[116,97,107,101] [116,97,107,101]:=rfl
theorem ks_83:Ks #[116,114,97,99,107] [116,114,97,99,107]:=rfl
theorem ks_84:Ks #[102,97,117,108,116] [102,97,117,108,116]:=rfl
theorem ks_85:Ks #[97,110,115,119,101,114] [97,110,115,119,101,114]:=rfl
theorem ks_86:Ks #[114,101,112,97,105,114] [114,101,112,97,105,114]:=rfl
theorem ks_87:Ks #[101,110,116,101,114] [101,110,116,101,114]:=rfl
theorem ks_88:Ks #[108,101,97,118,101] [108,101,97,118,101]:=rfl
theorem ks_89:Ks #[111,117,116] [111,117,116]:=rfl
theorem ks_90:Ks #[114,97,105,115,101] [114,97,105,115,101]:=rfl
theorem ks_91:Ks #[112,114,111,116,101,99,116] [112,114,111,116,101,99,116]:=rfl
theorem ks_92:Ks #[99,108,101,97,114] [99,108,101,97,114]:=rfl
theorem ks_93:Ks #[105,110] [105,110]:=rfl
theorem ks_94:Ks #[115,116,97,102,102] [115,116,97,102,102]:=rfl
theorem ks_95:Ks #[111,102,102] [111,102,102]:=rfl
theorem ks_96:Ks #[111,112,101,110] [111,112,101,110]:=rfl
theorem ks_97:Ks #[99,108,111,115,101] [99,108,111,115,101]:=rfl
theorem Z4k:Ks #[] []:=rfl
def Xa (x:Int):Bool:=!decide (x < 65) && !decide (90 < x) || !decide (x < 97) && !decide (122 < x)
def Qk (x:Int):Bool:=!decide (x < 48) && !decide (57 < x)
def Xb (x:Int):Bool:=Xa x || Qk x || decide (x=95)
def Z7:List Nat->Bool
 | []=>false
 | c::r=>decide ((c::r).length<=24) && Xa c && r.all fun x=>Xb x
theorem Z4l (h0:s ≠ []) (h1:s.length<=24) (h2:∀ c:Nat,s[0]? = some c->Xa c=true) (h3:∀ (i c:Nat),1<=i->s[i]? = some c->Xb c=true):Z7 s=true:=by
 cases s with
 | nil=>exact absurd rfl h0
 | cons c r =>
   unfold Z7;simp only [and_eq_true,decide_eq_true_eq,all_eq_true];refine ⟨⟨h1,h2 c rfl⟩,fun x hx => ?_⟩;obtain ⟨i,hi⟩:=mem_iff_getElem?.1 hx;exact h3 (i+1) x (by omega) (by simpa using hi)
theorem Ha (h:s[0]? = some c) (hl:Xa c=false):Z7 s=false:=by
 cases s with
 | nil=>simp at h
 | cons d r=>simp at h;subst h;simp [Z7,hl]
theorem Hb (hi:1<=i) (h:s[i]? = some c) (hl:Xb c=false):Z7 s=false:=by
 cases s with
 | nil=>simp at h
 | cons d r =>
   unfold Z7;have:(r.all fun x=>Xb x)=false:=by
    rw [all_eq_false];refine ⟨c, ?_,by simp [hl]⟩;obtain ⟨j,rfl⟩:∃ j,i=j+1:=⟨i - 1,by omega⟩;exact mem_of_getElem? (by simpa using h)
   simp [this]
def Ua (c:Nat):List Nat->Nat
 | []=>0
 | x::r=>(if x=c then 1 else 0)+Ua c r
def JI (c:Nat):List Nat->Int
 | []=>-1
 | b::l=>if b=c then 0 else if JI c l = -1 then -1 else JI c l+1
abbrev Wd:Type:=List Nat
theorem Ys (a b:Wd):Z6 a b=decide (a=b):=by
 rw [JP,Bool.eq_iff_iff];simp
end Go.Sim

namespace Go.Sim.Pos
abbrev Nm:Type:=List Nat
structure Trk where
 name:Nm
 speed:Int
deriving DecidableEq,Inhabited
structure Flt where
 name:Nm
 track:Nm
 frm:Int
 to:Int
 speed:Int
 ans:Bool
 rep:Bool
deriving DecidableEq,Inhabited
structure Trn where
 name:Nm
 track:Nm
 speed:Int
deriving DecidableEq,Inhabited
structure Pos where
 name:Nm
 track:Nm
 frm:Int
 to:Int
 ret:Bool
 prot:Bool
 opn:Bool
 closed:Int
 pers:Int
 speed:Int
deriving DecidableEq,Inhabited
structure Mch where
 name:Nm
 poss:Nm
deriving DecidableEq,Inhabited
structure Reg where
 tick:Int
 tracks:List Trk
 faults:List Flt
 trains:List Trn
 poss:List Pos
 machs:List Mch
deriving DecidableEq,Inhabited
def ZS:Reg:=⟨0,[],[],[],[],[]⟩
inductive Act
 | track (t:Nm) (v:Int)
 | fault (f t:Nm) (a b v:Int)
 | answer (f:Nm)
 | repair (f p:Nm)
 | enter (x t:Nm) (v:Int)
 | leave (x:Nm)
 | take (p t:Nm) (a b:Int)
 | prot (p:Nm)
 | clear (p:Nm)
 | into (m p:Nm)
 | out (m:Nm)
 | staff (p:Nm) (v:Int)
 | off (p:Nm) (v:Int)
 | opn (p:Nm)
 | close (p:Nm) (v:Int)
 | ret (p:Nm)
 | raise (p:Nm) (v:Int)
deriving DecidableEq,Inhabited
def Reg.track? (r:Reg) (x:Nm):Option Trk:=r.tracks.find? fun y=>decide (y.name=x)
def Reg.fault? (r:Reg) (x:Nm):Option Flt:=r.faults.find? fun y=>decide (y.name=x)
def Reg.train? (r:Reg) (x:Nm):Option Trn:=r.trains.find? fun y=>decide (y.name=x)
def Reg.poss? (r:Reg) (x:Nm):Option Pos:=r.poss.find? fun y=>decide (y.name=x)
def Reg.mach? (r:Reg) (x:Nm):Option Mch:=r.machs.find? fun y=>decide (y.name=x)
def Reg.within (r:Reg) (p:Nm):List Mch:=r.machs.filter fun m=>decide (m.poss=p)
def Reg.taken (r:Reg) (t:Nm):Bool:=r.poss.any fun p=>decide (p.track=t) && !p.ret
def Flt.silent (f:Flt):Bool:=!f.rep && !f.ans
def Reg.silentOn (r:Reg) (t:Nm):Bool:=r.faults.any fun f=>decide (f.track=t) && f.silent
def minI (a b:Int):Int:=if b < a then b else a
def Reg.permitted (r:Reg) (t:Nm):Int :=
 ((r.poss.filter fun p=>decide (p.track=t) && p.ret).map (·.speed)).foldl minI
   (((r.faults.filter fun f=>decide (f.track=t) && (f.ans && !f.rep)).map (·.speed)).foldl minI (match r.track? t with
     | some x=>x.speed
     | none=>0))
def over (a b c d:Int):Bool:=decide (a < d) && decide (c < b)
def Reg.overlaps (r:Reg) (t:Nm) (a b:Int):Bool:=r.poss.any fun p=>(decide (p.track=t) && !p.ret) && over p.frm p.to a b
def Reg.manned (r:Reg) (t:Nm):Bool:=r.trains.any fun x=>decide (x.track=t)
def Yy (r:Reg) (p:Nm) (f:Pos->Int):Int:=match r.poss? p with
 | none=>10
 | some y=>if y.ret then 23 else f y
def okA (r:Reg) (tk:Int) (a:Act):Int:=if tk < r.tick then 22 else match a with
 | .track t v=>if (r.track? t).isSome then 9 else if v < 1\/400 < v then 3 else if 8<=r.tracks.length then 5 else 0
 | .fault f t a b v=>if (r.track? t).isNone then 10 else if (r.fault? f).isSome then 9 else if b<=a\/100000000 < b then 14 else if 400 < v then 3 else if 64<=r.faults.length then 5 else 0
 | .answer f=>match r.fault? f with
   | none=>10
   | some y=>if y.rep then 23 else if y.ans then 9 else 0
 | .repair f p=>match r.fault? f with
   | none=>10
   | some y=>match r.poss? p with
     | none=>10
     | some q=>if y.rep then 23 else if q.ret\/q.track ≠ y.track\/y.frm < q.frm\/q.to < y.to then 21 else if q.pers=0/\r.within p=[] then 12 else 0
 | .enter x t v=>if (r.track? t).isNone then 10 else if (r.train? x).isSome then 9 else if r.taken t then 31 else if r.silentOn t then 32 else if v < 1\/r.permitted t < v then 20 else if 16<=r.trains.length then 5 else 0
 | .leave x=>if (r.train? x).isNone then 10 else 0
 | .take p t a b=>if (r.track? t).isNone then 10 else if (r.poss? p).isSome then 9 else if b<=a\/100000000 < b then 14 else if r.manned t then 31 else if r.overlaps t a b then 15 else if 16<=r.poss.length then 5 else 0
 | .prot p=>Yy r p fun y=>if y.prot then 9 else 0
 | .clear p=>Yy r p fun y=>if !y.prot then 22 else if 0 < y.pers\/r.within p ≠ [] then 32 else 0
 | .into m p=>match r.poss? p with
   | none=>10
   | some y=>if (r.mach? m).isSome then 9 else if y.ret then 23 else if !y.prot then 21 else if 16<=r.machs.length then 5 else 0
 | .out m=>if (r.mach? m).isNone then 10 else 0
 | .staff p v=>Yy r p fun y=>if v < 1\/100 < v then 3 else if !y.prot then 21 else if 100 < y.pers+v then 4 else 0
 | .off p v=>Yy r p fun y=>if v < 1\/100 < v then 3 else if y.pers < v then 16 else 0
 | .opn p=>Yy r p fun y=>if y.opn then 9 else if 8<=y.closed then 5 else 0
 | .close p v=>Yy r p fun y=>if v < 1\/400 < v then 3 else if !y.opn then 22 else 0
 | .ret p=>Yy r p fun y=>if r.within p ≠ []\/0 < y.pers\/y.opn\/y.prot then 32 else if y.closed=0 then 7 else 0
 | .raise p v=>match r.poss? p with
   | none=>10
   | some y=>if !y.ret then 22 else if 400 < v then 3 else if v<=y.speed then 21 else 0
def J1 (l:List Flt) (f:Nm) (g:Flt->Flt):List Flt:=l.map fun x=>if x.name=f then g x else x
def YY (l:List Pos) (p:Nm) (g:Pos->Pos):List Pos:=l.map fun x=>if x.name=p then g x else x
def Reg.chP (r:Reg) (tk:Int) (p:Nm) (g:Pos->Pos):Reg:={ r with tick:=tk,poss:=YY r.poss p g }
def doA (r:Reg) (tk:Int):Act->Reg
 | .track t v=>{ r with tick:=tk,tracks:=r.tracks++[⟨t,v⟩] }
 | .fault f t a b v=>{ r with tick:=tk,faults:=r.faults++[⟨f,t,a,b,v,false,false⟩] }
 | .answer f=>{ r with tick:=tk,faults:=J1 r.faults f fun x=>{ x with ans:=true } }
 | .repair f _=>{ r with tick:=tk,faults:=J1 r.faults f fun x=>{ x with rep:=true } }
 | .enter x t v=>{ r with tick:=tk,trains:=r.trains++[⟨x,t,v⟩] }
 | .leave x=>{ r with tick:=tk,trains:=r.trains.filter fun y=>decide (y.name ≠ x) }
 | .take p t a b=>{ r with tick:=tk,poss:=r.poss++[⟨p,t,a,b,false,false,false,0,0,0⟩] }
 | .prot p=>r.chP tk p fun y=>{ y with prot:=true }
 | .clear p=>r.chP tk p fun y=>{ y with prot:=false }
 | .into m p=>{ r with tick:=tk,machs:=r.machs++[⟨m,p⟩] }
 | .out m=>{ r with tick:=tk,machs:=r.machs.filter fun y=>decide (y.name ≠ m) }
 | .staff p v=>r.chP tk p fun y=>{ y with pers:=y.pers+v }
 | .off p v=>r.chP tk p fun y=>{ y with pers:=y.pers - v }
 | .opn p=>r.chP tk p fun y=>{ y with opn:=true }
 | .close p v=>r.chP tk p fun y=>{ y with opn:=false,closed:=y.closed+1,speed:=v }
 | .ret p=>r.chP tk p fun y=>{ y with ret:=true }
 | .raise p v=>r.chP tk p fun y=>{ y with speed:=v }
theorem Hd {α:Type} {g:α->α}:∀ {l:List α},(∀ x ∈ l,g x=x)->l.map g=l
 | [],_=>rfl
 | a::r,h=>by
   rw [map_cons,h a (by simp),Hd fun x hx=>h x (by simp [hx])]
def Zw (nm:α->Nm) (l:List α):Prop:=(l.map nm).Nodup
theorem Zw.eq {α:Type} {nm:α->Nm}:∀ {l:List α},Zw nm l -> ∀ {x y:α},x ∈ l->y ∈ l->nm x=nm y->x=y
 | [],_,x,_,hx,_,_=>by cases hx
 | a::r,h,x,y,hx,hy,he=>by
   unfold Zw at h;rw [map_cons,nodup_cons] at h;rcases mem_cons.1 hx with e1 | h1<;>rcases mem_cons.1 hy with e2 | h2
   . rw [e1,e2]
   . exact absurd (by rw [<- e1,he];exact mem_map_of_mem h2) h.1
   . exact absurd (by rw [<- e2,<- he];exact mem_map_of_mem h1) h.1
   . exact Zw.eq (l:=r) h.2 h1 h2 he
theorem Zw.snoc {nm:α->Nm} {l:List α} {a:α} (h:Zw nm l) (hn:(l.find? fun y=>decide (nm y=nm a))=none):Zw nm (l++[a]):=by
 unfold Zw at *;rw [map_append,nodup_append];refine ⟨h,by simp, ?_⟩;intro x hx y hy;have:y=nm a:=by simpa using hy
 subst this;obtain ⟨z,hz,rfl⟩:=mem_map.1 hx;rw [find?_eq_none] at hn;simpa using hn z hz
theorem Zw.filter {nm:α->Nm} {l:List α} {p:α->Bool} (h:Zw nm l):Zw nm (l.filter p):=by
 unfold Zw at *;exact List.Nodup.sublist (List.Sublist.map nm filter_sublist) h
theorem Zw.map {nm:α->Nm} {l:List α} {g:α->α} (h:Zw nm l) (hg:∀ x,nm (g x)=nm x):Zw nm (l.map g):=by
 unfold Zw at *;rw [map_map];have:(nm ∘ g)=nm:=funext hg;rw [this];exact h
structure Inv (r:Reg):Prop where
 uT:Zw Trk.name r.tracks
 uF:Zw Flt.name r.faults
 uN:Zw Trn.name r.trains
 uP:Zw Pos.name r.poss
 uM:Zw Mch.name r.machs
 rF:∀ f ∈ r.faults,(r.track? f.track).isSome=true
 rN:∀ f ∈ r.trains,(r.track? f.track).isSome=true
 rP:∀ f ∈ r.poss,(r.track? f.track).isSome=true
 rM:∀ m ∈ r.machs,(r.poss? m.poss).isSome=true
theorem Gd {q:α->Bool} {l:List α} {y:α} (h:l.find? q=some y):y ∈ l/\q y=true:=⟨mem_of_find?_eq_some h,find?_some h⟩
theorem isNone_some {o:Option α} (h:¬ o.isNone=true):∃ y,o=some y:=by
 cases o with
 | none=>exact absurd rfl h
 | some y=>exact ⟨y,rfl⟩
theorem isSome_none {o:Option α} (h:¬ o.isSome=true):o=none:=by
 cases o with
 | none=>rfl
 | some y=>exact absurd rfl h
section
variable {r:Reg} {t:Nm} {k:Int}
end
def He (g:Pos->Pos):Prop:=∀ y,(g y).name=y.name/\(g y).track=y.track
theorem Ub {r:Reg} {p:Nm} {f:Pos->Int} (h:Yy r p f=0):∃ q,r.poss? p=some q/\q.ret=false/\f q=0:=by
 unfold Yy at h;cases hp:r.poss? p with
 | none=>rw [hp] at h;cases h
 | some y =>
   rw [hp] at h;simp only at h;split at h
   . cases h
   . rename_i hr
     exact ⟨y,rfl,by simpa using hr,h⟩
def Act.onP:Act->Option Nm
 | .prot p | .clear p | .staff p _ | .off p _ | .opn p | .close p _ | .ret p | .raise p _ | .into _ p=>some p
 | _=>none
theorem Jo {r:Reg} {a:Act} (ho:okA r tk a=0) {p:Nm} (hp:a.onP=some p):∃ q,r.poss? p=some q:=by
 unfold okA at ho;split at ho
 . cases ho
 cases a<;>simp only [Act.onP] at hp<;>cases hp
 all_goals
  first
   | exact (Ub ho).imp fun q h=>h.1
   | (cases h:r.poss? p with
       | none=>simp [h] at ho
       | some y=>exact ⟨y,rfl⟩)
theorem Hf {r:Reg} {f:Nm} (ho:okA r tk (.answer f)=0 \/ ∃ p,okA r tk (.repair f p)=0):∃ q,r.fault? f=some q:=by
 cases h:r.fault? f with
 | some q=>exact ⟨q,rfl⟩
 | none =>
   rcases ho with ho | ⟨p,ho⟩
   . unfold okA at ho;split at ho
     . cases ho
     . simp [h] at ho
   . unfold okA at ho;split at ho
     . cases ho
     . simp [h] at ho
theorem Hg {p:α->Bool} {l:List α} (a:α) (h:(l.find? p).isSome=true):((l++[a]).find? p).isSome=true:=by
 rw [find?_append];cases hl:l.find? p with
 | none=>rw [hl] at h;cases h
 | some y=>rfl
theorem Z4m {r:Reg} {p x:Nm} {g:Pos->Pos} (hg:He g):((YY r.poss p g).find? fun y=>decide (y.name=x)).isSome=(r.poss? x).isSome:=by
 unfold YY Reg.poss?;rw [find?_map];have:((fun y:Pos=>decide (y.name=x)) ∘ fun y=>if y.name=p then g y else y)=fun y=>decide (y.name=x):=by
  funext y
  show decide ((if y.name=p then g y else y).name=x)=_
  split
  . rw [(hg y).1]
  . rfl
 rw [this];cases r.poss.find? fun y=>decide (y.name=x)<;>rfl
theorem Inv.chP {r:Reg} (I:Inv r) {p:Nm} {g:Pos->Pos} (hg:He g):Inv (r.chP tk p g):=by
 refine ⟨I.uT,I.uF,I.uN,I.uP.map fun y => ?_,I.uM,I.rF,I.rN,fun y hy => ?_,fun m hm => ?_⟩
 . show (if y.name=p then g y else y).name=y.name
   split
   . exact (hg y).1
   . rfl
 . obtain ⟨z,hz,rfl⟩:=mem_map.1 hy;have:(if z.name=p then g z else z).track=z.track:=by
    split
    . exact (hg z).2
    . rfl
   rw [this];exact I.rP z hz
 . show ((YY r.poss p g).find? _).isSome=true;rw [Z4m hg];exact I.rM m hm
theorem Inv.chF {r:Reg} (I:Inv r) {f:Nm} {g:Flt->Flt} (hn:∀ y,(g y).name=y.name) (hg:∀ y,(g y).track=y.track):Inv { r with tick:=tk,faults:=J1 r.faults f g }:=by
 refine ⟨I.uT,I.uF.map fun y => ?_,I.uN,I.uP,I.uM,fun y hy => ?_,I.rN,I.rP,I.rM⟩
 . show (if y.name=f then g y else y).name=y.name
   split
   . exact hn y
   . rfl
 . obtain ⟨z,hz,rfl⟩:=mem_map.1 hy;have:(if z.name=f then g z else z).track=z.track:=by
    split
    . exact hg z
    . rfl
   rw [this];exact I.rF z hz
theorem Hh:Inv ZS:=⟨by unfold Zw;simp [ZS],by unfold Zw;simp [ZS],by unfold Zw;simp [ZS],by unfold Zw;simp [ZS],by unfold Zw;simp [ZS],fun f h=>(by cases h),fun f h=>(by cases h),fun f h=>(by cases h),fun f h=>(by cases h)⟩
theorem J3 {l:List α} {a x:α} (h:x ∈ l++[a]):x ∈ l\/x=a:=by simpa using h
theorem Z4n {r:Reg} {a:Act} (I:Inv r) (ho:okA r tk a=0):Inv (doA r tk a):=by
 have hO:=ho;unfold okA at ho;split at ho
 . cases ho
 cases a with
 | track x v =>
   simp only at ho;split at ho
   . cases ho
   rename_i h1
   have s:∀ y,(r.track? y).isSome=true->((r.tracks++[(⟨x,v⟩:Trk)]).find? fun z=>decide (z.name=y)).isSome=true:=fun y h=>Hg _ h
   exact ⟨I.uT.snoc (a:=Trk.mk x v) (isSome_none (o:=r.track? x) h1),I.uF,I.uN,I.uP,I.uM,fun f h=>s _ (I.rF f h),fun f h=>s _ (I.rN f h),fun f h=>s _ (I.rP f h),I.rM⟩
 | fault f x a b v =>
   simp only at ho;split at ho
   . cases ho
   rename_i h1
   split at ho
   . cases ho
   rename_i h2
   refine ⟨I.uT,I.uF.snoc (a:=Flt.mk f x a b v false false) (isSome_none (o:=r.fault? f) h2),I.uN,I.uP,I.uM,fun y h => ?_,I.rN,I.rP,I.rM⟩;rcases J3 h with h | rfl
   . exact I.rF y h
   . obtain ⟨z,hz⟩:=isNone_some h1;show (r.track? x).isSome=true;rw [hz];rfl
 | answer f=>exact I.chF (fun _=>rfl) fun _=>rfl
 | repair f p=>exact I.chF (fun _=>rfl) fun _=>rfl
 | enter x y v =>
   simp only at ho;split at ho
   . cases ho
   rename_i h1
   split at ho
   . cases ho
   rename_i h2
   refine ⟨I.uT,I.uF,I.uN.snoc (a:=Trn.mk x y v) (isSome_none (o:=r.train? x) h2),I.uP,I.uM,I.rF,fun z h => ?_,I.rP,I.rM⟩;rcases J3 h with h | rfl
   . exact I.rN z h
   . obtain ⟨q,hq⟩:=isNone_some h1;show (r.track? y).isSome=true;rw [hq];rfl
 | leave x=>exact ⟨I.uT,I.uF,I.uN.filter,I.uP,I.uM,I.rF,fun z h=>I.rN z (mem_filter.1 h).1,I.rP,I.rM⟩
 | take p y a b =>
   simp only at ho;split at ho
   . cases ho
   rename_i h1
   split at ho
   . cases ho
   rename_i h2
   refine ⟨I.uT,I.uF,I.uN,I.uP.snoc (a:=Pos.mk p y a b false false false 0 0 0) (isSome_none (o:=r.poss? p) h2),I.uM,I.rF,I.rN,fun z h => ?_,fun m hm=>Hg _ (I.rM m hm)⟩;rcases J3 h with h | rfl
   . exact I.rP z h
   . obtain ⟨q,hq⟩:=isNone_some h1;show (r.track? y).isSome=true;rw [hq];rfl
 | prot p=>exact I.chP fun _=>⟨rfl,rfl⟩
 | clear p=>exact I.chP fun _=>⟨rfl,rfl⟩
 | into m p =>
   obtain ⟨q,hq⟩:=Jo hO (p:=p) rfl;simp only [hq] at ho;split at ho
   . cases ho
   rename_i h1
   refine ⟨I.uT,I.uF,I.uN,I.uP,I.uM.snoc (a:=Mch.mk m p) (isSome_none (o:=r.mach? m) h1),I.rF,I.rN,I.rP,fun z h => ?_⟩;rcases J3 h with h | rfl
   . exact I.rM z h
   . show (r.poss? p).isSome=true;rw [hq];rfl
 | out m=>exact ⟨I.uT,I.uF,I.uN,I.uP,I.uM.filter,I.rF,I.rN,I.rP,fun z h=>I.rM z (mem_filter.1 h).1⟩
 | staff p v=>exact I.chP fun _=>⟨rfl,rfl⟩
 | off p v=>exact I.chP fun _=>⟨rfl,rfl⟩
 | opn p=>exact I.chP fun _=>⟨rfl,rfl⟩
 | close p v=>exact I.chP fun _=>⟨rfl,rfl⟩
 | ret p=>exact I.chP fun _=>⟨rfl,rfl⟩
 | raise p v=>exact I.chP fun _=>⟨rfl,rfl⟩
abbrev TA:Type:=Int × Act
def JJ (r:Reg) (e:TA):Option Reg:=if okA r e.1 e.2=0 then some (doA r e.1 e.2) else none
def YD (r:Reg):List TA->Option Reg
 | []=>some r
 | e::l=>match JJ r e with
   | none=>none
   | some r'=>YD r' l
theorem Z4o {r r':Reg} {e:TA} (h:JJ r e=some r'):okA r e.1 e.2=0/\r'=doA r e.1 e.2:=by
 unfold JJ at h;split at h
 . rename_i h1
   exact ⟨h1,(Option.some.inj h).symm⟩
 . cases h
theorem Ge {r r':Reg} {e:TA} {l:List TA} (h:YD r (e::l)=some r'):okA r e.1 e.2=0/\YD (doA r e.1 e.2) l=some r':=by
 unfold YD at h;cases hs:JJ r e with
 | none=>rw [hs] at h;cases h
 | some r1 =>
   rw [hs] at h;obtain ⟨h1,rfl⟩:=Z4o hs;exact ⟨h1,h⟩
theorem run_ok {r:Reg} {e:TA} {l:List TA} (h:okA r e.1 e.2=0):YD r (e::l)=YD (doA r e.1 e.2) l:=by
 show (match JJ r e with
  | none=>none
  | some r'=>YD r' l)=_
 unfold JJ;rw [if_pos h]
theorem Uc:∀ (l m:List TA) (r:Reg),YD r (l++m)=(YD r l).bind fun r'=>YD r' m
 | [],m,r=>rfl
 | e::l,m,r=>by
   show (match JJ r e with
    | none=>none
    | some r'=>YD r' (l++m))=(match JJ r e with
    | none=>none
    | some r'=>YD r' l).bind _
   cases JJ r e with
   | none=>rfl
   | some r'=>exact Uc l m r'
structure Safe (r:Reg):Prop where
 free:∀ p ∈ r.poss,p.ret=false -> ∀ x ∈ r.trains,x.track ≠ p.track
 apart:r.poss.Pairwise fun q p=>q.ret=false->p.ret=false->q.track=p.track->over q.frm q.to p.frm p.to=false
 span:∀ p ∈ r.poss,p.frm < p.to
 pers:∀ p ∈ r.poss,0<=p.pers/\p.pers<=100
 closed:∀ p ∈ r.poss,0<=p.closed/\p.closed<=8/\(p.opn=true->p.closed<=7)
 speed:∀ t ∈ r.tracks,1<=t.speed/\t.speed<=400
 nT:r.tracks.length<=8
 nF:r.faults.length<=64
 nN:r.trains.length<=16
 nP:r.poss.length<=16
 nM:r.machs.length<=16
theorem Hi:Safe ZS:=⟨fun p h=>(by cases h),.nil,fun p h=>(by cases h),fun p h=>(by cases h),fun p h=>(by cases h),fun p h=>(by cases h),by simp [ZS],by simp [ZS],by simp [ZS],by simp [ZS],by simp [ZS]⟩
structure Mild (g:Pos->Pos):Prop where
 track:∀ y,(g y).track=y.track
 frm:∀ y,(g y).frm=y.frm
 to:∀ y,(g y).to=y.to
 ret:∀ y,(g y).ret=false->y.ret=false
theorem Safe.chP {r:Reg} (S:Safe r) {p:Nm} {g:Pos->Pos} (hg:Mild g) (hc:∀ y ∈ r.poss,y.name=p->(0<=(g y).pers/\(g y).pers<=100)/\0<=(g y).closed/\(g y).closed<=8/\((g y).opn=true->(g y).closed<=7)):Safe (r.chP tk p g):=by
 have hm:∀ y,(if y.name=p then g y else y).track=y.track/\(if y.name=p then g y else y).frm=y.frm/\(if y.name=p then g y else y).to=y.to/\((if y.name=p then g y else y).ret=false->y.ret=false):=fun y=>by
  split
  . exact ⟨hg.track y,hg.frm y,hg.to y,hg.ret y⟩
  . exact ⟨rfl,rfl,rfl,id⟩
 refine ⟨fun x hx hr t ht => ?_, ?_,fun x hx => ?_,fun x hx => ?_,fun x hx => ?_,S.speed,S.nT,S.nF,S.nN, ?_,S.nM⟩
 . obtain ⟨y,hy,rfl⟩:=mem_map.1 hx;have hr:(if y.name=p then g y else y).ret=false:=hr
   rw [show (if y.name=p then g y else y).track=y.track from (hm y).1]
   exact S.free y hy ((hm y).2.2.2 hr) t ht
 . refine pairwise_map.2 (S.apart.imp fun {a b} h h1 h2 h3 => ?_);rw [(hm a).1,(hm b).1] at h3;rw [(hm a).2.1,(hm a).2.2.1,(hm b).2.1,(hm b).2.2.1];exact h ((hm a).2.2.2 h1) ((hm b).2.2.2 h2) h3
 . obtain ⟨y,hy,rfl⟩:=mem_map.1 hx;rw [show (if y.name=p then g y else y).frm=y.frm from (hm y).2.1,show (if y.name=p then g y else y).to=y.to from (hm y).2.2.1]
   exact S.span y hy
 . obtain ⟨y,hy,rfl⟩:=mem_map.1 hx;by_cases hn:y.name=p
   . rw [if_pos hn];exact (hc y hy hn).1
   . rw [if_neg hn];exact S.pers y hy
 . obtain ⟨y,hy,rfl⟩:=mem_map.1 hx;by_cases hn:y.name=p
   . rw [if_pos hn];exact (hc y hy hn).2
   . rw [if_neg hn];exact S.closed y hy
 . show (YY r.poss p g).length<=16;unfold YY;rw [length_map];exact S.nP
theorem Gf {r:Reg} (I:Inv r) {p:Nm} {q y:Pos} (hq:r.poss? p=some q) (hy:y ∈ r.poss) (hn:y.name=p):y=q:=by
 obtain ⟨h1,h2⟩:=Gd hq;exact I.uP.eq hy h1 (by simp only [decide_eq_true_eq] at h2;rw [hn,h2])
theorem Z4p {r:Reg} {a:Act} (S:Safe r) (I:Inv r) (ho:okA r tk a=0):Safe (doA r tk a):=by
 have hO:=ho;unfold okA at ho;split at ho
 . cases ho
 cases a with
 | track x v =>
   simp only at ho;split at ho
   . cases ho
   split at ho
   . cases ho
   rename_i h2
   split at ho
   . cases ho
   rename_i h3
   refine ⟨S.free,S.apart,S.span,S.pers,S.closed,fun t ht => ?_,by show (r.tracks++[_]).length<=8;simp;omega,S.nF,S.nN,S.nP,S.nM⟩;rcases J3 ht with h | rfl
   . exact S.speed t h
   . show 1<=v/\v<=400;omega
 | fault f x a b v =>
   simp only at ho;split at ho
   . cases ho
   split at ho
   . cases ho
   split at ho
   . cases ho
   split at ho
   . cases ho
   split at ho
   . cases ho
   rename_i h5
   exact ⟨S.free,S.apart,S.span,S.pers,S.closed,S.speed,S.nT,by show (r.faults++[_]).length<=64;simp;omega,S.nN,S.nP,S.nM⟩
 | answer f=>exact ⟨S.free,S.apart,S.span,S.pers,S.closed,S.speed,S.nT,by show (J1 r.faults f _).length<=64;unfold J1;rw [length_map];exact S.nF,S.nN,S.nP,S.nM⟩
 | repair f p=>exact ⟨S.free,S.apart,S.span,S.pers,S.closed,S.speed,S.nT,by show (J1 r.faults f _).length<=64;unfold J1;rw [length_map];exact S.nF,S.nN,S.nP,S.nM⟩
 | enter x y v =>
   simp only at ho;split at ho
   . cases ho
   split at ho
   . cases ho
   split at ho
   . cases ho
   rename_i h3
   split at ho
   . cases ho
   split at ho
   . cases ho
   split at ho
   . cases ho
   rename_i h6
   refine ⟨fun p hp hr t ht => ?_,S.apart,S.span,S.pers,S.closed,S.speed,S.nT,S.nF,by show (r.trains++[_]).length<=16;simp;omega,S.nP,S.nM⟩;rcases J3 ht with h | rfl
   . exact S.free p hp hr t h
   . intro he;have he:y=p.track:=he;have h3:r.taken y=false:=by simpa using h3
     unfold Reg.taken at h3;rw [any_eq_false] at h3;have:=h3 p hp;rw [hr] at this;simp [he] at this
 | leave x=>exact ⟨fun p hp hr t ht=>S.free p hp hr t (mem_filter.1 ht).1,S.apart,S.span,S.pers,S.closed,S.speed,S.nT,S.nF,Nat.le_trans (length_filter_le _ _) S.nN,S.nP,S.nM⟩
 | take p y a b =>
   simp only at ho;split at ho
   . cases ho
   split at ho
   . cases ho
   split at ho
   . cases ho
   rename_i h3
   split at ho
   . cases ho
   rename_i h4
   split at ho
   . cases ho
   rename_i h5
   split at ho
   . cases ho
   rename_i h6
   have h4:r.manned y=false:=by simpa using h4
   have h5:r.overlaps y a b=false:=by simpa using h5
   unfold Reg.manned at h4;unfold Reg.overlaps at h5;rw [any_eq_false] at h4 h5;refine ⟨fun x hx hr t ht => ?_, ?_,fun x hx => ?_,fun x hx => ?_,fun x hx => ?_,S.speed,S.nT,S.nF,S.nN,by show (r.poss++[_]).length<=16;simp;omega,S.nM⟩
   . rcases J3 hx with h | rfl
     . exact S.free x h hr t ht
     . intro he;have he:t.track=y:=he;have:=h4 t ht;simp [he] at this
   . show (r.poss++[_]).Pairwise _;rw [pairwise_append];refine ⟨S.apart,pairwise_singleton _ _,fun q hq z hz h1 h2 h3 => ?_⟩;have hz:z=_:=mem_singleton.1 hz;subst hz;have:=h5 q hq;have h3:q.track=y:=h3;rw [h3,h1] at this;show over q.frm q.to a b=false;simpa using this
   . rcases J3 hx with h | rfl
     . exact S.span x h
     . show a < b;omega
   . rcases J3 hx with h | rfl
     . exact S.pers x h
     . exact ⟨Int.le_refl _,by show (0:Int)<=100;omega⟩
   . rcases J3 hx with h | rfl
     . exact S.closed x h
     . exact ⟨Int.le_refl _,by show (0:Int)<=8;omega,fun h=>by cases h⟩
 | prot p=>exact S.chP ⟨fun _=>rfl,fun _=>rfl,fun _=>rfl,fun _ h=>h⟩ fun y hy _=>⟨S.pers y hy,S.closed y hy⟩
 | clear p=>exact S.chP ⟨fun _=>rfl,fun _=>rfl,fun _=>rfl,fun _ h=>h⟩ fun y hy _=>⟨S.pers y hy,S.closed y hy⟩
 | into m p =>
   obtain ⟨q,hq⟩:=Jo hO (p:=p) rfl;simp only [hq] at ho;split at ho
   . cases ho
   split at ho
   . cases ho
   split at ho
   . cases ho
   split at ho
   . cases ho
   rename_i h4
   exact ⟨S.free,S.apart,S.span,S.pers,S.closed,S.speed,S.nT,S.nF,S.nN,S.nP,by show (r.machs++[_]).length<=16;simp;omega⟩
 | out m=>exact ⟨S.free,S.apart,S.span,S.pers,S.closed,S.speed,S.nT,S.nF,S.nN,S.nP,Nat.le_trans (length_filter_le _ _) S.nM⟩
 | staff p v =>
   obtain ⟨q,hq,_,h⟩:=Ub ho;refine S.chP ⟨fun _=>rfl,fun _=>rfl,fun _=>rfl,fun _ h=>h⟩ fun y hy hn => ?_
   have:=Gf I hq hy hn;subst this;have hp:=S.pers y hy;refine ⟨?_,S.closed y hy⟩;show 0<=y.pers+v/\y.pers+v<=100;split at h
   . cases h
   split at h
   . cases h
   split at h
   . cases h
   omega
 | off p v =>
   obtain ⟨q,hq,_,h⟩:=Ub ho;refine S.chP ⟨fun _=>rfl,fun _=>rfl,fun _=>rfl,fun _ h=>h⟩ fun y hy hn => ?_
   have:=Gf I hq hy hn;subst this;have hp:=S.pers y hy;refine ⟨?_,S.closed y hy⟩;show 0<=y.pers - v/\y.pers - v<=100;split at h
   . cases h
   split at h
   . cases h
   omega
 | opn p =>
   obtain ⟨q,hq,_,h⟩:=Ub ho;refine S.chP ⟨fun _=>rfl,fun _=>rfl,fun _=>rfl,fun _ h=>h⟩ fun y hy hn => ?_
   have:=Gf I hq hy hn;subst this;have hc:=S.closed y hy;split at h
   . cases h
   split at h
   . cases h
   exact ⟨S.pers y hy,hc.1,hc.2.1,fun _=>by show y.closed<=7;omega⟩
 | close p v =>
   obtain ⟨q,hq,_,h⟩:=Ub ho;refine S.chP ⟨fun _=>rfl,fun _=>rfl,fun _=>rfl,fun _ h=>h⟩ fun y hy hn => ?_
   have:=Gf I hq hy hn;subst this;have hc:=S.closed y hy;split at h
   . cases h
   split at h
   . cases h
   rename_i hop
   have hop:y.opn=true:=by simpa using hop
   have h7:=hc.2.2 hop;exact ⟨S.pers y hy,by show 0<=y.closed+1;omega,by show y.closed+1<=8;omega,fun h=>by cases h⟩
 | ret p=>exact S.chP ⟨fun _=>rfl,fun _=>rfl,fun _=>rfl,fun _ h=>(by cases h)⟩ fun y hy _=>⟨S.pers y hy,S.closed y hy⟩
 | raise p v=>exact S.chP ⟨fun _=>rfl,fun _=>rfl,fun _=>rfl,fun _ h=>h⟩ fun y hy _=>⟨S.pers y hy,S.closed y hy⟩
theorem C7:∀ {l:List TA} {r r':Reg},Inv r->Safe r->YD r l=some r'->Inv r'/\Safe r'
 | [],r,r',I,S,h=>by cases h;exact ⟨I,S⟩
 | e::l,r,r',I,S,h=>by
   obtain ⟨h1,h2⟩:=Ge h;exact C7 (Z4n I h1) (Z4p S I h1) h2
def Act.nn:Act->Prop
 | .fault _ _ _ _ v=>0<=v
 | _=>True
structure Ev where
 num:Int
 kind:Nm
 names:List Nm
 vals:List Int
 text:Nm
deriving DecidableEq,Inhabited
def Xp:Nm:=[116,114,97,99,107]
def Xc:Nm:=[102,97,117,108,116]
def YE:Nm:=[97,110,115,119,101,114]
def Yz:Nm:=[114,101,112,97,105,114]
def ZZ:Nm:=[101,110,116,101,114]
def Yb:Nm:=[108,101,97,118,101]
def Yc:Nm:=[116,97,107,101]
def Xq:Nm:=[112,114,111,116,101,99,116]
def YZ:Nm:=[99,108,101,97,114]
def kIn:Nm:=[105,110]
def Xd:Nm:=[111,117,116]
def X2:Nm:=[115,116,97,102,102]
def YT:Nm:=[111,102,102]
def YO:Nm:=[111,112,101,110]
def YF:Nm:=[99,108,111,115,101]
def Y7:Nm:=[114,101,116,117,114,110]
def XD:Nm:=[114,97,105,115,101]
def ZJ:Nm:=[117,110,100,111]
def Qy (k:Nm):Option (Nat × Nat) :=
 if k=Xp then some (1,2) else if k=Xc then some (2,4) else if k=YE then some (1,1) else if k=Yz then some (2,1) else if k=ZZ then some (2,2) else if k=Yb then some (1,1) else if k=Yc then some (2,3) else if k=Xq then some (1,1) else if k=YZ then some (1,1) else if k=kIn then some (2,1) else if k=Xd then some (1,1) else if k=X2 then some (1,2) else if k=YT then some (1,2) else if k=YO then some (1,1) else if k=YF then some (1,2) else if k=Y7 then some (1,1) else if k=XD then some (1,2) else if k=ZJ then some (0,0) else none
def XU (e:Ev):Option TA :=
 if e.kind=Xp then (match e.names,e.vals with
  | [t],[tk,v]=>some (tk,.track t v)
  | _,_=>none)
 else if e.kind=Xc then (match e.names,e.vals with
  | [f,t],[tk,a,b,v]=>some (tk,.fault f t a b v)
  | _,_=>none)
 else if e.kind=YE then (match e.names,e.vals with
  | [f],[tk]=>some (tk,.answer f)
  | _,_=>none)
 else if e.kind=Yz then (match e.names,e.vals with
  | [f,p],[tk]=>some (tk,.repair f p)
  | _,_=>none)
 else if e.kind=ZZ then (match e.names,e.vals with
  | [x,t],[tk,v]=>some (tk,.enter x t v)
  | _,_=>none)
 else if e.kind=Yb then (match e.names,e.vals with
  | [x],[tk]=>some (tk,.leave x)
  | _,_=>none)
 else if e.kind=Yc then (match e.names,e.vals with
  | [p,t],[tk,a,b]=>some (tk,.take p t a b)
  | _,_=>none)
 else if e.kind=Xq then (match e.names,e.vals with
  | [p],[tk]=>some (tk,.prot p)
  | _,_=>none)
 else if e.kind=YZ then (match e.names,e.vals with
  | [p],[tk]=>some (tk,.clear p)
  | _,_=>none)
 else if e.kind=kIn then (match e.names,e.vals with
  | [m,p],[tk]=>some (tk,.into m p)
  | _,_=>none)
 else if e.kind=Xd then (match e.names,e.vals with
  | [m],[tk]=>some (tk,.out m)
  | _,_=>none)
 else if e.kind=X2 then (match e.names,e.vals with
  | [p],[tk,v]=>some (tk,.staff p v)
  | _,_=>none)
 else if e.kind=YT then (match e.names,e.vals with
  | [p],[tk,v]=>some (tk,.off p v)
  | _,_=>none)
 else if e.kind=YO then (match e.names,e.vals with
  | [p],[tk]=>some (tk,.opn p)
  | _,_=>none)
 else if e.kind=YF then (match e.names,e.vals with
  | [p],[tk,v]=>some (tk,.close p v)
  | _,_=>none)
 else if e.kind=Y7 then (match e.names,e.vals with
  | [p],[tk]=>some (tk,.ret p)
  | _,_=>none)
 else if e.kind=XD then (match e.names,e.vals with
  | [p],[tk,v]=>some (tk,.raise p v)
  | _,_=>none)
 else none
variable (nm:Nm->Bool)
def Y1 (e:Ev):Int:=if e.num < 1\/1000 < e.num then 3 else match Qy e.kind with
 | none=>13
 | some (a,b)=>if e.names.length ≠ a\/e.vals.length ≠ b then 2 else if e.names.all nm=false then 8 else if e.vals.any (fun v=>decide (v < 0) || decide (999999999 < v))=true then 3 else if e.text ≠ [] then 1 else 0
theorem Xe {l:List α} (h:l.length=1):∃ a,l=[a]:=length_eq_one_iff.1 h
theorem J4 {l:List α} (h:l.length=2):∃ a b,l=[a,b]:=by
 match l,h with
 | [a,b],_=>exact ⟨a,b,rfl⟩
theorem len3 {l:List α} (h:l.length=3):∃ a b c,l=[a,b,c]:=by
 match l,h with
 | [a,b,c],_=>exact ⟨a,b,c,rfl⟩
theorem len4 {l:List α} (h:l.length=4):∃ a b c d,l=[a,b,c,d]:=by
 match l,h with
 | [a,b,c,d],_=>exact ⟨a,b,c,d,rfl⟩
theorem KF {e:Ev} (h:Y1 nm e=0):∃ a b,Qy e.kind=some (a,b)/\e.names.length=a/\e.vals.length=b/\(∀ x ∈ e.names,nm x=true)/\(∀ v ∈ e.vals,0<=v/\v<=999999999)/\e.text=[]/\1<=e.num/\e.num<=1000:=by
 unfold Y1 at h;split at h
 . cases h
 rename_i h1
 split at h
 . cases h
 rename_i a b hf
 split at h
 . cases h
 rename_i h2
 split at h
 . cases h
 rename_i h3
 split at h
 . cases h
 rename_i h4
 split at h
 . cases h
 rename_i h5
 have h2':e.names.length=a/\e.vals.length=b:=by
  constructor
  . exact Decidable.byContradiction fun h=>h2 (.inl h)
  . exact Decidable.byContradiction fun h=>h2 (.inr h)
 refine ⟨a,b,hf,h2'.1,h2'.2, ?_, ?_,Decidable.byContradiction h5,by omega,by omega⟩
 . simpa using h3
 . intro v hv;have h4:(e.vals.any fun v=>decide (v < 0) || decide (999999999 < v))=false:=by simpa using h4
   rw [any_eq_false] at h4;have:=h4 v hv;simp only [or_eq_true,decide_eq_true_eq] at this;omega
theorem Vj {e:Ev} (h:Y1 nm e=0):(e.kind=ZJ/\e.names=[]/\e.vals=[])\/(e.kind ≠ ZJ /\ ∃ tk a,XU e=some (tk,a)/\e.vals.head? = some tk/\a.nn):=by
 obtain ⟨a,b,hf,hn,hv,_,hr,_⟩:=KF nm h;unfold Qy at hf;by_cases hk:e.kind=Xp
 . rw [if_pos hk] at hf;obtain ⟨rfl,rfl⟩:a=1/\b=2:=by
    have:=Option.some.inj hf;exact ⟨(congrArg Prod.fst this).symm,(congrArg Prod.snd this).symm⟩
   refine .inr ⟨by rw [hk];decide, ?_⟩;obtain ⟨t,en⟩:=Xe hn;obtain ⟨tk,v,ev⟩:=J4 hv;refine ⟨tk,.track t v, ?_,by rw [ev];rfl, ?_⟩
   . obtain ⟨z,kd,l1,l2,z2⟩:=e;simp only at hk en ev;subst hk en ev;rfl
   . trivial
 rw [if_neg hk] at hf;clear hk;by_cases hk:e.kind=Xc
 . rw [if_pos hk] at hf;obtain ⟨rfl,rfl⟩:a=2/\b=4:=by
    have:=Option.some.inj hf;exact ⟨(congrArg Prod.fst this).symm,(congrArg Prod.snd this).symm⟩
   refine .inr ⟨by rw [hk];decide, ?_⟩;obtain ⟨f,t,en⟩:=J4 hn;obtain ⟨tk,a,b,v,ev⟩:=len4 hv;refine ⟨tk,.fault f t a b v, ?_,by rw [ev];rfl, ?_⟩
   . obtain ⟨z,kd,l1,l2,z2⟩:=e;simp only at hk en ev;subst hk en ev;rfl
   . exact (hr v (by rw [ev];simp)).1
 rw [if_neg hk] at hf;clear hk;by_cases hk:e.kind=YE
 . rw [if_pos hk] at hf;obtain ⟨rfl,rfl⟩:a=1/\b=1:=by
    have:=Option.some.inj hf;exact ⟨(congrArg Prod.fst this).symm,(congrArg Prod.snd this).symm⟩
   refine .inr ⟨by rw [hk];decide, ?_⟩;obtain ⟨f,en⟩:=Xe hn;obtain ⟨tk,ev⟩:=Xe hv;refine ⟨tk,.answer f, ?_,by rw [ev];rfl, ?_⟩
   . obtain ⟨z,kd,l1,l2,z2⟩:=e;simp only at hk en ev;subst hk en ev;rfl
   . trivial
 rw [if_neg hk] at hf;clear hk;by_cases hk:e.kind=Yz
 . rw [if_pos hk] at hf;obtain ⟨rfl,rfl⟩:a=2/\b=1:=by
    have:=Option.some.inj hf;exact ⟨(congrArg Prod.fst this).symm,(congrArg Prod.snd this).symm⟩
   refine .inr ⟨by rw [hk];decide, ?_⟩;obtain ⟨f,p,en⟩:=J4 hn;obtain ⟨tk,ev⟩:=Xe hv;refine ⟨tk,.repair f p, ?_,by rw [ev];rfl, ?_⟩
   . obtain ⟨z,kd,l1,l2,z2⟩:=e;simp only at hk en ev;subst hk en ev;rfl
   . trivial
 rw [if_neg hk] at hf;clear hk;by_cases hk:e.kind=ZZ
 . rw [if_pos hk] at hf;obtain ⟨rfl,rfl⟩:a=2/\b=2:=by
    have:=Option.some.inj hf;exact ⟨(congrArg Prod.fst this).symm,(congrArg Prod.snd this).symm⟩
   refine .inr ⟨by rw [hk];decide, ?_⟩;obtain ⟨x,t,en⟩:=J4 hn;obtain ⟨tk,v,ev⟩:=J4 hv;refine ⟨tk,.enter x t v, ?_,by rw [ev];rfl, ?_⟩
   . obtain ⟨z,kd,l1,l2,z2⟩:=e;simp only at hk en ev;subst hk en ev;rfl
   . trivial
 rw [if_neg hk] at hf;clear hk;by_cases hk:e.kind=Yb
 . rw [if_pos hk] at hf;obtain ⟨rfl,rfl⟩:a=1/\b=1:=by
    have:=Option.some.inj hf;exact ⟨(congrArg Prod.fst this).symm,(congrArg Prod.snd this).symm⟩
   refine .inr ⟨by rw [hk];decide, ?_⟩;obtain ⟨x,en⟩:=Xe hn;obtain ⟨tk,ev⟩:=Xe hv;refine ⟨tk,.leave x, ?_,by rw [ev];rfl, ?_⟩
   . obtain ⟨z,kd,l1,l2,z2⟩:=e;simp only at hk en ev;subst hk en ev;rfl
   . trivial
 rw [if_neg hk] at hf;clear hk;by_cases hk:e.kind=Yc
 . rw [if_pos hk] at hf;obtain ⟨rfl,rfl⟩:a=2/\b=3:=by
    have:=Option.some.inj hf;exact ⟨(congrArg Prod.fst this).symm,(congrArg Prod.snd this).symm⟩
   refine .inr ⟨by rw [hk];decide, ?_⟩;obtain ⟨p,t,en⟩:=J4 hn;obtain ⟨tk,a,b,ev⟩:=len3 hv;refine ⟨tk,.take p t a b, ?_,by rw [ev];rfl, ?_⟩
   . obtain ⟨z,kd,l1,l2,z2⟩:=e;simp only at hk en ev;subst hk en ev;rfl
   . trivial
 rw [if_neg hk] at hf;clear hk;by_cases hk:e.kind=Xq
 . rw [if_pos hk] at hf;obtain ⟨rfl,rfl⟩:a=1/\b=1:=by
    have:=Option.some.inj hf;exact ⟨(congrArg Prod.fst this).symm,(congrArg Prod.snd this).symm⟩
   refine .inr ⟨by rw [hk];decide, ?_⟩;obtain ⟨p,en⟩:=Xe hn;obtain ⟨tk,ev⟩:=Xe hv;refine ⟨tk,.prot p, ?_,by rw [ev];rfl, ?_⟩
   . obtain ⟨z,kd,l1,l2,z2⟩:=e;simp only at hk en ev;subst hk en ev;rfl
   . trivial
 rw [if_neg hk] at hf;clear hk;by_cases hk:e.kind=YZ
 . rw [if_pos hk] at hf;obtain ⟨rfl,rfl⟩:a=1/\b=1:=by
    have:=Option.some.inj hf;exact ⟨(congrArg Prod.fst this).symm,(congrArg Prod.snd this).symm⟩
   refine .inr ⟨by rw [hk];decide, ?_⟩;obtain ⟨p,en⟩:=Xe hn;obtain ⟨tk,ev⟩:=Xe hv;refine ⟨tk,.clear p, ?_,by rw [ev];rfl, ?_⟩
   . obtain ⟨z,kd,l1,l2,z2⟩:=e;simp only at hk en ev;subst hk en ev;rfl
   . trivial
 rw [if_neg hk] at hf;clear hk;by_cases hk:e.kind=kIn
 . rw [if_pos hk] at hf;obtain ⟨rfl,rfl⟩:a=2/\b=1:=by
    have:=Option.some.inj hf;exact ⟨(congrArg Prod.fst this).symm,(congrArg Prod.snd this).symm⟩
   refine .inr ⟨by rw [hk];decide, ?_⟩;obtain ⟨m,p,en⟩:=J4 hn;obtain ⟨tk,ev⟩:=Xe hv;refine ⟨tk,.into m p, ?_,by rw [ev];rfl, ?_⟩
   . obtain ⟨z,kd,l1,l2,z2⟩:=e;simp only at hk en ev;subst hk en ev;rfl
   . trivial
 rw [if_neg hk] at hf;clear hk;by_cases hk:e.kind=Xd
 . rw [if_pos hk] at hf;obtain ⟨rfl,rfl⟩:a=1/\b=1:=by
    have:=Option.some.inj hf;exact ⟨(congrArg Prod.fst this).symm,(congrArg Prod.snd this).symm⟩
   refine .inr ⟨by rw [hk];decide, ?_⟩;obtain ⟨m,en⟩:=Xe hn;obtain ⟨tk,ev⟩:=Xe hv;refine ⟨tk,.out m, ?_,by rw [ev];rfl, ?_⟩
   . obtain ⟨z,kd,l1,l2,z2⟩:=e;simp only at hk en ev;subst hk en ev;rfl
   . trivial
 rw [if_neg hk] at hf;clear hk;by_cases hk:e.kind=X2
 . rw [if_pos hk] at hf;obtain ⟨rfl,rfl⟩:a=1/\b=2:=by
    have:=Option.some.inj hf;exact ⟨(congrArg Prod.fst this).symm,(congrArg Prod.snd this).symm⟩
   refine .inr ⟨by rw [hk];decide, ?_⟩;obtain ⟨p,en⟩:=Xe hn;obtain ⟨tk,v,ev⟩:=J4 hv;refine ⟨tk,.staff p v, ?_,by rw [ev];rfl, ?_⟩
   . obtain ⟨z,kd,l1,l2,z2⟩:=e;simp only at hk en ev;subst hk en ev;rfl
   . trivial
 rw [if_neg hk] at hf;clear hk;by_cases hk:e.kind=YT
 . rw [if_pos hk] at hf;obtain ⟨rfl,rfl⟩:a=1/\b=2:=by
    have:=Option.some.inj hf;exact ⟨(congrArg Prod.fst this).symm,(congrArg Prod.snd this).symm⟩
   refine .inr ⟨by rw [hk];decide, ?_⟩;obtain ⟨p,en⟩:=Xe hn;obtain ⟨tk,v,ev⟩:=J4 hv;refine ⟨tk,.off p v, ?_,by rw [ev];rfl, ?_⟩
   . obtain ⟨z,kd,l1,l2,z2⟩:=e;simp only at hk en ev;subst hk en ev;rfl
   . trivial
 rw [if_neg hk] at hf;clear hk;by_cases hk:e.kind=YO
 . rw [if_pos hk] at hf;obtain ⟨rfl,rfl⟩:a=1/\b=1:=by
    have:=Option.some.inj hf;exact ⟨(congrArg Prod.fst this).symm,(congrArg Prod.snd this).symm⟩
   refine .inr ⟨by rw [hk];decide, ?_⟩;obtain ⟨p,en⟩:=Xe hn;obtain ⟨tk,ev⟩:=Xe hv;refine ⟨tk,.opn p, ?_,by rw [ev];rfl, ?_⟩
   . obtain ⟨z,kd,l1,l2,z2⟩:=e;simp only at hk en ev;subst hk en ev;rfl
   . trivial
 rw [if_neg hk] at hf;clear hk;by_cases hk:e.kind=YF
 . rw [if_pos hk] at hf;obtain ⟨rfl,rfl⟩:a=1/\b=2:=by
    have:=Option.some.inj hf;exact ⟨(congrArg Prod.fst this).symm,(congrArg Prod.snd this).symm⟩
   refine .inr ⟨by rw [hk];decide, ?_⟩;obtain ⟨p,en⟩:=Xe hn;obtain ⟨tk,v,ev⟩:=J4 hv;refine ⟨tk,.close p v, ?_,by rw [ev];rfl, ?_⟩
   . obtain ⟨z,kd,l1,l2,z2⟩:=e;simp only at hk en ev;subst hk en ev;rfl
   . trivial
 rw [if_neg hk] at hf;clear hk;by_cases hk:e.kind=Y7
 . rw [if_pos hk] at hf;obtain ⟨rfl,rfl⟩:a=1/\b=1:=by
    have:=Option.some.inj hf;exact ⟨(congrArg Prod.fst this).symm,(congrArg Prod.snd this).symm⟩
   refine .inr ⟨by rw [hk];decide, ?_⟩;obtain ⟨p,en⟩:=Xe hn;obtain ⟨tk,ev⟩:=Xe hv;refine ⟨tk,.ret p, ?_,by rw [ev];rfl, ?_⟩
   . obtain ⟨z,kd,l1,l2,z2⟩:=e;simp only at hk en ev;subst hk en ev;rfl
   . trivial
 rw [if_neg hk] at hf;clear hk;by_cases hk:e.kind=XD
 . rw [if_pos hk] at hf;obtain ⟨rfl,rfl⟩:a=1/\b=2:=by
    have:=Option.some.inj hf;exact ⟨(congrArg Prod.fst this).symm,(congrArg Prod.snd this).symm⟩
   refine .inr ⟨by rw [hk];decide, ?_⟩;obtain ⟨p,en⟩:=Xe hn;obtain ⟨tk,v,ev⟩:=J4 hv;refine ⟨tk,.raise p v, ?_,by rw [ev];rfl, ?_⟩
   . obtain ⟨z,kd,l1,l2,z2⟩:=e;simp only at hk en ev;subst hk en ev;rfl
   . trivial
 rw [if_neg hk] at hf;clear hk;by_cases hk:e.kind=ZJ
 . rw [if_pos hk] at hf;obtain ⟨rfl,rfl⟩:a=0/\b=0:=by
    have:=Option.some.inj hf;exact ⟨(congrArg Prod.fst this).symm,(congrArg Prod.snd this).symm⟩
   exact .inl ⟨hk,length_eq_zero_iff.1 hn,length_eq_zero_iff.1 hv⟩
 rw [if_neg hk] at hf;clear hk;cases hf
structure Jn where
 cs:List Ev
 reg:Reg
deriving DecidableEq,Inhabited
def zJn:Jn:=⟨[],ZS⟩
def doE (r:Reg) (e:Ev):Reg:=match XU e with
 | some (tk,a)=>doA r tk a
 | none=>r
def Jp (cs:List Ev):Reg:=cs.foldl doE ZS
def XV (j:Jn) (n:Nat) (e:Ev):Int:=if e.num ≠ (n:Int)+1 then 11 else if e.kind=ZJ then (match j.cs.getLast? with
    | none=>12
    | some l=>if l.kind=ZZ\/l.kind=Y7 then 21 else 0) else match XU e with
 | some (tk,a)=>okA j.reg tk a
 | none=>0
def YP (j:Jn) (e:Ev):Jn:=if e.kind=ZJ then ⟨j.cs.dropLast,Jp j.cs.dropLast⟩ else ⟨j.cs++[e],doE j.reg e⟩
def YU (j:Jn) (n:Nat) (e:Ev):Int:=if Y1 nm e ≠ 0 then Y1 nm e else XV j n e
def ZE:Jn->Nat->List Ev->Jn × Nat × Int
 | j,_,[]=>(j,0,0)
 | j,n,e::l=>if YU nm j n e ≠ 0 then (j,n+1,YU nm j n e) else ZE (YP j e) (n+1) l
def Xr (cs:List Ev):List TA:=cs.filterMap XU
structure JOk (j:Jn):Prop where
 reg:j.reg=Jp j.cs
 run:YD ZS (Xr j.cs)=some j.reg
 chk:∀ e ∈ j.cs,Y1 nm e=0/\e.kind ≠ ZJ
theorem Vk:JOk nm zJn:=⟨rfl,rfl,fun e h=>by cases h⟩
theorem Z4q (cs:List Ev) (e:Ev):Jp (cs++[e])=doE (Jp cs) e:=by
 unfold Jp;rw [foldl_append];rfl
theorem Hl {cs:List Ev} {e:Ev} {x:TA} (h:XU e=some x):Xr (cs++[e])=Xr cs++[x]:=by
 unfold Xr;rw [filterMap_append];simp [h]
theorem Ud {j:Jn} {n:Nat} {e:Ev} (J:JOk nm j) (h:YU nm j n e=0):JOk nm (YP j e):=by
 unfold YU at h;split at h
 . rename_i h1
   exact absurd h h1
 rename_i h1
 have h1:Y1 nm e=0:=Decidable.byContradiction h1;unfold XV at h;split at h
 . cases h
 rcases Vj nm h1 with ⟨hk,_⟩ | ⟨hk,tk,a,ha,_⟩
 . rw [if_pos hk] at h;unfold YP;rw [if_pos hk];have hsub:∀ e ∈ j.cs.dropLast,e ∈ j.cs:=fun e he=>dropLast_subset _ he
   refine ⟨rfl, ?_,fun e he=>J.chk e (hsub e he)⟩;cases hl:j.cs.getLast? with
   | none=>rw [hl] at h;cases h
   | some l =>
     have hne:j.cs ≠ []:=fun h0=>by rw [h0] at hl;cases hl
     have hcs:j.cs=j.cs.dropLast++[j.cs.getLast hne]:=(dropLast_concat_getLast hne).symm;have hm:j.cs.getLast hne ∈ j.cs:=getLast_mem hne;obtain ⟨hc,hu⟩:=J.chk _ hm;rcases Vj nm hc with ⟨hk',_⟩ | ⟨_,tk,a,ha,_⟩
     . exact absurd hk' hu
     have hr:=J.run;rw [hcs,Hl ha,Uc] at hr;cases hp:YD ZS (Xr j.cs.dropLast) with
     | none=>rw [hp] at hr;cases hr
     | some r' =>
       show some r'=some (Jp j.cs.dropLast);have:∀ (cs:List Ev) (r r':Reg),(∀ e ∈ cs,Y1 nm e=0/\e.kind ≠ ZJ)->YD r (Xr cs)=some r'->cs.foldl doE r=r':=fun cs=>by
        induction cs with
        | nil=>intro r r' _ h;cases h;rfl
        | cons x l ih =>
          intro r r' hx h;obtain ⟨hc,hu⟩:=hx x (by simp);rcases Vj nm hc with ⟨hk',_⟩ | ⟨_,tk,a,ha,_⟩
          . exact absurd hk' hu
          have e1:Xr (x::l)=(tk,a)::Xr l:=by
           unfold Xr;rw [filterMap_cons,ha]
          rw [e1] at h;obtain ⟨h1,h2⟩:=Ge h;have e2:doE r x=doA r tk a:=by unfold doE;rw [ha]
          rw [foldl_cons,e2];exact ih _ _ (fun e he=>hx e (by simp [he])) h2
       unfold Jp;rw [this _ _ _ (fun e he=>J.chk e (hsub e he)) hp]
 . rw [if_neg hk,ha] at h;have h:okA j.reg tk a=0:=h;have e2:doE j.reg e=doA j.reg tk a:=by unfold doE;rw [ha]
   unfold YP;rw [if_neg hk];refine ⟨?_, ?_,fun x hx => ?_⟩
   . show doE j.reg e=Jp (j.cs++[e]);rw [Z4q,<- J.reg]
   . show YD ZS (Xr (j.cs++[e]))=some (doE j.reg e);rw [Hl ha,Uc,J.run];show YD j.reg [(tk,a)]=_;rw [run_ok h,e2];rfl
   . rcases J3 hx with hx | rfl
     . exact J.chk x hx
     . exact ⟨h1,hk⟩
theorem Ue:∀ {l:List Ev} {j:Jn} {n:Nat},JOk nm j->JOk nm (ZE nm j n l).1
 | [],j,n,J=>J
 | e::l,j,n,J=>by
   unfold ZE;split
   . exact J
   . rename_i h
     exact Ue (Ud nm J (Decidable.byContradiction h))
theorem Gg {j:Jn} (J:JOk nm j):Inv j.reg/\Safe j.reg:=C7 Hh Hi J.run
end Go.Sim.Pos

namespace Go.Sim.Pos
def dig7 (x:Nat):List Nat:=[48+x / 1000000 % 10,48+x / 100000 % 10,48+x / 10000 % 10,48+x / 1000 % 10,48+x / 100 % 10,48+x / 10 % 10,48+x % 10]
variable (nm:Nm->Bool)
def Hm (e:Ev):Int:=e.vals.head?.getD 0
theorem Z4r {e:Ev} (h1:Y1 nm e=0) (h2:e.kind ≠ ZJ):∃ a,XU e=some (Hm e,a):=by
 rcases Vj nm h1 with ⟨hk,_⟩ | ⟨_,tk,a,ha,hh,_⟩
 . exact absurd hk h2
 . refine ⟨a, ?_⟩;unfold Hm;rw [hh];exact ha
def YQ (r:Reg):List Ev->List Reg
 | []=>[r]
 | e::l=>r::YQ (doE r e) l
theorem C8:∀ (l:List Ev) (r:Reg),(YQ r l).length=l.length+1
 | [],_=>rfl
 | e::l,r=>by
   show (YQ (doE r e) l).length+1=_;rw [C8 l];rfl
theorem C9:∀ (l:List Ev) (r:Reg) (i:Nat),i<=l.length->(YQ r l)[i]? = some ((l.take i).foldl doE r)
 | [],r,i,h=>by
   have:i=0:=by simpa using h
   subst this;rfl
 | e::l,r,0,_=>rfl
 | e::l,r,i+1,h=>by
   show (YQ (doE r e) l)[i]? = _;rw [C9 l (doE r e) i (by simpa using h)];rfl
theorem Z4s (l:List Ev) (e:Ev):∀ r:Reg,YQ r (l++[e])=YQ r l++[doE (l.foldl doE r) e]:=by
 induction l with
 | nil=>intro r;rfl
 | cons x l ih =>
   intro r;show r::YQ (doE r x) (l++[e])=_;rw [ih (doE r x)];rfl
theorem Z4t (l:List Ev) (r:Reg):YQ r l.dropLast=(YQ r l).take ((l.length - 1)+1):=by
 induction l generalizing r with
 | nil=>rfl
 | cons x l ih =>
   cases l with
   | nil=>rfl
   | cons y m =>
     show r::YQ (doE r x) (y::m).dropLast=_;rw [ih (doE r x)];rfl
end Go.Sim.Pos

namespace Go.Sim.Pos
def Yr {α:Type} (nm:α->Nm) (x:Nm):List α->Option Nat
 | []=>none
 | a::l=>if nm a=x then some 0 else (Yr nm x l).map (· + 1)
theorem Gi {α:Type} {nm:α->Nm} {x:Nm}:∀ {l:List α} {i:Nat},Yr nm x l=some i -> ∃ y,l[i]? = some y/\nm y=x/\(l.find? fun z=>decide (nm z=x))=some y/\i < l.length
 | [],i,h=>by cases h
 | a::l,i,h=>by
   unfold Yr at h;by_cases ha:nm a=x
   . rw [if_pos ha] at h;cases h;exact ⟨a,rfl,ha,by rw [find?_cons];simp [ha],by simp⟩
   . rw [if_neg ha] at h;cases hi:Yr nm x l with
     | none=>rw [hi] at h;cases h
     | some k =>
       rw [hi] at h;have h:i=k+1:=(Option.some.inj h).symm;subst h;obtain ⟨y,h1,h2,h3,h4⟩:=Gi hi;exact ⟨y,by simpa using h1,h2,by rw [find?_cons];simp [ha,h3],by simp;omega⟩
theorem Hn {α:Type} {nm:α->Nm} {x:Nm}:∀ {l:List α},Yr nm x l=none->(l.find? fun z=>decide (nm z=x))=none
 | [],_=>rfl
 | a::l,h=>by
   unfold Yr at h;by_cases ha:nm a=x
   . rw [if_pos ha] at h;cases h
   . rw [if_neg ha] at h;cases hi:Yr nm x l with
     | none=>rw [find?_cons];simp [ha,Hn hi]
     | some k=>rw [hi] at h;cases h
theorem Ca {nm:α->Nm} {x:Nm} {l:List α} {y:α} (h:(l.find? fun z=>decide (nm z=x))=some y):∃ i,Yr nm x l=some i/\l[i]? = some y/\i < l.length:=by
 cases hi:Yr nm x l with
 | none=>rw [Hn hi] at h;cases h
 | some i =>
   obtain ⟨z,h1,_,h3,h4⟩:=Gi hi;rw [h] at h3;cases h3;exact ⟨i,rfl,h1,h4⟩
theorem Qz {α:Type} {nm:α->Nm} {g:α->α}:∀ {l:List α} {i:Nat} {y:α},Zw nm l->l[i]? = some y->l.set i (g y)=l.map fun z=>if nm z=nm y then g z else z
 | [],i,y,_,h=>by simp at h
 | a::l,0,y,u,h=>by
   have h:a=y:=by simpa using h
   subst h;unfold Zw at u;rw [map_cons,nodup_cons] at u;rw [set_cons_zero,map_cons,if_pos rfl]
   congr 1
   refine (Hd fun z hz => ?_).symm;rw [if_neg];intro he;exact u.1 (he ▸ mem_map_of_mem hz)
 | a::l,i+1,y,u,h=>by
   have h:l[i]? = some y:=by simpa using h
   have hm:=mem_of_getElem? h;unfold Zw at u;rw [map_cons,nodup_cons] at u;rw [set_cons_succ,map_cons,if_neg,Qz (nm:=nm) u.2 h];intro he;exact u.1 (he ▸ mem_map_of_mem hm)
theorem Cb {α:Type} {nm:α->Nm}:∀ {l:List α} {i:Nat} {y:α},Zw nm l->l[i]? = some y->l.take i++l.drop (i+1)=l.filter fun z=>decide (nm z ≠ nm y)
 | [],i,y,_,h=>by simp at h
 | a::l,0,y,u,h=>by
   have h:a=y:=by simpa using h
   subst h;unfold Zw at u;rw [map_cons,nodup_cons] at u;rw [filter_cons,if_neg (by simp)];show l=_;refine (filter_eq_self.2 fun z hz => ?_).symm;simp only [decide_eq_true_eq];intro he;exact u.1 (he ▸ mem_map_of_mem hz)
 | a::l,i+1,y,u,h=>by
   have h:l[i]? = some y:=by simpa using h
   have hm:=mem_of_getElem? h;unfold Zw at u;rw [map_cons,nodup_cons] at u;have hne:nm a ≠ nm y:=fun he=>u.1 (he ▸ mem_map_of_mem hm)
   rw [filter_cons,if_pos (by simpa using hne),<- Cb (nm:=nm) u.2 h];rfl
end Go.Sim.Pos

namespace Go.Sim.Pos
open Go.Sim
def Z4u:Nm:=[115,112,101,101,100]
def Z4v:Nm:=[116,114,97,105,110,115]
def Z4w:Nm:=[98,97,114,114,105,101,114]
def Z4x:Nm:=[112,101,114,115,111,110,115]
def Z4y:Nm:=[115,105,108,101,110,116]
def Z4z:Nm:=[116,97,107,101,110]
def Z4A:Nm:=[109,97,99,104,105,110,101,115]
def Uf:Nm:=[115,116,97,102,102]
def KG:Nm:=[109,101,97,115,117,114,101,109,101,110,116]
def J5:Nm:=[112,114,111,116,101,99,116,105,111,110]
def Xf (r:Reg) (p:Pos):List Nm:=(r.within p.name).map (·.name)++((if 0 < p.pers then [Uf] else [])++((if p.opn=true then [KG] else [])++(if p.prot=true then [J5] else [])))
end Go.Sim.Pos

namespace Go.Sim.Pos
variable (nm:Nm->Bool)
def Act.fresh:Act->Option Nm
 | .track t _=>some t
 | .fault f _ _ _ _=>some f
 | .enter x _ _=>some x
 | .take p _ _ _=>some p
 | .into m _=>some m
 | _=>none
theorem Z4B {e:Ev} (h:Y1 nm e=0) {a:Act} (ha:XU e=some (tk,a)):0<=tk/\tk<=999999999/\(∀ x,a.fresh=some x->nm x=true)/\a.nn:=by
 obtain ⟨_,_,_,_,_,hnm,hv,_⟩:=KF nm h;rcases Vj nm h with ⟨hk,hn,_⟩ | ⟨_,tk',a',ha',hh,hnn⟩
 . unfold XU at ha;rw [hk] at ha;rw [if_neg (by decide),if_neg (by decide),if_neg (by decide),if_neg (by decide),if_neg (by decide),if_neg (by decide),if_neg (by decide),if_neg (by decide),if_neg (by decide),if_neg (by decide),if_neg (by decide),if_neg (by decide),if_neg (by decide),if_neg (by decide),if_neg (by decide),if_neg (by decide),if_neg (by decide)] at ha;cases ha
 . rw [ha'] at ha;cases ha;have htm:tk ∈ e.vals:=mem_of_head? hh;have ht:=hv tk htm;refine ⟨ht.1,ht.2,fun x hx => ?_,hnn⟩;have key:e.names.head? = some x:=by
    clear htm ht hnn hh h hv hnm;unfold XU at ha';have go:∀ {p:Prop} [Decidable p] {u v:Option TA},(if p then u else v)=some (tk,a)->u=some (tk,a)\/v=some (tk,a):=fun {p} _ {u v} h=>by
     split at h
     . exact .inl h
     . exact .inr h
    iterate 17
     rcases go ha' with hu | ha'
     . split at hu
       . rename_i e1 e2
         cases hu
         first
          | (cases hx;done)
          | (have:=Option.some.inj hx
             subst this;rw [e1];rfl)
       . cases hu
    cases ha'
   exact hnm x (mem_of_head? key)
end Go.Sim.Pos

namespace Go.Sim.Pos
open Go.Sim
def Len (sz:Nat) (rows:List (List AV)):Prop:=∀ r ∈ rows,r.length=sz
theorem Zl {sz:Nat}:∀ {rows:List (List AV)},Len sz rows->rows.flatten.length=rows.length * sz
 | [],_=>by simp
 | r::l,h=>by
   have ih:=Zl (rows:=l) fun x hx=>h x (by simp [hx])
   rw [flatten_cons,length_append,ih,h r (by simp),length_cons,succ_mul];omega
theorem ZM {sz:Nat}:∀ {rows:List (List AV)} (i:Nat),Len sz rows->rows.flatten.drop (i * sz)=(rows.drop i).flatten
 | [],i,_=>by simp
 | r::l,0,_=>by simp
 | r::l,i+1,h=>by
   have ih:=ZM (rows:=l) i fun x hx=>h x (by simp [hx])
   have hr:=h r (by simp);rw [drop_succ_cons,<- ih,flatten_cons,succ_mul,add_comm,<- hr,<- drop_drop];rw [drop_left]
theorem ZT {sz:Nat}:∀ {rows:List (List AV)} (i:Nat),Len sz rows->rows.flatten.take (i * sz)=(rows.take i).flatten
 | [],i,_=>by simp
 | r::l,0,_=>by simp
 | r::l,i+1,h=>by
   have ih:=ZT (rows:=l) i fun x hx=>h x (by simp [hx])
   have hr:=h r (by simp);rw [take_succ_cons,flatten_cons,flatten_cons,<- ih,take_append,succ_mul,hr];have h1:r.take (i * sz+sz)=r:=take_of_length_le (by omega);rw [h1,add_sub_cancel]
theorem Zx (h:Len sz rows) (hi:rows[i]? = some r):ZW rows.flatten (i * sz) sz=some r:=by
 obtain ⟨hlt,he⟩:=List.getElem?_eq_some_iff.1 hi;have hr:=h r (mem_of_getElem? hi);unfold ZW;rw [Zl h,if_pos,ZM i h,drop_eq_getElem_cons hlt,he,flatten_cons]
 . rw [take_append_of_le_length (by omega),take_of_length_le (by omega)]
 . have:(i+1) * sz<=rows.length * sz:=mul_le_mul_right _ hlt;rw [succ_mul] at this;exact this
theorem Xg (h:Len sz rows) (hi:rows[i]? = some r) (hk:r[k]? = some v):ZW rows.flatten (i * sz+k) 1=some [v]:=by
 obtain ⟨hlt,he⟩:=List.getElem?_eq_some_iff.1 hi;obtain ⟨hkl,hke⟩:=List.getElem?_eq_some_iff.1 hk;have hr:=h r (mem_of_getElem? hi);have hm:(i+1) * sz<=rows.length * sz:=mul_le_mul_right _ hlt;rw [succ_mul] at hm;unfold ZW;rw [Zl h,if_pos (by omega),<- drop_drop,ZM i h,drop_eq_getElem_cons hlt,he,flatten_cons,drop_append_of_le_length (by omega),drop_eq_getElem_cons hkl,hke];rfl
theorem Yt (h:Len sz rows) (hi:rows[i]? = some r) (hk:k < sz):Go.Sim.over rows.flatten (i * sz+k) [v]=(rows.set i (r.set k v)).flatten:=by
 obtain ⟨hlt,he⟩:=List.getElem?_eq_some_iff.1 hi;have hr:=h r (mem_of_getElem? hi);have e1:rows=rows.take i++r::rows.drop (i+1):=by
  rw [<- he,<- drop_eq_getElem_cons hlt,take_append_drop]
 have e2:rows.set i (r.set k v)=rows.take i++r.set k v::rows.drop (i+1):=by
  rw [set_eq_take_append_cons_drop,if_pos hlt]
 have hp:(rows.take i).flatten.length=i * sz:=by
  rw [Zl (sz:=sz) (fun x hx=>h x (mem_of_mem_take hx)),length_take]
  congr 1;omega
 have e3:rows.flatten=(rows.take i).flatten++(r++(rows.drop (i+1)).flatten):=by
  conv=>lhs;rw [e1]
  rw [flatten_append,flatten_cons]
 rw [e2,e3,flatten_append,flatten_cons];unfold Go.Sim.over;rw [<- hp,take_length_add_append,take_append_of_le_length (by omega)];have:(rows.take i).flatten.length+k+[v].length=(rows.take i).flatten.length+(k+1):=by simp;omega
 rw [this,drop_length_add_append,drop_append_of_le_length (by omega),set_eq_take_append_cons_drop,if_pos (by omega)];simp
def SV (sz:Nat) (te:TypeId) (H:Heap) (v:AV) (rows:List (List AV)):Prop:=(rows=[]/\v=.ps .nil []) \/ ∃ id cs m,v=.rs id 0 rows.length sz none/\id < H.n/\H.get id=.row (rows.flatten++cs) sz te/\cs.length=m * sz
theorem SV.keep {te:TypeId} (h:SV sz te H v rows) (hn:H.n<=H'.n) (hg:∀ i,i < H.n->v=.rs i 0 rows.length sz none->H'.get i=H.get i):SV sz te H' v rows:=by
 rcases h with h | ⟨id,cs,m,h1,h2,h3,h4⟩
 . exact .inl h
 . exact .inr ⟨id,cs,m,h1,by omega,by rw [hg id h2 h1];exact h3,h4⟩
theorem Ho {A B:List AV}:Go.Sim.over (A++B) A.length r=(A++r)++B.drop r.length:=by
 unfold Go.Sim.over;rw [take_left' rfl,drop_length_add_append]
end Go.Sim.Pos

namespace Go.Sim
open Go.Sim.Pos (Nm Trk Flt Trn Pos Mch Reg Ev)
abbrev i64 (n:Int):AV:=.int .i64 n
def Z0 (l:List Nm):List (List AV):=l.map fun x=>[.str x]
def Z3 (l:List Int):List (List AV):=l.map fun x=>[i64 x]
end Go.Sim
namespace Go.Sim.Pos
open Go.Sim
def Trk.row (x:Trk):List AV:=[.str x.name,i64 x.speed]
def Flt.row (x:Flt):List AV:=[.str x.name,.str x.track,i64 x.frm,i64 x.to,i64 x.speed,.bool x.ans,.bool x.rep]
def Trn.row (x:Trn):List AV:=[.str x.name,.str x.track,i64 x.speed]
def Pos.row (x:Pos):List AV:=[.str x.name,.str x.track,i64 x.frm,i64 x.to,.bool x.ret,.bool x.prot,.bool x.opn,i64 x.closed,i64 x.pers,i64 x.speed]
def Mch.row (x:Mch):List AV:=[.str x.name,.str x.poss]
def Ev.row (e:Ev):List AV:=[i64 e.num,.str e.kind,.ps .unk (Z0 e.names),.ps .unk (Z3 e.vals),.str e.text]
theorem Trk.row_inj (a b:Trk):(a.row=b.row)=(a=b):=by
 cases a;cases b;simp [Trk.row]
theorem Flt.row_inj (a b:Flt):(a.row=b.row)=(a=b):=by
 cases a;cases b;simp [Flt.row]
theorem Trn.row_inj (a b:Trn):(a.row=b.row)=(a=b):=by
 cases a;cases b;simp [Trn.row]
theorem Pos.row_inj (a b:Pos):(a.row=b.row)=(a=b):=by
 cases a;cases b;simp [Pos.row]
theorem Mch.row_inj (a b:Mch):(a.row=b.row)=(a=b):=by
 cases a;cases b;simp [Mch.row]
end Go.Sim.Pos
namespace Go.Sim
open Go.Sim.Pos (Nm Trk Flt Trn Pos Mch Reg Ev)
open Classical in
noncomputable def ZG {α:Type} (enc:α->List AV) (pre:α->Prop) (spec:α->AV):List AV->Option AV:=fun args =>
 if h:∃ x,enc x=args/\pre x then some (spec h.choose) else none
theorem ZL {enc:α->List AV} {pre:α->Prop} {spec:α->AV} {args:List AV} (h:ZG enc pre spec args=some v):∃ x,args=enc x/\pre x/\v=spec x:=by
 unfold ZG at h;split at h
 . rename_i hx
   simp at h;exact ⟨hx.choose,hx.choose_spec.1.symm,hx.choose_spec.2,h.symm⟩
 . cases h
theorem ZN {enc:α->List AV} {pre:α->Prop} {spec:α->AV} (hi:∀ x y,enc x=enc y->x=y) (x:α) (hp:pre x):ZG enc pre spec (enc x)=some (spec x):=by
 unfold ZG;have hx:∃ y,enc y=enc x/\pre y:=⟨x,rfl,hp⟩;rw [dif_pos hx];rw [hi _ _ hx.choose_spec.1]
def Zc:List Int->Int
 | []=>0
 | e::r=>if e=0 then Zc r else e
theorem Z4C (P:PF):(NC.withPrims P).P=NC.P:=rfl
theorem frzP (P:PF) (f:FuncId) (t:TypeId):(NC.withPrims P).frz f t=false:=Eq.trans rfl rfl
theorem litP (P:PF) (f:FuncId) (t:TypeId):(NC.withPrims P).lit f t=false:=Eq.trans rfl rfl
def Z5 (b:Bool) (e:Int):Int:=if b then e else 0
theorem Jq {α β:Type} {f:α->β} (h:∀ a b,f a=f b->a=b):∀ {l m:List α},l.map f=m.map f->l=m
 | [],[],_=>rfl
 | [],_::_,e=>by simp at e
 | _::_,[],e=>by simp at e
 | a::l,b::m,e=>by
   simp only [map_cons,List.cons.injEq] at e;rw [h a b e.1,Jq h e.2]
theorem KH (a b:List Nm):(Z0 a=Z0 b)=(a=b):=by
 simp only [eq_iff_iff];exact ⟨fun h=>Jq (fun x y h=>by simpa using h) h,fun h=>by rw [h]⟩
theorem KI (a b:List Int):(Z3 a=Z3 b)=(a=b):=by
 simp only [eq_iff_iff];exact ⟨fun h=>Jq (fun x y h=>by simpa using h) h,fun h=>by rw [h]⟩
theorem Pos.Ev.row_inj (a b:Ev):(a.row=b.row)=(a=b):=by
 cases a;cases b;simp [Pos.Ev.row,KH,KI]
theorem Zv (l:List Nm):(Z0 l).length=l.length:=by simp [Z0]
theorem Yo (l:List Int):(Z3 l).length=l.length:=by simp [Z3]
theorem JK {l:List Nm} {x:Nm} (h:l[i]? = some x):(Z0 l)[i]? = some [.str x]:=by
 unfold Z0;rw [getElem?_map,h];rfl
theorem Gj {x:Int} (h:l[i]? = some x):(Z3 l)[i]? = some [i64 x]:=by
 unfold Z3;rw [getElem?_map,h];rfl
theorem Jr (l:List Nm):(Z0 l).all (fun r=>decide (r.length=1))=true:=by
 unfold Z0;rw [all_map];simp
theorem Hp (l:List Int):(Z3 l).all (fun r=>decide (r.length=1))=true:=by
 unfold Z3;rw [all_map];simp
theorem Vl {l:List α} {x:α} (h:l[k]? = some x):l.drop k=x::l.drop (k+1):=by
 have hlt:=(List.getElem?_eq_some_iff.1 h).1;rw [drop_eq_getElem_cons hlt,(List.getElem?_eq_some_iff.1 h).2]
theorem Zy {f:α->β} {l:List α} {x:α} (h:l[k]? = some x):(l.map f)[k]? = some (f x):=by simp [h]
theorem Hr {f:α->β} {l:List α} {x:α} (h:l[k]? = some x):(l.take (k+1)).map f=(l.take k).map f++[f x]:=by
 rw [take_add_one,h];simp
theorem Ql {f:α->List AV} (hf:∀ x,(f x).length=sz) (l:List α):(l.map f).all (fun r=>decide (r.length=sz))=true:=by
 rw [all_eq_true];intro r hr;obtain ⟨x,_,rfl⟩:=mem_map.1 hr;simp [hf x]
end Go.Sim

namespace Go.Sim
attribute [go_sem ↓] W_seq Ns Nt Nu Ow Bq Br Bs Bt Bu Bv Ox
attribute [go_sem ↓] Vc Nf No W_ret Nh Ni Nj Nk Np Nq Nr Nl
attribute [go_sem ↓] Nn Nb Nc Nd G4 Nw NE Bh Nv NH NI NL
attribute [go_sem ↓] NJ NK NM NN Bi Bj NO op_un NU NV
attribute [go_sem ↓] NW NX NY Bk Bl NZ O4 O5 O0 Bm O7 Ft
attribute [go_sem ↓] P0 Bn O8 Pt Ps Pr Pk Po Pp Nx Ny
attribute [go_sem ↓] Nz NA NB
attribute [go_sem] OW Pb Pc P4 P5 P6 P7 Pu Pz Pv Pw
attribute [go_sem] Px Py P1 P2 P3 P8 P9 Pd Pe Pf any_cons
attribute [go_sem] any_nil contains_cons contains_nil not_eq_true' OX OY Oy Oz OA OB OC
attribute [go_sem] G9 OD OE OF OG OH OI OJ OM ON OP OK
attribute [go_sem] OL OV OQ OR OS OT OU Ko KX isSome_some YK Qc
attribute [go_sem] NF NG frzP litP Z4C NP NQ NR NS NT VE VF
attribute [go_sem] Pi Pj Pm Pn Pq O6 O9 Ob Oc Oa Od Oe
attribute [go_sem] Of Og Oh VH Heap.get_set Heap.get_push Qx JY lt_add_one add_zero zero_add false_eq_true
attribute [go_sem] if_true if_false ite_true ite_false and_true true_and and_self Yl YB Xw ZW QS
attribute [go_sem] YJ Kl Ov X5 ibin Oi U1 length_cons length_nil drop_succ_cons drop_zero drop_nil
attribute [go_sem] take_succ_cons take_zero take_nil getElem?_cons_zero getElem?_cons_succ JE Qb Km XG U2 Ot Ou
attribute [go_sem] decide_true decide_false AV.cells AV.one all_cons all_nil Bool.and_true Bool.true_and Bool.and_self Q9 Q8 over
attribute [go_sem] append_nil nil_append cons_append map_cons map_nil cond_true cond_false beq_refl not_true_eq_false not_false_eq_true i64 Ky
attribute [go_sem] Or Ol Om On Bp Oo Oq AV.strip AV.strip0 AV.stripN AV.fullN Tok.full
attribute [go_sem] Cls.chain or_true true_or Bool.not_true Bool.not_false Bool.or_true Bool.or_false Bool.true_or Bool.false_or Bool.and_false Bool.false_and ofNat_lt
attribute [go_sem] cast0 eq_self length_map Fv Fw PB PC PD PE
attribute [go_sem] PG PH
attribute [go_sem] PI Fz BC zero_le Nat.le_refl By
attribute [go_sem] XZ
attribute [go_sem] nilA nilN oD oL oR oF oW Re fa_pp Rc Rd un_22
attribute [go_sem] un_3 un_9 ze_34 sz_34 ag_34 un_5 un_4 el_51 sz_3 ze_3 un_51 ze_49
attribute [go_sem] sz_53 ag_53 ze_53 sz_49 sz_46 ag_46 un_46 sz_44 ag_44 un_44 sz_45 ag_45
attribute [go_sem] un_45 sz_59 ag_59 Vg sz_4 ag_4 sz_61 ag_61 Vh sz_9 ag_9 ag_3
attribute [go_sem] sz_43 ag_43 un_43 sz_63 ag_63 C4 sz_50 ag_50 un_50 sz_51 ag_51 sz_65
attribute [go_sem] ag_65 Vi sz_47 ag_47 un_47 sz_67 ag_67 K9 ag_49 C5 sz_73 sz_31
attribute [go_sem] ag_31 un_31 sz_76 ag_76 ze_76 un_73 ag_73 el_22 by_53 bs_53
attribute [go_sem] sz_28 ag_28 un_28 Rg Rh el_28 bs_34
attribute [go_sem] Ri Rj Rk Rl Rm Rn sz_29 ag_29 un_29 Ro Rp Rq
attribute [go_sem] el_29 Rr sz_30 ag_30 un_30 Rs Rt el_30 Ru el_31 by_76
attribute [go_sem] sz_32 ag_32 un_32 Rv Rw ze_4 el_32 Rx
attribute [go_sem] sz_22 ag_22 el_50 ze_9
attribute [go_sem] ze_57 bs_57 Ry Rz
attribute [go_sem] sz_57 ag_57
attribute [go_sem] C6 Z00 Z01
attribute [go_sem] by_9 un_25 Z02 sz_25 ze_25 Z03 Z04 Z05
attribute [go_sem] H9 Z06 Z07 Z08
attribute [go_sem] ag_25 Z09 Z0a Z0b Z0c Z0d Z0e Z0f Z0g
attribute [go_sem] Z0h Z0i Z0j by_34 Z0k Z0l Z0m Z0n Z0o Z0p Z0q
attribute [go_sem] Z0r Z0s Z0t by_25 un_21
attribute [go_sem] bs_63 Z0u Z0v el_43 by_63 bs_65
attribute [go_sem] Z0w Z0x Z0y Z0z Z0A Z0B el_44 by_65 bs_61 Z0C Z0D Z0E
attribute [go_sem] el_45 by_61 bs_59 Z0F Z0G Z0H Z0I Z0J Z0K Z0L Z0M Z0N
attribute [go_sem] el_46 by_59 bs_67 Z0O Z0P el_47 by_67
attribute [go_sem] Z0Q Z0R
attribute [go_sem] Z0S Z0T Z0U Z0V Z0W Z0X Z0Y Z0Z Z10 Z11 Z12 Z13
attribute [go_sem] Z14 Z15 Z16 Z17 Z18 Z19 bs_76 Z1a Z1b Z1c Z1d Z1e
attribute [go_sem] Z1f Z1g Z1h Z1i Z1j Z1k Z1l
attribute [go_sem] Z1m Z1n Z1o Z1p Z1q Z1r Z1s Z1t Z1u Z1v
attribute [go_sem] Z1w Z1x Z1y Z1z Z1A Z1B Z1C Z1D Z1E Z1F Z1G Z1H
attribute [go_sem] Z1I Z1J Z1K Z1L Z1M Z1N Z1O Z1P Z1Q Z1R Z1S Z1T
attribute [go_sem] Z1U Z1V Z1W Z1X Z1Y Z1Z Z20 Z21 Z22 Z23 Z24 Z25
attribute [go_sem] Z26 Z27 Z28 Z29 Z2a Z2b Z2c Z2d Z2e
attribute [go_sem] Z2f Z2g Z2h Z2i Z2j Z2k Z2l Z2m Z2n Z2o Z2p
attribute [go_sem] Z2q Z2r
attribute [go_sem] Z2s Z2t Z2u Z2v
attribute [go_sem] Z2w
attribute [go_sem] FD Z2x
attribute [go_sem] BS BT
attribute [go_sem] FE Z2y BU BV
attribute [go_sem] BW BX BY BZ FF Z2z
attribute [go_sem] E0
attribute [go_sem] FG Z2A FH Z2B
attribute [go_sem] FI Z2C E1 E2 FJ Z2D FK Z2E
attribute [go_sem] FM Z2F FN Z2G FO Z2H
attribute [go_sem] E3 FP Z2I E4 E5
attribute [go_sem] E6 E7 E8
attribute [go_sem] E9 FQ Z2J FR Z2K FT Z2L FU Z2M FV Z2N
attribute [go_sem] FW Z2O FX Z2P FY Z2Q FZ Z2R D0 Z2S D1 Z2T
attribute [go_sem] D2 Z2U D3 Z2V D4 Z2W D5 Z2X D6 Z2Y
attribute [go_sem] D7 Z2Z D8 Z30 D9 Z31 Da Z32 Db Z33 Dc Z34
attribute [go_sem] Dd Z35 De Z36 Df Z37 Dg Z38 Dh Z39 Di Z3a
attribute [go_sem] Dj Z3b Dk Z3c Dl Z3d Dm Z3e Do Z3f Dp Z3g
attribute [go_sem] Dq Z3h Dr Z3i Ds Z3j Dt Z3k Du Z3l Dv Z3m
attribute [go_sem] Dw Z3n Dx Z3o Ea Eb Ec Ed
attribute [go_sem] Dy Z3p Dz Z3q Ee
attribute [go_sem] DA Z3r DB Z3s DC Z3t DD Z3u DE Z3v DF Z3w
attribute [go_sem] DG Z3x DH Z3y DI Z3z DJ Z3A DK Z3B DL Z3C
attribute [go_sem] DM Z3D DN Z3E DO Z3F DP Z3G DQ Z3H DR Z3I
attribute [go_sem] DS Z3J DT Z3K DU Z3L DV Z3M DW Z3N DX Z3O
attribute [go_sem] DY Z3P DZ Z3Q C0 Z3R C1 Z3S C3 Z3T Ef
attribute [go_sem] Eg Eh Ei Ej Ek El
attribute [go_sem] Em Eo Ep Er Es Et
attribute [go_sem] Eu Ew Ex Ey Ez EA
attribute [go_sem] EB EC ED EF EG EH
attribute [go_sem] EI EJ EK EL EM EN
attribute [go_sem] EO EP EQ ER ES ET
attribute [go_sem] EU EV EW EX EY
attribute [go_sem] rf_28 rf_29
attribute [go_sem] rf_78 rf_81 rf_85 Z3U
attribute [go_sem] Z3V Z3W Z3X Z3Y Z3Z Z40 Z41 Z42 Z43
attribute [go_sem] Z44 Z45 Z46 Z47 Z48
attribute [go_sem] Z49 Z4a Z4b Z4c Z4d Z4e Z4f Z4g
attribute [go_sem] Z4h Z4i Z4j
attribute [go_sem] ks_54 ks_55 ks_58 ks_59 ks_60 ks_61 ks_62 ks_63 ks_64
attribute [go_sem] ks_65 ks_66 ks_67 ks_68 ks_69 ks_70 ks_71 ks_72 ks_73 ks_74 ks_75 ks_76
attribute [go_sem] ks_77 ks_83 ks_84 ks_85 ks_86 ks_87 ks_88
attribute [go_sem] ks_89 ks_90 ks_91 ks_92 ks_93 ks_94 ks_95 ks_96 ks_97 Z4k
def nilO (v:AV) (K:AV->Prop) (_t:Tag K:=⟨⟩):Prop:=match v with
 | .ptr id off=>K (.ptr id off)
 | .pptr cs=>K (.pptr cs)
 | .fn f a b=>K (.fn f a b)
 | .yld l=>K (.yld l)
 | _=>False
theorem Z4D (cs:List AV) (K:AV->Prop):nilO (.pptr cs) K=K (.pptr cs):=rfl
theorem Z4E (id off:Nat) (K:AV->Prop):nilO (.ptr id off) K=K (.ptr id off):=rfl
theorem Z4F {K:AV->Heap->Prop} {d:Option Tmp} {p:String} {af:Array Edge} {gd:Option (Nat × Bool)} (x:Operand):VO (aop C rec fid lo ⟨d,.nilCheck x,t,p,af,gd⟩ T H) K=AO (Z4 C T x) fun v=>nilO v fun v=>K v H:=by
 simp only [aop];cases Z4 C T x with
 | none=>rfl
 | some v=>cases v<;>rfl
theorem Z4G:Z4 C T (.const .nilIface)=some .nili:=rfl
attribute [go_sem ↓] Z4F Z4E Z4D
theorem Z4H:Z4 C T (.const (.pointer none))=some .nilp:=rfl
theorem Z4I:Z4 C T (.const (.map none))=some .nilm:=rfl
attribute [go_sem] Z4G Z4H Z4I OZ
theorem Z4J (t:Tok) (rows:List (List AV)):AV.strip0 (.ps t rows)=.ps .unk rows:=rfl
attribute [go_sem] Z4J
def ZB (b:Nat) (H:Heap) (t:Tok) (rows:List (List AV)) (sz:Nat) (e:TypeId):Prop:=(t=.nil/\rows=[]) \/ ∃ j,t=.tok j/\rows ≠ []/\b<=j/\j < H.n/\H.get j=.row [] sz e
def Old (b:Nat) (H H':Heap):Prop:=b<=H'.n /\ ∀ i,i < b->H'.get i=H.get i
theorem Old.refl (H:Heap):Old H.n H H:=⟨Nat.le_refl _,fun _ _=>rfl⟩
theorem Old.push (h:Old b H H') (x:ABlk):Old b H (H'.push x):=⟨by simp;have:=h.1;omega,fun i hi=>by rw [Heap.get_push,if_neg (by have:=h.1;omega)];exact h.2 i hi⟩
theorem Old.set (h:Old b H H') {j:Nat} (hj:b<=j) (x:ABlk):Old b H (H'.set j x):=⟨by simpa using h.1,fun i hi=>by rw [Heap.get_set,if_neg (by omega)];exact h.2 i hi⟩
theorem Old.new (h:Old b H H') (x y:ABlk):Old b H ((H'.push x).set H'.n y):=(h.push x).set h.1 y
theorem Old.trans {H1 H2:Heap} (h:Old b H H1) (h2:Old b H1 H2):Old b H H2:=⟨h2.1,fun i hi=>(h2.2 i hi).trans (h.2 i hi)⟩
theorem ZB.new {t:Tok} (h:ZB b H t rows sz e) (x y:ABlk):ZB b ((H.push x).set H.n y) t rows sz e:=by
 rcases h with h | ⟨j,h1,h2,h3,h4,h5⟩
 . exact .inl h
 . exact .inr ⟨j,h1,h2,h3,by simp;omega,by rw [Heap.get_set,if_neg (by omega),Heap.get_push,if_neg (by omega)];exact h5⟩
theorem Xm {t:Tok} (h:ZB b H t rows sz e) (hb:b<=H.n) (hlo:lo<=b) (h1:rows.length+1<=Z2) (h2:Q0 r=true) (h3:0 < sz) (h4:rows.all (fun r=>r.length=sz)=true) :
 ∃ t' H',Xx lo H sz e (.ps t rows) [r]=some (.ps t' (rows++[r.map AV.strip0]),H')/\ZB b H' t' (rows++[r.map AV.strip0]) sz e/\H.n<=H'.n/\Old b H H'/\(∀ i c u,i < H.n->H.get i=.cells c u->H'.get i=.cells c u):=by
 rcases h with ⟨rfl,rfl⟩ | ⟨j,rfl,h6,hj,h7,h8⟩
 . refine ⟨.tok H.n,H.push (.row [] sz e),Bz (by simp) (by show 1<=1073741824;decide) (by simp [h2]) h3,.inr ⟨H.n,rfl,by simp,hb,by simp,by rw [Heap.get_push,if_pos rfl]⟩,by simp,⟨by simp;omega,fun i hi=>by rw [Heap.get_push,if_neg (by omega)]⟩,fun i c u hi hc => ?_⟩;rw [Heap.get_push,if_neg (by omega)];exact hc
 . refine ⟨.tok H.n,(H.set j .dead).push (.row [] sz e),BA (by simp) (by simpa using h1) (by simp [h2]) h3 h4 h8 (by omega) h6,.inr ⟨H.n,rfl,by simp,hb,by simp,by rw [Heap.get_push,if_pos (by simp)]⟩,by simp,⟨by simp;omega,fun i hi=>by rw [Heap.get_push,if_neg (by simp;omega),Heap.get_set,if_neg (by omega)]⟩,fun i c u hi hc => ?_⟩;rw [Heap.get_push,if_neg (by simp;omega),Heap.get_set,if_neg (fun he=>by rw [he,h8] at hc;cases hc)];exact hc
end Go.Sim

namespace Go.Sim
open Go.Sim.Pos (Nm Trk Flt Trn Pos Mch Reg Ev)
def PPF88:PF:=fun _=>none
theorem Z4K:PrimsOk NC PPF88:=ZK
abbrev Z4L (f:FuncId) (args:List AV) (v:AV):Prop:=∀ (lo:Nat) (H:Heap),Za NC lo f args H v H
theorem Cn {P:PF} (hP:PrimsOk NC P) {f:FuncId} {fn:Func} {c:Code} {args:List AV} {v:AV} {rs:List ResultVar} (hf:NC.P.funcs[f]? = some fn) (hb:fn.body=some c) (hr:fn.results=rs.toArray) (h:W (NC.withPrims P) 0 f false c (XR args 0 .leaf) .empty [] (Ky (NC.withPrims P) rs fun v' _=>v'.strip=v)) (hg:NC.good f=true:=by kernel_rfl) (hp:YH args=true:=by rfl) (hv:v.pure=true:=by first | rfl | (split<;>first | rfl | (split<;>rfl))):Z4L f args v :=
 contract KE hP hg hf hb hr hp hv h
theorem c88 (b:Bool) (e:Int):∀ lo H,Za NC lo 88 [.bool b,i64 e] H (i64 (Z5 b e)) H:=by
 refine Cn Z4K Tryz.func88 rfl rfl ?_;cases b<;>simp (maxDischargeDepth:=12) only [go_sem,reduceEqDiff,reduceAdd,reduceCtorEq]<;>simp [Z5]
def p88:List AV->Option AV:=ZG (α:=(Bool) × (Int)) (fun x=>[.bool x.1,i64 x.2]) (fun x=>True) (fun x=>i64 (Z5 x.1 x.2))
abbrev Pok (p:List AV->Option AV) (f:FuncId):Prop:=∀ args v,p args=some v -> ∀ lo H,Za NC lo f args H v H
theorem Ug:Pok p88 88:=by
 intro args v h;obtain ⟨x,rfl,hp,rfl⟩:=ZL h;exact c88 x.1 x.2
theorem Uh (b:Bool) (e:Int):p88 [.bool b,.int .i64 e]=some (.int .i64 (Z5 b e)):=ZN (by intro x y h;(simp only [List.cons.injEq,AV.int.injEq,AV.bool.injEq,true_and,and_true] at h;first | simpa only [Prod.ext_iff] using h | simpa only [Prod.ext_iff,and_assoc] using h)) (b,e) trivial
attribute [go_sem] Uh
def ZU (n a b:Int):Int:=Z5 (decide (n < a) || decide (b < n)) 3
def Hs:PF:=Zo 88 p88 (fun _=>none)
theorem Pa {f:FuncId} {p:List AV->Option AV} (hP:PrimsOk NC P) (hok:∀ args v,p args=some v -> ∀ lo H,Za NC lo f args H v H) (h1:NC.mode f=.pure:=by kernel_rfl) (h2:NC.hprim f=none:=by kernel_rfl):PrimsOk NC (Zo f p P):=Yn hP h1 h2 hok
theorem Z4M:PrimsOk NC Hs:=Pa (ZK) Ug
/-- A function is known by a contract. -/
abbrev En (P:PF) (f:FuncId) (p:List AV->Option AV):Prop:=∀ {rec:Rec} {lo:Nat} {args:List AV} {H:Heap} {K:AV->Heap->Prop},VO (Z9 (NC.withPrims P) rec lo f args H) K=AO (p args) fun v=>K v H
theorem Z4N:En Hs 88 p88:=ZA (by rfl) (by kernel_rfl)
attribute [go_sem ↓] Z4N
theorem c125 (n a b:Int):∀ lo H,Za NC lo 125 [i64 n,i64 a,i64 b] H (i64 (ZU n a b)) H:=by
 refine Cn Z4M Tryz.func125 rfl rfl ?_;by_cases h1:n < a<;>by_cases h2:b < n<;>simp (maxDischargeDepth:=12) only [go_sem,reduceEqDiff,reduceAdd,reduceCtorEq,h1,h2,Uh]<;>simp [ZU,h1,h2]
def Ka:List AV->Option AV:=ZG (α:=(Int) × (Int) × (Int)) (fun x=>[i64 x.1,i64 x.2.1,i64 x.2.2]) (fun x=>True) (fun x=>i64 (ZU x.1 x.2.1 x.2.2))
theorem Cc:Pok Ka 125:=by
 intro args v h;obtain ⟨x,rfl,hp,rfl⟩:=ZL h;exact c125 x.1 x.2.1 x.2.2
theorem pe125 (n a b:Int):Ka [.int .i64 n,.int .i64 a,.int .i64 b]=some (.int .i64 (ZU n a b)):=ZN (by intro x y h;(simp only [List.cons.injEq,AV.int.injEq,true_and,and_true] at h;first | simpa only [Prod.ext_iff] using h | simpa only [Prod.ext_iff,and_assoc] using h)) (n,a,b) trivial
attribute [go_sem] pe125
theorem Ht (h:∀ i x,i < k->l[i]? = some x->x=0) (hk:k<=l.length):Zc l=Zc (l.drop k):=by
 induction k generalizing l with
 | zero=>rfl
 | succ k ih =>
   cases l with
   | nil=>simp at hk
   | cons a r =>
     have h0:=h 0 a (by omega) rfl;subst h0;show Zc r=Zc (r.drop k);exact ih (fun i x hi hx=>h (i+1) x (by omega) (by simpa using hx)) (by simpa using hk)
def PPF87:PF:=fun _=>none
theorem Z4O:PrimsOk NC PPF87:=ZK
theorem c87 (l:List Int) (hp:l.length<=Z2):∀ lo H,Za NC lo 87 [.ps .unk (Z3 l)] H (i64 (Zc l)) H:=by
 refine Cn Z4O Tryz.func87 rfl rfl ?_;simp (maxDischargeDepth:=12) only [go_sem,reduceCtorEq];refine ZP (fun k T H M=>M=[]/\Z1 T 5=.ps .unk (Z3 l)/\Z1 T 6=i64 (l.length:Nat)/\Z1 T 7=i64 k /\ ∀ i x,i < k->l[i]? = some x->x=0) l.length ?_ ?_ ?_
 . simp (maxDischargeDepth:=12) only [go_sem,reduceEqDiff,reduceCtorEq,Yo];exact fun i x h=>by omega
 . rintro k T H M hk ⟨rfl,g5,g6,g7,hz⟩;obtain ⟨x,hx⟩:∃ x,l[k]? = some x:=⟨l[k],by simp⟩;have hr:=Gj hx;have hw:=ZQ hk hp;by_cases h0:x=0
   . subst h0;simp (maxDischargeDepth:=12) only [go_sem,reduceEqDiff,g5,g6,g7,hk,Yo,hr,hw];intro i y hi hy;by_cases he:i=k
     . subst he;rw [hx] at hy;cases hy;rfl
     . exact hz i y (by omega) hy
   . simp (maxDischargeDepth:=12) only [go_sem,reduceEqDiff,reduceCtorEq,g5,g6,g7,hk,Yo,hr,h0];rw [Ht hz (by omega),Vl hx];simp [Zc,h0]
 . rintro T H M ⟨rfl,g5,g6,g7,hz⟩;simp (maxDischargeDepth:=12) only [go_sem,reduceEqDiff,reduceCtorEq,g6,g7,Nat.lt_irrefl];rw [Ht hz (Nat.le_refl _),drop_length];rfl
def p87:List AV->Option AV:=ZG (α:=(List Int)) (fun x=>[.ps .unk (Z3 x)]) (fun x=>x.length<=Z2) (fun x=>i64 (Zc x))
theorem Hu:Pok p87 87:=by
 intro args v h;obtain ⟨x,rfl,hp,rfl⟩:=ZL h;exact c87 x hp
theorem pe87 (l:List Int) (hp:l.length<=Z2):p87 [.ps .unk (Z3 l)]=some (.int .i64 (Zc l)):=ZN (by intro x y h;(simp only [List.cons.injEq,AV.ps.injEq,KI,true_and,and_true] at h;first | simpa only [Prod.ext_iff] using h | simpa only [Prod.ext_iff,and_assoc] using h)) l hp
attribute [go_sem] pe87
theorem Z4P (a b:Int):p87 [.ps .unk [[.int .i64 a],[.int .i64 b]]]=some (.int .i64 (Zc [a,b])):=pe87 [a,b] (by show 2<=1073741824;decide)
theorem Z4Q (a b c:Int):p87 [.ps .unk [[.int .i64 a],[.int .i64 b],[.int .i64 c]]]=some (.int .i64 (Zc [a,b,c])):=pe87 [a,b,c] (by show 3<=1073741824;decide)
theorem Z4R (a b c d:Int):p87 [.ps .unk [[.int .i64 a],[.int .i64 b],[.int .i64 c],[.int .i64 d]]]=some (.int .i64 (Zc [a,b,c,d])):=pe87 [a,b,c,d] (by show 4<=1073741824;decide)
attribute [go_sem] Z4P Z4Q Z4R
def Z4S:PF:=fun _=>none
theorem Z4T:PrimsOk NC Z4S:=ZK
theorem c246 (x:Int):∀ lo H,Za NC lo 246 [.int .i32 x] H (.bool (Xa x)) H:=by
 refine Cn Z4T Tryz.func246 rfl rfl ?_;by_cases h1:x < 65<;>by_cases h2:90 < x<;>by_cases h3:x < 97<;>by_cases h4:122 < x<;>simp (maxDischargeDepth:=12) only [go_sem,reduceEqDiff,reduceCtorEq,h1,h2,h3,h4]<;>simp [Xa,h1,h2,h3,h4]
def p246:List AV->Option AV:=ZG (α:=(Int)) (fun x=>[.int .i32 x]) (fun x=>True) (fun x=>.bool (Xa x))
theorem Z4U:Pok p246 246:=by
 intro args v h;obtain ⟨x,rfl,hp,rfl⟩:=ZL h;exact c246 x
theorem pe246 (x:Int):p246 [.int .i32 x]=some (.bool (Xa x)):=ZN (by intro x y h;(simp only [List.cons.injEq,AV.int.injEq,true_and,and_true] at h;first | simpa only [Prod.ext_iff] using h | simpa only [Prod.ext_iff,and_assoc] using h)) x trivial
attribute [go_sem] pe246
def Z4V:PF:=fun _=>none
theorem Z4W:PrimsOk NC Z4V:=ZK
theorem c247 (x:Int):∀ lo H,Za NC lo 247 [.int .i32 x] H (.bool (Qk x)) H:=by
 refine Cn Z4W Tryz.func247 rfl rfl ?_;by_cases h1:x < 48<;>by_cases h2:57 < x<;>simp (maxDischargeDepth:=12) only [go_sem,reduceEqDiff,reduceCtorEq,h1,h2]<;>simp [Qk,h1,h2]
def p247:List AV->Option AV:=ZG (α:=(Int)) (fun x=>[.int .i32 x]) (fun x=>True) (fun x=>.bool (Qk x))
theorem Z4X:Pok p247 247:=by
 intro args v h;obtain ⟨x,rfl,hp,rfl⟩:=ZL h;exact c247 x
theorem pe247 (x:Int):p247 [.int .i32 x]=some (.bool (Qk x)):=ZN (by intro x y h;(simp only [List.cons.injEq,AV.int.injEq,true_and,and_true] at h;first | simpa only [Prod.ext_iff] using h | simpa only [Prod.ext_iff,and_assoc] using h)) x trivial
attribute [go_sem] pe247
def Z4Y:PF:=fun _=>none
theorem Z4Z:PrimsOk NC Z4Y:=ZK
theorem c245 (f:Flt):∀ lo H,Za NC lo 245 [.agg f.row] H (.bool f.silent) H:=by
 refine Cn Z4Z Tryz.func245 rfl rfl ?_;obtain ⟨nm,tr,a,b,v,an,re⟩:=f;simp only [Pos.Flt.row];cases an<;>cases re<;>simp (maxDischargeDepth:=12) only [go_sem,reduceEqDiff,reduceAdd,reduceLeDiff,reduceCtorEq]<;>simp [Pos.Flt.silent]
def p245:List AV->Option AV:=ZG (α:=(Flt)) (fun x=>[.agg x.row]) (fun x=>True) (fun x=>.bool x.silent)
theorem Z50:Pok p245 245:=by
 intro args v h;obtain ⟨x,rfl,hp,rfl⟩:=ZL h;exact c245 x
theorem Hv (f:Flt):p245 [.agg f.row]=some (.bool f.silent):=ZN (by intro x y h;(simp only [List.cons.injEq,AV.agg.injEq,Pos.Flt.row_inj,and_true] at h;first | simpa only [Prod.ext_iff] using h | simpa only [Prod.ext_iff,and_assoc] using h)) f trivial
attribute [go_sem] Hv
def Z51:PF:=fun _=>none
theorem Z52:PrimsOk NC Z51:=ZK
theorem c265 (x:Trk):∀ lo H,Za NC lo 265 [.agg x.row] H (.str x.name) H:=by
 refine Cn Z52 Tryz.func265 rfl rfl ?_;simp (maxDischargeDepth:=12) only [go_sem,reduceAdd,reduceLeDiff,reduceCtorEq,Pos.Trk.row]
def p265:List AV->Option AV:=ZG (α:=(Trk)) (fun x=>[.agg x.row]) (fun x=>True) (fun x=>.str x.name)
theorem Z53:Pok p265 265:=by
 intro args v h;obtain ⟨x,rfl,hp,rfl⟩:=ZL h;exact c265 x
theorem Hw (x:Trk):p265 [.agg x.row]=some (.str x.name):=ZN (by intro x y h;(simp only [List.cons.injEq,AV.agg.injEq,Pos.Trk.row_inj,and_true] at h;first | simpa only [Prod.ext_iff] using h | simpa only [Prod.ext_iff,and_assoc] using h)) x trivial
attribute [go_sem] Hw
def Z54:PF:=fun _=>none
theorem Z55:PrimsOk NC Z54:=ZK
theorem c266 (x:Flt):∀ lo H,Za NC lo 266 [.agg x.row] H (.str x.name) H:=by
 refine Cn Z55 Tryz.func266 rfl rfl ?_;simp (maxDischargeDepth:=12) only [go_sem,reduceAdd,reduceLeDiff,reduceCtorEq,Pos.Flt.row]
def p266:List AV->Option AV:=ZG (α:=(Flt)) (fun x=>[.agg x.row]) (fun x=>True) (fun x=>.str x.name)
theorem Z56:Pok p266 266:=by
 intro args v h;obtain ⟨x,rfl,hp,rfl⟩:=ZL h;exact c266 x
theorem Hx (x:Flt):p266 [.agg x.row]=some (.str x.name):=ZN (by intro x y h;(simp only [List.cons.injEq,AV.agg.injEq,Pos.Flt.row_inj,and_true] at h;first | simpa only [Prod.ext_iff] using h | simpa only [Prod.ext_iff,and_assoc] using h)) x trivial
attribute [go_sem] Hx
def Z57:PF:=fun _=>none
theorem Z58:PrimsOk NC Z57:=ZK
theorem c267 (x:Trn):∀ lo H,Za NC lo 267 [.agg x.row] H (.str x.name) H:=by
 refine Cn Z58 Tryz.func267 rfl rfl ?_;simp (maxDischargeDepth:=12) only [go_sem,reduceAdd,reduceLeDiff,reduceCtorEq,Pos.Trn.row]
def p267:List AV->Option AV:=ZG (α:=(Trn)) (fun x=>[.agg x.row]) (fun x=>True) (fun x=>.str x.name)
theorem Z59:Pok p267 267:=by
 intro args v h;obtain ⟨x,rfl,hp,rfl⟩:=ZL h;exact c267 x
theorem Hy (x:Trn):p267 [.agg x.row]=some (.str x.name):=ZN (by intro x y h;(simp only [List.cons.injEq,AV.agg.injEq,Pos.Trn.row_inj,and_true] at h;first | simpa only [Prod.ext_iff] using h | simpa only [Prod.ext_iff,and_assoc] using h)) x trivial
attribute [go_sem] Hy
def Z5a:PF:=fun _=>none
theorem Z5b:PrimsOk NC Z5a:=ZK
theorem c268 (x:Pos):∀ lo H,Za NC lo 268 [.agg x.row] H (.str x.name) H:=by
 refine Cn Z5b Tryz.func268 rfl rfl ?_;simp (maxDischargeDepth:=12) only [go_sem,reduceAdd,reduceLeDiff,reduceCtorEq,Pos.Pos.row]
def p268:List AV->Option AV:=ZG (α:=(Pos)) (fun x=>[.agg x.row]) (fun x=>True) (fun x=>.str x.name)
theorem Z5c:Pok p268 268:=by
 intro args v h;obtain ⟨x,rfl,hp,rfl⟩:=ZL h;exact c268 x
theorem Hz (x:Pos):p268 [.agg x.row]=some (.str x.name):=ZN (by intro x y h;(simp only [List.cons.injEq,AV.agg.injEq,Pos.Pos.row_inj,and_true] at h;first | simpa only [Prod.ext_iff] using h | simpa only [Prod.ext_iff,and_assoc] using h)) x trivial
attribute [go_sem] Hz
def Z5d:PF:=fun _=>none
theorem Z5e:PrimsOk NC Z5d:=ZK
theorem c269 (x:Mch):∀ lo H,Za NC lo 269 [.agg x.row] H (.str x.name) H:=by
 refine Cn Z5e Tryz.func269 rfl rfl ?_;simp (maxDischargeDepth:=12) only [go_sem,reduceAdd,reduceLeDiff,reduceCtorEq,Pos.Mch.row]
def p269:List AV->Option AV:=ZG (α:=(Mch)) (fun x=>[.agg x.row]) (fun x=>True) (fun x=>.str x.name)
theorem Z5f:Pok p269 269:=by
 intro args v h;obtain ⟨x,rfl,hp,rfl⟩:=ZL h;exact c269 x
theorem HE (x:Mch):p269 [.agg x.row]=some (.str x.name):=ZN (by intro x y h;(simp only [List.cons.injEq,AV.agg.injEq,Pos.Mch.row_inj,and_true] at h;first | simpa only [Prod.ext_iff] using h | simpa only [Prod.ext_iff,and_assoc] using h)) x trivial
attribute [go_sem] HE
def Z5g:PF:=fun _=>none
theorem Z5h:PrimsOk NC Z5g:=ZK
theorem c198 (x:Mch):∀ lo H,Za NC lo 198 [.agg x.row] H (.str x.name) H:=by
 refine Cn Z5h Tryz.func198 rfl rfl ?_;simp (maxDischargeDepth:=12) only [go_sem,reduceAdd,reduceLeDiff,reduceCtorEq,Pos.Mch.row]
def p198:List AV->Option AV:=ZG (α:=(Mch)) (fun x=>[.agg x.row]) (fun x=>True) (fun x=>.str x.name)
theorem Z5i:Pok p198 198:=by
 intro args v h;obtain ⟨x,rfl,hp,rfl⟩:=ZL h;exact c198 x
theorem HF (x:Mch):p198 [.agg x.row]=some (.str x.name):=ZN (by intro x y h;(simp only [List.cons.injEq,AV.agg.injEq,Pos.Mch.row_inj,and_true] at h;first | simpa only [Prod.ext_iff] using h | simpa only [Prod.ext_iff,and_assoc] using h)) x trivial
attribute [go_sem] HF
def Z5j:PF:=fun _=>none
theorem Z5k:PrimsOk NC Z5j:=ZK
theorem c123 (x:Flt):∀ lo H,Za NC lo 123 [.agg x.row] H (.str x.name) H:=by
 refine Cn Z5k Tryz.func123 rfl rfl ?_;simp (maxDischargeDepth:=12) only [go_sem,reduceAdd,reduceLeDiff,reduceCtorEq,Pos.Flt.row]
def p123:List AV->Option AV:=ZG (α:=(Flt)) (fun x=>[.agg x.row]) (fun x=>True) (fun x=>.str x.name)
theorem Z5l:Pok p123 123:=by
 intro args v h;obtain ⟨x,rfl,hp,rfl⟩:=ZL h;exact c123 x
def Xh (x:Nm):List Nm->Int
 | []=>-1
 | a::l=>if a=x then 0 else if Xh x l = -1 then -1 else Xh x l+1
theorem Cd {x:Nm}:∀ {l:List Nm},x ∉ l->Xh x l = -1
 | [],_=>rfl
 | a::l,h=>by
   have h1:¬ a=x:=fun e=>h (by simp [e])
   have h2:=Cd (x:=x) (l:=l) fun hm=>h (by simp [hm])
   unfold Xh;rw [if_neg h1,if_pos h2]
theorem Ce {x:Nm}:∀ {l:List Nm} {k:Nat},l[k]? = some x->x ∉ l.take k->Xh x l=(k:Int)
 | [],k,h,_=>by simp at h
 | a::l,0,h,_=>by
   have:a=x:=by simpa using h
   unfold Xh;rw [if_pos this];rfl
 | a::l,k+1,h,hn=>by
   rw [take_succ_cons] at hn;have h1:¬ a=x:=fun e=>hn (by simp [e])
   have h2:=Ce (x:=x) (l:=l) (k:=k) (by simpa using h) fun hm=>hn (by simp [hm])
   unfold Xh;rw [if_neg h1,h2,if_neg (by omega)];omega
def Z5m:PF:=fun _=>none
theorem Z5n:PrimsOk NC Z5m:=ZK
theorem c153 (l:List Nm) (w:Nm) (hp:l.length<=Z2):∀ lo H,Za NC lo 153 [.ps .unk (Z0 l),.str w] H (i64 (Xh w l)) H:=by
 refine Cn Z5n Tryz.func153 rfl rfl ?_;simp (maxDischargeDepth:=12) only [go_sem,reduceEqDiff,reduceAdd,reduceCtorEq];refine ZP (fun k T H M=>M=[]/\Z1 T 0=.ps .unk (Z0 l)/\Z1 T 1=.str w/\Z1 T 7=i64 (l.length:Nat)/\Z1 T 8=i64 k/\w ∉ l.take k) l.length ?_ ?_ ?_
 . simp (maxDischargeDepth:=12) only [go_sem,reduceEqDiff,reduceCtorEq,Zv];simp
 . rintro k T H M hk ⟨rfl,g0,g1,g7,g8,hz⟩;obtain ⟨y,hy⟩:∃ x,l[k]? = some x:=⟨l[k],by simp⟩;have hr:=JK hy;have hw:=ZQ hk hp;by_cases h0:y=w
   . subst h0;have hb:Z6 y y=true:=by rw [Ys];simp
     simp (maxDischargeDepth:=12) only [go_sem,reduceEqDiff,reduceCtorEq,g0,g1,g7,g8,hk,Zv,hr,hb];rw [Ce hy hz]
   . have hb:Z6 w y=false:=by rw [Ys];simpa using fun e=>h0 e.symm
     simp (maxDischargeDepth:=12) only [go_sem,reduceEqDiff,reduceCtorEq,g0,g1,g7,g8,hk,Zv,hr,hw,hb];rw [take_add_one,hy];simp only [Option.toList,mem_append,mem_singleton];rintro (h | h)
     . exact hz h
     . exact h0 h.symm
 . rintro T H M ⟨rfl,g0,g1,g7,g8,hz⟩;rw [take_length] at hz;simp (maxDischargeDepth:=12) only [go_sem,reduceEqDiff,reduceCtorEq,g7,g8,Nat.lt_irrefl];rw [Cd hz]
def Vm:List AV->Option AV:=ZG (α:=(List Nm) × (Nm)) (fun x=>[.ps .unk (Z0 x.1),.str x.2]) (fun x=>x.1.length<=Z2) (fun x=>i64 (Xh x.2 x.1))
theorem HG:Pok Vm 153:=by
 intro args v h;obtain ⟨x,rfl,hp,rfl⟩:=ZL h;exact c153 x.1 x.2 hp
theorem HH (l:List Nm) (w:Nm) (hp:l.length<=Z2):Vm [.ps .unk (Z0 l),.str w]=some (.int .i64 (Xh w l)):=ZN (by intro x y h;(simp only [List.cons.injEq,AV.str.injEq,AV.ps.injEq,KH,true_and,and_true] at h;first | simpa only [Prod.ext_iff] using h | simpa only [Prod.ext_iff,and_assoc] using h)) (l,w) hp
attribute [go_sem] HH
theorem Z5o (x:Nm) (l:List Nm):(Xh x l < 0)=(x ∉ l):=by
 simp only [eq_iff_iff];by_cases h:x ∈ l
 . obtain ⟨k,hk⟩:=mem_iff_getElem?.1 h;have hex:∃ k,l[k]? = some x/\x ∉ l.take k:=by
    clear hk
    induction l with
    | nil=>simp at h
    | cons a r ih =>
      by_cases ha:a=x
      . exact ⟨0,by simp [ha],by simp⟩
      . have hr:x ∈ r:=by
         rcases mem_cons.1 h with e | e
         . exact absurd e.symm ha
         . exact e
        obtain ⟨k,h1,h2⟩:=ih hr;exact ⟨k+1,by simpa using h1,by rw [take_succ_cons];simp [h2,Ne.symm ha]⟩
   obtain ⟨k,h1,h2⟩:=hex;rw [Ce h1 h2];constructor
   . intro h;omega
   . intro h';exact absurd h h'
 . rw [Cd h];constructor
   . intro _;exact h
   . intro _;decide
def HI:PF:=Zo 153 Vm (fun _=>none)
theorem Z5p:PrimsOk NC HI:=Pa (ZK) HG
theorem Z5q:En HI 153 Vm:=ZA (by rfl) (by kernel_rfl)
attribute [go_sem ↓] Z5q
theorem c150 (l:List Nm) (w:Nm) (hp:l.length<=Z2):∀ lo H,Za NC lo 150 [.ps .unk (Z0 l),.str w] H (.bool (decide (w ∈ l))) H:=by
 refine Cn Z5p Tryz.func150 rfl rfl ?_;simp (maxDischargeDepth:=12) only [go_sem,reduceEqDiff,reduceAdd,reduceCtorEq,HH l w hp,Z5o];simp
def p150:List AV->Option AV:=ZG (α:=(List Nm) × (Nm)) (fun x=>[.ps .unk (Z0 x.1),.str x.2]) (fun x=>x.1.length<=Z2) (fun x=>.bool (decide (x.2 ∈ x.1)))
theorem Z5r:Pok p150 150:=by
 intro args v h;obtain ⟨x,rfl,hp,rfl⟩:=ZL h;exact c150 x.1 x.2 hp
theorem HJ (l:List Nm) (w:Nm) (hp:l.length<=Z2):p150 [.ps .unk (Z0 l),.str w]=some (.bool (decide (w ∈ l))):=ZN (by intro x y h;(simp only [List.cons.injEq,AV.str.injEq,AV.ps.injEq,KH,true_and,and_true] at h;first | simpa only [Prod.ext_iff] using h | simpa only [Prod.ext_iff,and_assoc] using h)) (l,w) hp
attribute [go_sem] HJ
theorem Z5s (h:s[k]? = some c) (hc:c < 128):Qs s k=(c,1):=by
 unfold Qs;have:s.getD (k+0) 0=c:=by simp [h]
 simp only [this];rw [if_pos hc]
theorem Z5t (h:s[k]? = some c) (hc:¬ c < 128):128<=(Qs s k).1:=by
 unfold Qs;have h0:s.getD (k+0) 0=c:=by simp [h]
 simp only [h0];rw [if_neg hc];have he:(128:Nat)<=Utf8.runeError:=by decide
 split
 . split
   . rename_i h1;exact h1
   . exact he
 . split
   . split
     . rename_i h1;simp only [and_eq_true,decide_eq_true_eq] at h1;exact Nat.le_trans (by decide) h1.1
     . exact he
   . split
     . split
       . rename_i h1;simp only [and_eq_true,decide_eq_true_eq] at h1;exact Nat.le_trans (by decide) h1.1
       . exact he
     . exact he
theorem HK (h:128<=x):Xa x=false:=by
 have h1:¬ ((x:Int) < 65):=by omega
 have h2:(90:Int) < x:=by omega
 have h3:¬ ((x:Int) < 97):=by omega
 have h4:(122:Int) < x:=by omega
 simp [Xa,h2,h4]
theorem HM (h:128<=x):Qk x=false:=by
 have h2:(57:Int) < x:=by omega
 simp [Qk,h2]
def Cf:PF:=Zo 247 p247 (Zo 246 p246 (fun _=>none))
theorem Z5u:PrimsOk NC Cf:=Pa (Pa (ZK) Z4U) Z4X
theorem Z5v:En Cf 246 p246:=ZA (by rfl) (by kernel_rfl)
theorem Z5w:En Cf 247 p247:=ZA (by rfl) (by kernel_rfl)
attribute [go_sem ↓] Z5v Z5w
theorem c131 (s:Nm):∀ lo H,Za NC lo 131 [.str s] H (.bool (Z7 s)) H:=by
 refine Cn Z5u Tryz.func131 rfl rfl ?_;simp (maxDischargeDepth:=12) only [go_sem,reduceCtorEq];refine ZP (fun k T H M=>M=[]/\Z1 T 0=.str s/\Z1 T 6=.ptr 0 0/\H.get 0=.sit s k/\(∀ c,0 < k->s[0]? = some c->Xa (c:Nat)=true) /\ ∀ (i c:Nat),1<=i->i < k->s[i]? = some c->Xb c=true) s.length ?_ ?_ ?_
 . simp (maxDischargeDepth:=12) only [go_sem,reduceEqDiff,reduceLT,reduceCtorEq];exact ⟨fun c h=>h.elim,fun i c h1 h2=>by omega⟩
 . rintro k T H M hk ⟨rfl,g0,g6,gH,hf0,hf⟩;obtain ⟨c,hc⟩:∃ c,s[k]? = some c:=⟨s[k],by simp⟩;by_cases hasc:c < 128
   . have hd:=Z5s hc hasc;cases q1:Xa (c:Nat) with
     | true =>
       simp (maxDischargeDepth:=12) only [go_sem,reduceEqDiff,reduceCtorEq,g0,g6,gH,hk,hd,q1];refine ⟨fun d _ hd0 => ?_,fun i d hi hj hdi => ?_⟩
       . by_cases e:k=0
         . subst e;rw [hc] at hd0;cases hd0;exact q1
         . exact hf0 d (by omega) hd0
       . by_cases e:i=k
         . subst e;rw [hc] at hdi;cases hdi;simp [Xb,q1]
         . exact hf i d hi (by omega) hdi
     | false =>
       by_cases e:k=0
       . subst e;simp (maxDischargeDepth:=12) only [go_sem,reduceEqDiff,reduceAdd,reduceCtorEq,g6,gH,hk,hd,q1];simp [Ha hc q1]
       . have e':((k:Int)=0)=False:=by simp;omega
         cases q2:Qk (c:Nat) with
         | true =>
           simp (maxDischargeDepth:=12) only [go_sem,reduceEqDiff,reduceCtorEq,g0,g6,gH,hk,hd,q1,q2,e'];refine ⟨fun d _ hd0=>hf0 d (by omega) hd0,fun i d hi hj hdi => ?_⟩;by_cases e:i=k
           . subst e;rw [hc] at hdi;cases hdi;simp [Xb,q2]
           . exact hf i d hi (by omega) hdi
         | false =>
           rcases Classical.propComplete (((c:Nat):Int)=95) with q3 | q3
           . simp (maxDischargeDepth:=12) only [go_sem,reduceEqDiff,reduceCtorEq,g0,g6,gH,hk,hd,q1,q2,q3,e'];refine ⟨fun d _ hd0=>hf0 d (by omega) hd0,fun i d hi hj hdi => ?_⟩;by_cases e:i=k
             . subst e;rw [hc] at hdi;cases hdi;simp [Xb,q3]
             . exact hf i d hi (by omega) hdi
           . simp (maxDischargeDepth:=12) only [go_sem,reduceEqDiff,reduceCtorEq,g6,gH,hk,hd,q1,q2,q3,e'];simp [Hb (by omega) hc (show Xb (c:Nat)=false by simp [Xb,q1,q2,q3])]
   . have hd:=Z5t hc hasc;have q1:=HK hd;have q2:=HM hd;have q3:(((Qs s k).1:Int)=95)=False:=by simp;omega
     have r1:Xa (c:Nat)=false:=HK (by omega);have r2:Qk (c:Nat)=false:=HM (by omega);have r3:¬ ((c:Int)=95):=by omega
     by_cases e:k=0
     . subst e;simp (maxDischargeDepth:=12) only [go_sem,reduceEqDiff,reduceAdd,reduceCtorEq,g6,gH,hk,q1];simp [Ha hc r1]
     . have e':((k:Int)=0)=False:=by simp;omega
       simp (maxDischargeDepth:=12) only [go_sem,reduceEqDiff,reduceCtorEq,g6,gH,hk,q1,q2,q3,e'];simp [Hb (by omega) hc (show Xb (c:Nat)=false by simp [Xb,r1,r2,r3])]
 . rintro T H M ⟨rfl,g0,g6,gH,hf0,hf⟩;rcases Classical.propComplete ((0:Int) < (s.length:Int)) with h1 | h1
   . rcases Classical.propComplete ((24:Int) < (s.length:Int)) with h2 | h2
     . simp (maxDischargeDepth:=12) only [go_sem,reduceEqDiff,reduceCtorEq,g0,g6,gH,Nat.lt_irrefl,h1,h2];have h2':=of_eq_true h2;cases s with
       | nil=>simp [Z7]
       | cons c r=>simp [Z7];intro h;simp at h2';omega
     . simp (maxDischargeDepth:=12) only [go_sem,reduceEqDiff,reduceCtorEq,g0,g6,gH,Nat.lt_irrefl,h1,h2];have h1':=of_eq_true h1;have h2':=of_eq_false h2;have:=Z4l (s:=s) (by intro e;rw [e] at h1';simp at h1') (by omega) (fun d hd=>hf0 d (by omega) hd) (fun i d hi hd=>hf i d hi (List.getElem?_eq_some_iff.1 hd).1 hd);simp [this]
   . simp (maxDischargeDepth:=12) only [go_sem,reduceEqDiff,reduceCtorEq,g0,g6,gH,Nat.lt_irrefl,h1];have h1':=of_eq_false h1;have:s=[]:=length_eq_zero_iff.1 (by omega);subst this;simp [Z7]
def p131:List AV->Option AV:=ZG (α:=(Nm)) (fun x=>[.str x]) (fun x=>True) (fun x=>.bool (Z7 x))
theorem Z5x:Pok p131 131:=by
 intro args v h;obtain ⟨x,rfl,hp,rfl⟩:=ZL h;exact c131 x
theorem pe131 (s:Nm):p131 [.str s]=some (.bool (Z7 s)):=ZN (by intro x y h;(simp only [List.cons.injEq,AV.str.injEq,and_true] at h;first | simpa only [Prod.ext_iff] using h | simpa only [Prod.ext_iff,and_assoc] using h)) s trivial
attribute [go_sem] pe131
def Cg:PF:=Zo 88 p88 (Zo 131 p131 (fun _=>none))
theorem Z5y:PrimsOk NC Cg:=Pa (Pa (ZK) Z5x) Ug
theorem Z5z:En Cg 131 p131:=ZA (by rfl) (by kernel_rfl)
theorem Z5A:En Cg 88 p88:=ZA (by rfl) (by kernel_rfl)
attribute [go_sem ↓] Z5z Z5A
theorem c130 (s:Nm):∀ lo H,Za NC lo 130 [.str s] H (i64 (Z5 (!Z7 s) 8)) H:=by
 refine Cn Z5y Tryz.func130 rfl rfl ?_;simp (maxDischargeDepth:=12) only [go_sem,reduceEqDiff,reduceCtorEq]
def p130:List AV->Option AV:=ZG (α:=(Nm)) (fun x=>[.str x]) (fun x=>True) (fun x=>i64 (Z5 (!Z7 x) 8))
theorem Z5B:Pok p130 130:=by
 intro args v h;obtain ⟨x,rfl,hp,rfl⟩:=ZL h;exact c130 x
theorem pe130 (s:Nm):p130 [.str s]=some (.int .i64 (Z5 (!Z7 s) 8)):=ZN (by intro x y h;(simp only [List.cons.injEq,AV.str.injEq,and_true] at h;first | simpa only [Prod.ext_iff] using h | simpa only [Prod.ext_iff,and_assoc] using h)) s trivial
attribute [go_sem] pe130
def HN:PF:=Zo 125 Ka (fun _=>none)
theorem Z5C:PrimsOk NC HN:=Pa (ZK) Cc
theorem Z5D:En HN 125 Ka:=ZA (by rfl) (by kernel_rfl)
attribute [go_sem ↓] Z5D
theorem c133 (n:Int):∀ lo H,Za NC lo 133 [i64 n] H (i64 (ZU n 0 999999999)) H:=by
 refine Cn Z5C Tryz.func133 rfl rfl ?_;simp (maxDischargeDepth:=12) only [go_sem,reduceEqDiff,reduceCtorEq]
def p133:List AV->Option AV:=ZG (α:=(Int)) (fun x=>[i64 x]) (fun x=>True) (fun x=>i64 (ZU x 0 999999999))
theorem Z5E:Pok p133 133:=by
 intro args v h;obtain ⟨x,rfl,hp,rfl⟩:=ZL h;exact c133 x
theorem pe133 (n:Int):p133 [.int .i64 n]=some (.int .i64 (ZU n 0 999999999)):=ZN (by intro x y h;(simp only [List.cons.injEq,AV.int.injEq,true_and,and_true] at h;first | simpa only [Prod.ext_iff] using h | simpa only [Prod.ext_iff,and_assoc] using h)) n trivial
attribute [go_sem] pe133
def Q4 (s:Nm):Int:=Z5 (!Z7 s) 8
def Q5 (n:Int):Int:=ZU n 0 999999999
theorem HO {u:α->Int} {l:List α} {x:α} (h:l[k]? = some x):Z3 ((l.take (k+1)).map u)=Z3 ((l.take k).map u)++[[i64 (u x)]]:=by
 rw [Hr h];unfold Z3;rw [map_append];rfl
def HP:PF:=Zo 130 p130 (fun _=>none)
theorem Z5F:PrimsOk NC HP:=Pa (ZK) Z5B
theorem Z5G:En HP 130 p130:=ZA (by rfl) (by kernel_rfl)
attribute [go_sem ↓] Z5G
theorem c129 (l:List Nm) (hp:l.length<=Z2):∀ lo H,Za NC lo 129 [.ps .unk (Z0 l),.fn 130 [] []] H (.ps .unk (Z3 (l.map Q4))) H:=by
 refine Cn Z5F Tryz.func129 rfl rfl ?_;simp (maxDischargeDepth:=12) only [go_sem,reduceEqDiff,reduceAdd,reduceCtorEq];refine ZP (fun k T H M=>M=[]/\Z1 T 1=.fn 130 [] []/\Z1 T 8=.ps .unk (Z0 l)/\Z1 T 9=i64 (l.length:Nat)/\Z1 T 10=i64 k /\ ∃ t,Z1 T 5=.ps t (Z3 ((l.take k).map Q4))/\ZB 0 H t (Z3 ((l.take k).map Q4)) 1 25) l.length ?_ ?_ ?_
 . simp (maxDischargeDepth:=12) only [go_sem,reduceEqDiff,reduceCtorEq,Zv];exact ⟨.nil,rfl,.inl ⟨rfl,rfl⟩⟩
 . rintro k T H M hk ⟨rfl,g1,g8,g9,g10,t,g5,hA⟩;obtain ⟨x,hx⟩:∃ x,l[k]? = some x:=⟨l[k],by simp⟩;have hr:=JK hx;have hw:=ZQ hk hp;obtain ⟨t',H',ha,hA',_⟩:=Xm (lo:=0) hA (zero_le _) (Nat.le_refl _) (r:=[i64 (Q4 x)]) (by rw [Yo,length_map,length_take];omega) rfl (by decide) (Hp _);have e1:[AV.int .i64 (Q4 x)].map AV.strip0=[i64 (Q4 x)]:=rfl;rw [e1,<- HO hx] at ha hA';have e2:Z5 (!Z7 x) 8=Q4 x:=rfl;simp (maxDischargeDepth:=12) only [go_sem,reduceEqDiff,reduceMul,reduceLeDiff,g1,g5,g8,g9,g10,hk,Zv,hr,hw,e2,Zu,ha];exact ⟨t',rfl,hA'⟩
 . rintro T H M ⟨rfl,g1,g8,g9,g10,t,g5,hA⟩;rw [take_length] at g5;simp (maxDischargeDepth:=12) only [go_sem,reduceEqDiff,reduceCtorEq,g5,g9,g10,Nat.lt_irrefl]
def p129:List AV->Option AV:=ZG (α:=(List Nm)) (fun x=>[.ps .unk (Z0 x),.fn 130 [] []]) (fun x=>x.length<=Z2) (fun x=>.ps .unk (Z3 (x.map Q4)))
theorem Z5H:Pok p129 129:=by
 intro args v h;obtain ⟨x,rfl,hp,rfl⟩:=ZL h;exact c129 x hp
theorem pe129 (l:List Nm) (hp:l.length<=Z2):p129 [.ps .unk (Z0 l),.fn 130 [] []]=some (.ps .unk (Z3 (l.map Q4))):=ZN (by intro x y h;(simp only [List.cons.injEq,AV.ps.injEq,KH,true_and,and_true] at h;first | simpa only [Prod.ext_iff] using h | simpa only [Prod.ext_iff,and_assoc] using h)) l hp
attribute [go_sem] pe129
def HQ:PF:=Zo 133 p133 (fun _=>none)
theorem Z5I:PrimsOk NC HQ:=Pa (ZK) Z5E
theorem Z5J:En HQ 133 p133:=ZA (by rfl) (by kernel_rfl)
attribute [go_sem ↓] Z5J
theorem c132 (l:List Int) (hp:l.length<=Z2):∀ lo H,Za NC lo 132 [.ps .unk (Z3 l),.fn 133 [] []] H (.ps .unk (Z3 (l.map Q5))) H:=by
 refine Cn Z5I Tryz.func132 rfl rfl ?_;simp (maxDischargeDepth:=12) only [go_sem,reduceEqDiff,reduceAdd,reduceCtorEq];refine ZP (fun k T H M=>M=[]/\Z1 T 1=.fn 133 [] []/\Z1 T 8=.ps .unk (Z3 l)/\Z1 T 9=i64 (l.length:Nat)/\Z1 T 10=i64 k /\ ∃ t,Z1 T 5=.ps t (Z3 ((l.take k).map Q5))/\ZB 0 H t (Z3 ((l.take k).map Q5)) 1 25) l.length ?_ ?_ ?_
 . simp (maxDischargeDepth:=12) only [go_sem,reduceEqDiff,reduceCtorEq,Yo];exact ⟨.nil,rfl,.inl ⟨rfl,rfl⟩⟩
 . rintro k T H M hk ⟨rfl,g1,g8,g9,g10,t,g5,hA⟩;obtain ⟨x,hx⟩:∃ x,l[k]? = some x:=⟨l[k],by simp⟩;have hr:=Gj hx;have hw:=ZQ hk hp;obtain ⟨t',H',ha,hA',_⟩:=Xm (lo:=0) hA (zero_le _) (Nat.le_refl _) (r:=[i64 (Q5 x)]) (by rw [Yo,length_map,length_take];omega) rfl (by decide) (Hp _);have e1:[AV.int .i64 (Q5 x)].map AV.strip0=[i64 (Q5 x)]:=rfl;rw [e1,<- HO hx] at ha hA';have e2:ZU x 0 999999999=Q5 x:=rfl;simp (maxDischargeDepth:=12) only [go_sem,reduceEqDiff,reduceMul,reduceLeDiff,g1,g5,g8,g9,g10,hk,Yo,hr,hw,e2,Zu,ha];exact ⟨t',rfl,hA'⟩
 . rintro T H M ⟨rfl,g1,g8,g9,g10,t,g5,hA⟩;rw [take_length] at g5;simp (maxDischargeDepth:=12) only [go_sem,reduceEqDiff,reduceCtorEq,g5,g9,g10,Nat.lt_irrefl]
def p132:List AV->Option AV:=ZG (α:=(List Int)) (fun x=>[.ps .unk (Z3 x),.fn 133 [] []]) (fun x=>x.length<=Z2) (fun x=>.ps .unk (Z3 (x.map Q5)))
theorem Z5K:Pok p132 132:=by
 intro args v h;obtain ⟨x,rfl,hp,rfl⟩:=ZL h;exact c132 x hp
theorem pe132 (l:List Int) (hp:l.length<=Z2):p132 [.ps .unk (Z3 l),.fn 133 [] []]=some (.ps .unk (Z3 (l.map Q5))):=ZN (by intro x y h;(simp only [List.cons.injEq,AV.ps.injEq,KI,true_and,and_true] at h;first | simpa only [Prod.ext_iff] using h | simpa only [Prod.ext_iff,and_assoc] using h)) l hp
attribute [go_sem] pe132
def KJ (s:Nm):List (AV × AV)->Option Bool
 | []=>some false
 | (.str k,_)::r=>cond (Z6 s k) (some true) (KJ s r)
 | _=>none
def lkS (s:Nm):List (AV × AV)->Option AV
 | []=>none
 | (.str k,v)::r=>if s=k then some v else lkS s r
 | _=>none
theorem keyS (s:Nm):KZ NC.P 9 (.str s)=true:=by
 unfold KZ;have h1:Qa NC.P 100 9=true:=by kernel_rfl
 have h2:Y5 NC.P 100 9 (.str s) (.str s)=some (Z6 s s):=by
  unfold Y5;rw [un_9]
 rw [h1,h2,Ys];simp
theorem Ch (s:Nm):∀ (es:List (AV × AV)) (i:Nat),(KJ s es=some false->X6 NC.P 9 (.str s) es i=some none)
 | [],i,_=>rfl
 | (k,v)::r,i,h=>by
   unfold KJ at h;split at h
   . rename_i h1;cases h1
   . rename_i k' v' r' h1
     cases h1;have hu:X6 NC.P 9 (.str s) ((.str k',v)::r) i=match Y5 NC.P 100 9 (.str s) (.str k') with
      | some true=>some (some (i,.str k',v))
      | some false=>X6 NC.P 9 (.str s) r (i+1)
      | none=>none:=rfl
     have h2:Y5 NC.P 100 9 (.str s) (.str k')=some (Z6 s k'):=by
      unfold Y5;rw [un_9]
     rw [hu,h2];cases hb:Z6 s k' with
     | true=>rw [hb] at h;cases h
     | false =>
       rw [hb] at h;exact Ch s r (i+1) h
   . cases h
theorem HR (s:Nm):∀ (es:List (AV × AV)) (i:Nat),(∀ x ∈ es,∃ k,x.1=.str k)->(lkS s es=none->X6 NC.P 9 (.str s) es i=some none) /\ ∀ v,lkS s es=some v -> ∃ j k,X6 NC.P 9 (.str s) es i=some (some (j,k,v))
 | [],i,_=>⟨fun _=>rfl,fun v h=>by cases h⟩
 | (k,v)::r,i,hk=>by
   obtain ⟨k',rfl⟩:∃ k',k=.str k':=hk (k,v) (by simp);have ih:=HR s r (i+1) fun x hx=>hk x (by simp [hx])
   have hu:X6 NC.P 9 (.str s) ((.str k',v)::r) i=match Y5 NC.P 100 9 (.str s) (.str k') with
    | some true=>some (some (i,.str k',v))
    | some false=>X6 NC.P 9 (.str s) r (i+1)
    | none=>none:=rfl
   have h2:Y5 NC.P 100 9 (.str s) (.str k')=some (Z6 s k'):=by
    unfold Y5;rw [un_9]
   have hl:lkS s ((.str k',v)::r)=if s=k' then some v else lkS s r:=rfl
   rw [hu,h2,hl,Ys];by_cases h:s=k'
   . rw [if_pos h];simp only [h,decide_true];exact ⟨fun h=>(by cases h),fun v' h=>by cases h;exact ⟨_,_,rfl⟩⟩
   . rw [if_neg h];simp only [h,decide_false];exact ih
def HS:=@Q1
def insF (f:Option Bool) (H:Heap) (m:Nat) (es:List (AV × AV)) (s:Nm) (v:AV) (alt:Prop) (K:Heap->Prop) (_t:Tag K:=⟨⟩):Prop:=match f with
 | some false=>K (H.set m (.map (es++[(.str s,v)])))
 | _=>alt
theorem Z5L (H:Heap) (m:Nat) (es:List (AV × AV)) (s:Nm) (v:AV) (alt:Prop) (K:Heap->Prop):insF (some false) H m es s v alt K=K (H.set m (.map (es++[(.str s,v)]))):=rfl
def Ui (b:ABlk) (H:Heap) (m:Nat) (s:Nm) (v:AV) (alt:Prop) (K:Heap->Prop) (_t:Tag K:=⟨⟩):Prop:=match b with
 | .map es=>insF (KJ s es) H m es s v alt K
 | _=>alt
theorem Z5M (es:List (AV × AV)) (H:Heap) (m:Nat) (s:Nm) (v:AV) (alt:Prop) (K:Heap->Prop):Ui (.map es) H m s v alt K=insF (KJ s es) H m es s v alt K:=rfl
def Vn (le:Prop) [Decidable le] (H:Heap) (m:Nat) (s:Nm) (v:AV) (alt:Prop) (K:Heap->Prop) (_t:Tag K:=⟨⟩):Prop:=if le then Ui (H.get m) H m s v alt K else alt
theorem Z5N (H:Heap) (m:Nat) (s:Nm) (v:AV) (alt:Prop) (K:Heap->Prop):Vn True H m s v alt K=Ui (H.get m) H m s v alt K:=by unfold Vn;rw [if_pos trivial]
theorem ins_S (lo:Nat) (H:Heap) (m:Nat) (s:Nm) (v:AV) (K:Heap->Prop):AO (Q1 NC.P lo H 176 (.map m) (.str s) v) K=Vn (lo<=m) H m s v.strip (AO (HS NC.P lo H 176 (.map m) (.str s) v) K) K:=by
 unfold Vn;split
 . rename_i hlo
   unfold Ui;split
   . rename_i es hg
     unfold insF;split
     . rename_i hf
       have e:Q1 NC.P lo H 176 (.map m) (.str s) v=some (H.set m (.map (es++[(.str s,v.strip)]))):=by
        unfold Q1;rw [C6];simp only [keyS,hlo,decide_true,Bool.and_true,if_true,hg,Ch s es 0 hf]
       rw [e];rfl
     . rfl
   . rfl
 . rfl
theorem Z5O {K:AV->Heap->Prop} {d:Option Tmp} {p:String} {af:Array Edge} {gd:Option (Nat × Bool)} (t':TypeId) (m k x:Operand):VO (aop C rec fid lo ⟨d,.insert t' m k x,t,p,af,gd⟩ T H) K=AO (Z4 C T m) fun m=>AO (Z4 C T k) fun k=>AO (Z4 C T x) fun x=>AO (Q1 C.P lo H t' m k x) fun H=>K Y9 H :=
 Bm (C:=C) (rec:=rec) (fid:=fid) (lo:=lo) (T:=T) (H:=H) (K:=K) (d:=d) (t:=t) (p:=p) (af:=af) (gd:=gd) t' m k x
attribute [go_sem ↓] ins_S Z5N Z5M Z5L Z5O
theorem Gk {m:Nat} {es:List (AV × AV)} (hg:H.get m=.map es) (hk:∀ x ∈ es,∃ k,x.1=.str k) (s:Nm):JG NC.P H 176 (.map m) (.str s) true=some (match lkS s es with
 | some v=>.tup [v,.bool true]
 | none=>.tup [.agg [.str [],i64 0,.nilf,.nilf],.bool false])/\JG NC.P H 176 (.map m) (.str s) false=some (match lkS s es with
 | some v=>v
 | none=>.agg [.str [],i64 0,.nilf,.nilf]):=by
 have hl:=HR s es 0 hk;have hz:ZF NC.P 175=some (.agg [.str [],i64 0,.nilf,.nilf]):=by kernel_rfl
 have hm:UC H (.map m)=some es:=by unfold UC;simp only [hg]
 unfold JG;rw [C6];simp only [keyS,if_true,hz,hm];cases hv:lkS s es with
 | none =>
   rw [hl.1 hv];exact ⟨rfl,rfl⟩
 | some v =>
   obtain ⟨j,k,e⟩:=hl.2 v hv;rw [e];exact ⟨rfl,rfl⟩
abbrev Q6 (f:FuncId):Prop:=∀ {P:PF} (_hP:P f=none) {lo:Nat} {args:List AV} {H:Heap} {K:AV->Heap->Prop},VO (Z9 (NC.withPrims P) (R (NC.withPrims P)) lo f args H) K=AO (R (NC.withPrims P) (.call H.n f args H)) fun o=>K o.val o.s.H
theorem Qm {f:FuncId} (h1:NC.prim f=none:=by kernel_rfl) (h2:NC.hprim f=none:=by kernel_rfl) (h3:NC.twice f=false:=by kernel_rfl) (h4:NC.mode f=.fresh:=by kernel_rfl):Q6 f:=by
 intro P hP lo args H K;refine Fx rfl ?_ h2 h3 h4;show (match NC.prim f with | some p=>some p | none=>P f)=none
 rw [h1];exact hP
theorem Js:Q6 77:=Qm
theorem en171:Q6 171:=Qm
theorem en173:Q6 173:=Qm
section
variable {P:PF} {lo:Nat} {H:Heap}
theorem Z5P (g:FuncId):R (NC.withPrims P) (.call lo 171 [.fn g [] []] H)=some (.ofVal (.fn 273 [] [.ptr H.n 0]) (H.push (.cells [.fn g [] []] 272))):=by
 obtain ⟨v,H',h1,rfl,rfl⟩:=Zd (C:=NC.withPrims P) (f:=171) (lo:=lo) (args:=[.fn g [] []]) (H:=H) (fn:=Tryz.f171) (Q:=fun v H'=>v=.fn 273 [] [.ptr H.n 0]/\H'=H.push (.cells [.fn g [] []] 272)) (by kernel_rfl) Tryz.func171 rfl rfl (by
  simp (maxDischargeDepth:=12) only [go_sem,reduceCtorEq])
 exact h1
theorem Z5Q (g:FuncId):R (NC.withPrims P) (.call lo 173 [.fn g [] []] H)=some (.ofVal (.fn 274 [] [.ptr H.n 0]) (H.push (.cells [.fn g [] []] 274))):=by
 obtain ⟨v,H',h1,rfl,rfl⟩:=Zd (C:=NC.withPrims P) (f:=173) (lo:=lo) (args:=[.fn g [] []]) (H:=H) (fn:=Tryz.f173) (Q:=fun v H'=>v=.fn 274 [] [.ptr H.n 0]/\H'=H.push (.cells [.fn g [] []] 274)) (by kernel_rfl) Tryz.func173 rfl rfl (by
  simp (maxDischargeDepth:=12) only [go_sem,reduceCtorEq])
 exact h1
end
def J6 (n:Nat):List (AV × AV):=[
 (.str Pos.Xp,.agg [.str [84],i64 2,.fn 154 [] [],.fn 155 [] []]),
 (.str Pos.Xc,.agg [.str [70,116],i64 4,.fn 156 [] [],.fn 158 [] []]),
 (.str Pos.YE,.agg [.str [102],i64 1,.fn 159 [] [],.fn 160 [] []]),
 (.str Pos.Yz,.agg [.str [102,112],i64 1,.fn 161 [] [],.fn 162 [] []]),
 (.str Pos.ZZ,.agg [.str [82,116],i64 2,.fn 163 [] [],.fn 164 [] []]),
 (.str Pos.Yb,.agg [.str [114],i64 1,.fn 165 [] [],.fn 166 [] []]),
 (.str Pos.Yc,.agg [.str [80,116],i64 3,.fn 169 [] [],.fn 170 [] []]),
 (.str Pos.Xq,.agg [.str [112],i64 1,.fn 273 [] [.ptr (n+1) 0],.fn 274 [] [.ptr (n+2) 0]]),
 (.str Pos.YZ,.agg [.str [112],i64 1,.fn 273 [] [.ptr (n+3) 0],.fn 274 [] [.ptr (n+4) 0]]),
 (.str Pos.kIn,.agg [.str [77,112],i64 1,.fn 273 [] [.ptr (n+5) 0],.fn 178 [] []]),
 (.str Pos.Xd,.agg [.str [109],i64 1,.fn 165 [] [],.fn 179 [] []]),
 (.str Pos.X2,.agg [.str [112],i64 2,.fn 273 [] [.ptr (n+6) 0],.fn 274 [] [.ptr (n+7) 0]]),
 (.str Pos.YT,.agg [.str [112],i64 2,.fn 273 [] [.ptr (n+8) 0],.fn 274 [] [.ptr (n+9) 0]]),
 (.str Pos.YO,.agg [.str [112],i64 1,.fn 273 [] [.ptr (n+10) 0],.fn 274 [] [.ptr (n+11) 0]]),
 (.str Pos.YF,.agg [.str [112],i64 2,.fn 273 [] [.ptr (n+12) 0],.fn 274 [] [.ptr (n+13) 0]]),
 (.str Pos.Y7,.agg [.str [112],i64 1,.fn 273 [] [.ptr (n+14) 0],.fn 274 [] [.ptr (n+15) 0]]),
 (.str Pos.XD,.agg [.str [112],i64 2,.fn 192 [] [],.fn 274 [] [.ptr (n+16) 0]]),
 (.str Pos.ZJ,.agg [.str [],i64 0,.fn 165 [] [],.fn 194 [] []])]
def boxM (j:Nat):ABlk:=match j with
 | 1=>.cells [.fn 172 [] []] 272
 | 2=>.cells [.fn 174 [] []] 274
 | 3=>.cells [.fn 175 [] []] 272
 | 4=>.cells [.fn 176 [] []] 274
 | 5=>.cells [.fn 177 [] []] 272
 | 6=>.cells [.fn 182 [] []] 272
 | 7=>.cells [.fn 183 [] []] 274
 | 8=>.cells [.fn 184 [] []] 272
 | 9=>.cells [.fn 185 [] []] 274
 | 10=>.cells [.fn 186 [] []] 272
 | 11=>.cells [.fn 187 [] []] 274
 | 12=>.cells [.fn 188 [] []] 272
 | 13=>.cells [.fn 189 [] []] 274
 | 14=>.cells [.fn 190 [] []] 272
 | 15=>.cells [.fn 191 [] []] 274
 | 16=>.cells [.fn 193 [] []] 274
 | _=>.dead
structure FormsAt (n:Nat) (H:Heap):Prop where
 map:H.get n=.map (J6 n)
 box:∀ j,1<=j->j<=16->H.get (n+j)=boxM j
theorem Uj {P:PF} (h1:P 171=none) (h2:P 173=none) (lo:Nat) (H:Heap) (hlo:lo<=H.n):∃ H',R (NC.withPrims P) (.call lo 77 [] H)=some (.ofVal (.map H.n) H')/\H'.n=H.n+17/\(∀ i,i < H.n->H'.get i=H.get i)/\FormsAt H.n H':=by
 obtain ⟨v,H',h1,rfl,h2⟩:=Zd (C:=NC.withPrims P) (f:=77) (lo:=lo) (args:=[]) (H:=H) (fn:=Tryz.f77) (Q:=fun v H'=>v=.map H.n/\H'.n=H.n+17/\(∀ i,i < H.n->H'.get i=H.get i)/\FormsAt H.n H') (by kernel_rfl) Tryz.func77 rfl rfl (by
  have hl:=eq_true hlo;simp (maxDischargeDepth:=12) only [go_sem,reduceEqDiff,reduceAdd,reduceLeDiff,reduceCtorEq,en171 h1,en173 h2,Z5P,Z5Q,hl,KJ,Ys,List.cons.injEq,false_and,and_false,decide_false,cond_false,add_assoc,reduceAdd,Fz];refine ⟨fun i hi => ?_, ?_,fun j h1 h2 => ?_⟩
  . have e0:(i=H.n)=False:=by simp only [eq_iff_iff,iff_false];omega
    have e1:∀ k,(i=H.n+k)=False:=fun k=>by simp only [eq_iff_iff,iff_false];omega
    simp only [e0,e1,if_false]
  . simp only [Heap.get_set,Heap.get_push,Qx,JY,add_assoc,reduceAdd,Fz,reduceEqDiff,if_true,if_false];rfl
  . have hj:j=1\/j=2\/j=3\/j=4\/j=5\/j=6\/j=7\/j=8\/j=9\/j=10\/j=11\/j=12\/j=13\/j=14\/j=15\/j=16:=by omega
    rcases hj with rfl | rfl | rfl | rfl | rfl | rfl | rfl | rfl | rfl | rfl | rfl | rfl | rfl | rfl | rfl | rfl
    all_goals
     simp only [Heap.get_set,Heap.get_push,Qx,JY,add_assoc,reduceAdd,BC,add_left_cancel_iff,reduceEqDiff,if_true,if_false];rfl)
 exact ⟨H',h1,h2⟩
end Go.Sim
