/-
Lemmas of one proof, the texts Lay to Lg1 joined.
-/
import Derived.Test.YtlooccmcmeofhaaGreatDoorT13
import Derived.Shelf.Strings.Builder1
import Derived.Shelf.Strings.OnBuilder
import Derived.Shelf.Strconv.Itoa0
import Derived.Shelf.Strconv.Itoa1
import Derived.Shelf.LaysM
import Derived.Shelf.Strconv.Itoa2
import Derived.Shelf.Strconv.Itoa3
import Derived.Test.YtlooccmcmeofhaaGreatDoorProg
set_option linter.unusedSimpArgs false
set_option linter.unusedVariables false
open Nat (reduceEqDiff reduceAdd reduceMul reduceSub reduceLeDiff reduceLT)

namespace Go.Proofs
open Go.Shelf
def Tryz.lays156_ren:Go.Shelf.Ren:=⟨fun | 156=>109 | 165=>233 | 166=>234 | 169=>235 | 240=>290 | 241=>291 | 276=>322 | 277=>323 | n=>n,fun | 31=>50 | 9=>9 | 3=>3 | 4=>4 | 0=>0 | 20=>20 | 72=>302 | 76=>306 | 70=>300 | 37=>129 | 75=>305 | 127=>347 | 164=>373 | 5=>5 | 80=>96 | n=>n,fun | n=>n⟩
theorem Tryz.lays156:Go.Proofs.Lays.n156 Tryz.prog Tryz.lays156_ren:={
 mixed:=by kernel_rfl
 f156:=Tryz.func109.trans (congrArg some (by kernel_rfl))
 f165:=Tryz.func233.trans (congrArg some (by kernel_rfl))
 f166:=Tryz.func234.trans (congrArg some (by kernel_rfl))
 f169:=Tryz.func235.trans (congrArg some (by kernel_rfl))
 f240:=Tryz.func290.trans (congrArg some (by kernel_rfl))
 f241:=Tryz.func291.trans (congrArg some (by kernel_rfl))
 f276:=Tryz.func322.trans (congrArg some (by kernel_rfl))
 f277:=Tryz.func323.trans (congrArg some (by kernel_rfl))
 t0:=Tryz.underlying0
 a0:=Tryz.isAgg0
 z0:=Tryz.sizeOf0
 v0:=Tryz.zeroValue0
 t3:=Tryz.underlying3
 a3:=Tryz.isAgg3
 z3:=Tryz.sizeOf3
 v3:=Tryz.zeroValue3
 t4:=Tryz.underlying4
 a4:=Tryz.isAgg4
 z4:=Tryz.sizeOf4
 v4:=Tryz.zeroValue4
 t9:=Tryz.underlying9
 a9:=Tryz.isAgg9
 z9:=Tryz.sizeOf9
 v9:=Tryz.zeroValue9
 t20:=Tryz.underlying20
 a20:=Tryz.isAgg20
 z20:=Tryz.sizeOf20
 v20:=Tryz.zeroValue20
 t31:=Tryz.underlying50
 a31:=Tryz.isAgg50
 z31:=Tryz.sizeOf50
 v31:=Tryz.zeroValue50
 t37:=Tryz.underlying129
 a37:=Tryz.isAgg129
 z37:=Tryz.sizeOf129
 v37:=Tryz.zeroValue129
 t70:=Tryz.underlying300
 a70:=Tryz.isAgg300
 z70:=Tryz.sizeOf300
 v70:=Tryz.zeroValue300
 t72:=Tryz.underlying302
 a72:=Tryz.isAgg302
 z72:=Tryz.sizeOf302
 v72:=Tryz.zeroValue302
 t75:=Tryz.underlying305
 a75:=Tryz.isAgg305
 z75:=Tryz.sizeOf305
 v75:=Tryz.zeroValue305
 t76:=Tryz.underlying306
 a76:=Tryz.isAgg306
 z76:=Tryz.sizeOf306
 v76:=Tryz.zeroValue306
 t127:=Tryz.underlying347
 a127:=Tryz.isAgg347
 z127:=Tryz.sizeOf347
 v127:=Tryz.zeroValue347
 t164:=Tryz.underlying373
 a164:=Tryz.isAgg373
 z164:=Tryz.sizeOf373
 v164:=Tryz.zeroValue373 }
theorem Tryz.Builder_Extra_156:Builder.Extra Tryz.prog Tryz.lays156_ren:={
 sizeBuilder:=by kernel_rfl
 liesBuilder:=by kernel_rfl
 t5:=Tryz.underlying5
 a5:=Tryz.isAgg5
 z5:=Tryz.sizeOf5
 v5:=Tryz.zeroValue5
 infoByte:=by kernel_rfl
 cellsByte:=by kernel_rfl
 sizeByte:=by kernel_rfl
 neB5:=by decide }
def Tryz.laysM171_ren:Go.Shelf.Ren:=⟨fun | 171=>107 | 243=>232 | 246=>289 | 283=>318 | 284=>319 | 285=>320 | 286=>321 | 129=>302 | 317=>334 | 318=>335 | 319=>336 | 320=>337 | 337=>341 | 338=>342 | n=>n,fun | 3=>3 | 9=>9 | 2=>2 | 4=>4 | 171=>369 | 0=>0 | 53=>359 | 37=>129 | 5=>5 | 173=>371 | 212=>386 | 51=>357 | 20=>20 | 213=>387 | 46=>315 | 232=>395 | 233=>396 | n=>n,fun | 17=>1 | 18=>4 | 19=>5 | n=>n⟩
theorem Tryz.laysM171:Go.Proofs.LaysM.n171 Tryz.prog Tryz.laysM171_ren:={
 mixed:=by kernel_rfl
 f129:=Tryz.func302.trans (congrArg some (by kernel_rfl))
 f171:=Tryz.func107.trans (congrArg some (by kernel_rfl))
 f243:=Tryz.func232.trans (congrArg some (by kernel_rfl))
 f246:=Tryz.func289.trans (congrArg some (by kernel_rfl))
 f283:=Tryz.func318.trans (congrArg some (by kernel_rfl))
 f284:=Tryz.func319.trans (congrArg some (by kernel_rfl))
 f285:=Tryz.func320.trans (congrArg some (by kernel_rfl))
 f286:=Tryz.func321.trans (congrArg some (by kernel_rfl))
 f317:=Tryz.func334.trans (congrArg some (by kernel_rfl))
 f318:=Tryz.func335.trans (congrArg some (by kernel_rfl))
 f319:=Tryz.func336.trans (congrArg some (by kernel_rfl))
 f320:=Tryz.func337.trans (congrArg some (by kernel_rfl))
 f337:=Tryz.func341.trans (congrArg some (by kernel_rfl))
 f338:=Tryz.func342.trans (congrArg some (by kernel_rfl))
 t0:=Tryz.underlying0
 a0:=Tryz.isAgg0
 z0:=Tryz.sizeOf0
 v0:=Tryz.zeroValue0
 t2:=Tryz.underlying2
 a2:=Tryz.isAgg2
 z2:=Tryz.sizeOf2
 v2:=Tryz.zeroValue2
 t3:=Tryz.underlying3
 a3:=Tryz.isAgg3
 z3:=Tryz.sizeOf3
 v3:=Tryz.zeroValue3
 t4:=Tryz.underlying4
 a4:=Tryz.isAgg4
 z4:=Tryz.sizeOf4
 v4:=Tryz.zeroValue4
 t5:=Tryz.underlying5
 a5:=Tryz.isAgg5
 z5:=Tryz.sizeOf5
 v5:=Tryz.zeroValue5
 t9:=Tryz.underlying9
 a9:=Tryz.isAgg9
 z9:=Tryz.sizeOf9
 v9:=Tryz.zeroValue9
 t20:=Tryz.underlying20
 a20:=Tryz.isAgg20
 z20:=Tryz.sizeOf20
 v20:=Tryz.zeroValue20
 t37:=Tryz.underlying129
 a37:=Tryz.isAgg129
 z37:=Tryz.sizeOf129
 v37:=Tryz.zeroValue129
 t46:=Tryz.underlying315
 a46:=Tryz.isAgg315
 z46:=Tryz.sizeOf315
 v46:=Tryz.zeroValue315
 t51:=Tryz.underlying357
 a51:=Tryz.isAgg357
 z51:=Tryz.sizeOf357
 v51:=Tryz.zeroValue357
 t53:=Tryz.underlying359
 a53:=Tryz.isAgg359
 z53:=Tryz.sizeOf359
 v53:=Tryz.zeroValue359
 t171:=Tryz.underlying369
 a171:=Tryz.isAgg369
 z171:=Tryz.sizeOf369
 v171:=Tryz.zeroValue369
 t173:=Tryz.underlying371
 a173:=Tryz.isAgg371
 z173:=Tryz.sizeOf371
 v173:=Tryz.zeroValue371
 t212:=Tryz.underlying386
 a212:=Tryz.isAgg386
 z212:=Tryz.sizeOf386
 v212:=Tryz.zeroValue386
 t213:=Tryz.underlying387
 a213:=Tryz.isAgg387
 z213:=Tryz.sizeOf387
 t232:=Tryz.underlying395
 a232:=Tryz.isAgg395
 z232:=Tryz.sizeOf395
 v232:=Tryz.zeroValue395
 t233:=Tryz.underlying396
 a233:=Tryz.isAgg396
 z233:=Tryz.sizeOf396
 v233:=Tryz.zeroValue396
 g17:=by kernel_rfl
 g18:=by kernel_rfl
 g19:=by kernel_rfl
 i0:=by kernel_rfl
 i2:=by kernel_rfl
 i3:=by kernel_rfl
 i4:=by kernel_rfl
 i5:=by kernel_rfl
 i9:=by kernel_rfl
 i20:=by kernel_rfl
 i37:=by kernel_rfl
 i46:=by kernel_rfl
 i51:=by kernel_rfl
 i53:=by kernel_rfl
 i171:=by kernel_rfl
 i173:=by kernel_rfl
 i212:=by kernel_rfl
 i232:=by kernel_rfl
 i233:=by kernel_rfl
 m17:=by kernel_rfl
 m18:=by kernel_rfl
 m19:=by kernel_rfl }
end Go.Proofs

namespace Go.Sim
open Go Go.Proofs
noncomputable def okF (f:Nat):Bool:=match NC.P.funcs[f]? with
 | some fn=>match fn.body with
   | some c=>!(fn.name == "runtime.NumGoroutine") && ZM NC f fn.ntmps c
   | none=>false
 | none=>false
noncomputable def X4:Nat→Nat→Bool
 | _,0=>true
 | a,n+1=>(!VH.testBit a || okF a) && X4 (a+1) n
theorem Xq:∀ {a n f:Nat},X4 a n=true→a≤f→f < a+n→VH.testBit f=true→okF f=true
 | a,0,f,_,h1,h2,_=>by omega
 | a,n+1,f,h,h1,h2,hg=>by
   unfold X4 at h;simp only [Bool.and_eq_true] at h;by_cases e:f=a
   · subst e;have:=h.1;rw [hg] at this;simpa using this
   · exact Xq h.2 (by omega) (by omega) hg
theorem ok0:X4 0 20=true:=by kernel_rfl
theorem ok20:X4 20 20=true:=by kernel_rfl
theorem ok40:X4 40 20=true:=by kernel_rfl
theorem ok60:X4 60 20=true:=by kernel_rfl
theorem ok80:X4 80 20=true:=by kernel_rfl
theorem ok100:X4 100 20=true:=by kernel_rfl
theorem ok120:X4 120 20=true:=by kernel_rfl
theorem ok140:X4 140 20=true:=by kernel_rfl
theorem ok160:X4 160 20=true:=by kernel_rfl
theorem ok180:X4 180 20=true:=by kernel_rfl
theorem ok200:X4 200 20=true:=by kernel_rfl
theorem ok220:X4 220 20=true:=by kernel_rfl
theorem ok240:X4 240 20=true:=by kernel_rfl
theorem ok260:X4 260 20=true:=by kernel_rfl
theorem ok280:X4 280 20=true:=by kernel_rfl
theorem ok300:X4 300 20=true:=by kernel_rfl
theorem ok320:X4 320 20=true:=by kernel_rfl
theorem ok340:X4 340 20=true:=by kernel_rfl
theorem ok360:X4 360 20=true:=by kernel_rfl
theorem Z13 {g a f:Nat} (h:g < 2 ^ a * 2 ^ a) (hf:a+a≤f):g.testBit f=false :=
 Nat.testBit_lt_two_pow (Nat.lt_of_lt_of_le h (by rw [← Nat.pow_add];exact Nat.pow_le_pow_right (by omega) hf))
theorem Z14:VH < 2 ^ 190 * 2 ^ 190:=by decide +kernel
theorem okAll (f:Nat) (hg:VH.testBit f=true):okF f=true:=by
 have hlt:f < 380:=by
  rcases Nat.lt_or_ge f 380 with h | h
  · exact h
  · have:VH.testBit f=false:=Z13 Z14 h;rw [this] at hg;cases hg
 by_cases h0:f < 20
 · exact Xq ok0 (by omega) (by omega) hg
 by_cases h20:f < 40
 · exact Xq ok20 (by omega) (by omega) hg
 by_cases h40:f < 60
 · exact Xq ok40 (by omega) (by omega) hg
 by_cases h60:f < 80
 · exact Xq ok60 (by omega) (by omega) hg
 by_cases h80:f < 100
 · exact Xq ok80 (by omega) (by omega) hg
 by_cases h100:f < 120
 · exact Xq ok100 (by omega) (by omega) hg
 by_cases h120:f < 140
 · exact Xq ok120 (by omega) (by omega) hg
 by_cases h140:f < 160
 · exact Xq ok140 (by omega) (by omega) hg
 by_cases h160:f < 180
 · exact Xq ok160 (by omega) (by omega) hg
 by_cases h180:f < 200
 · exact Xq ok180 (by omega) (by omega) hg
 by_cases h200:f < 220
 · exact Xq ok200 (by omega) (by omega) hg
 by_cases h220:f < 240
 · exact Xq ok220 (by omega) (by omega) hg
 by_cases h240:f < 260
 · exact Xq ok240 (by omega) (by omega) hg
 by_cases h260:f < 280
 · exact Xq ok260 (by omega) (by omega) hg
 by_cases h280:f < 300
 · exact Xq ok280 (by omega) (by omega) hg
 by_cases h300:f < 320
 · exact Xq ok300 (by omega) (by omega) hg
 by_cases h320:f < 340
 · exact Xq ok320 (by omega) (by omega) hg
 by_cases h340:f < 360
 · exact Xq ok340 (by omega) (by omega) hg
 by_cases h360:f < 380
 · exact Xq ok360 (by omega) (by omega) hg
 omega
theorem HK {f:Nat} {fn:Func} (h:Tryz.prog.funcs[f]? = some fn) (hb:fn.body.isSome=true) (hn:(fn.name == "runtime.NumGoroutine")=false):Uq Tryz.prog f:=⟨fn,h,hb,hn⟩
theorem JX:Sane NC where
 depth:=by decide +kernel
 orders:=by kernel_rfl
 good:=fun f hf=>by
  have h:=okAll f hf;unfold okF at h;split at h
  · rename_i fn hfn
    split at h
    · rename_i c hc
      simp only [Bool.and_eq_true,Bool.not_eq_true'] at h;exact ⟨fn,c,hfn,hc,h.1,h.2⟩
    · cases h
  · cases h
 memo:=fun f args v h=>by cases h
 prim:=fun f p args v hp h lo H=>by
  unfold NC at hp;simp only [] at hp;cases h2:Nat.beq f 107 with
  | true =>
    rw [h2] at hp;simp at hp;subst hp;have:=Nat.eq_of_beq_eq_true h2;subst this;exact Z0Y (C:=NC) (x:=1) rfl Tryz.laysM171 (HK Tryz.func107 (by kernel_rfl) (by kernel_rfl)) rfl (by kernel_rfl) h lo H
  | false =>
    rw [h2] at hp;cases h3:Nat.beq f 109 with
    | true =>
      rw [h3] at hp;simp at hp;subst hp;have:=Nat.eq_of_beq_eq_true h3;subst this;exact Z10 (C:=NC) rfl Tryz.lays156 Tryz.Builder_Extra_156 (HK Tryz.func109 (by kernel_rfl) (by kernel_rfl)) h lo H
    | false=>rw [h3] at hp;simp at hp
 hprim:=fun f p lo args H v H' hp h hl=>by cases hp
theorem nilA {P:PF} (f:FuncId):(NC.withPrims P).nilArg f=NC.nilArg f:=rfl
theorem nilN (f:FuncId):NC.nilArg f=(decide (f=239) || decide (f=277) || decide (f=278)):=rfl
theorem rfP {P:PF} {f:FuncId} {t:TypeId} (h:refM.testBit f=false):(NC.withPrims P).refApp f t=false:=by show (refM.testBit f && refT.testBit t)=false;rw [h];rfl
noncomputable def ZC (t i:Nat):Option (Nat × Nat):=match NC.P.underlying t with
 | some (.struct fs)=>Fx NC.P fs i
 | _=>none
noncomputable def ZH (t f:Nat):Option Nat:=match KQ NC.P t f with
 | some fd=>match Zh NC.P fd.type with
   | some (_+1)=>some fd.offset
   | _=>none
 | none=>none
def HL (id off:Nat):Option Nat→Option AV
 | some o=>some (.ptr id (off+o))
 | none=>none
def faPP (cs:List AV):Option Nat→Option AV
 | some o=>some (.pptr (cs.drop o))
 | none=>none
theorem Z15 (id off o:Nat):HL id off (some o)=some (.ptr id (off+o)):=rfl
theorem Z16 (cs:List AV) (o:Nat):faPP cs (some o)=some (.pptr (cs.drop o)):=rfl
theorem Z17 (t f id off:Nat):Js NC.P t (.ptr id off) f=HL id off (ZH t f):=by
 unfold Js ZH;cases KQ NC.P t f with
 | none=>rfl
 | some fd=>simp only [];cases Zh NC.P fd.type with
   | none=>rfl
   | some n=>cases n<;>rfl
theorem fa_pp (t f:Nat) (cs:List AV):Js NC.P t (.pptr cs) f=faPP cs (ZH t f):=by
 unfold Js ZH;cases KQ NC.P t f with
 | none=>rfl
 | some fd=>simp only [];cases Zh NC.P fd.type with
   | none=>rfl
   | some n=>cases n<;>rfl
theorem un_22:NC.P.underlying 22=some (.slice 53):=by kernel_rfl
theorem un_3:NC.P.underlying 3=some (.int .i64):=by kernel_rfl
theorem V8:NC.P.underlying 9=some (.string):=by kernel_rfl
theorem un_5:NC.P.underlying 5=some (.int .u8):=by kernel_rfl
theorem un_4:NC.P.underlying 4=some (.bool):=by kernel_rfl
theorem el_51:Yy NC.P 51=some 3:=by kernel_rfl
theorem sz_3:Zh NC.P 3=some 1:=by kernel_rfl
theorem ze_3:ZJ NC.P 3=some (.int .i64 0):=by kernel_rfl
theorem un_51:NC.P.underlying 51=some (.slice 3):=by kernel_rfl
theorem ze_49:ZJ NC.P 49=some (.agg [.int .i64 0,.ps .nil [],.ps .nil [],.ps .nil [],.ps .nil [],.ps .nil []]):=by kernel_rfl
theorem sz_53:Zh NC.P 53=some 5:=by kernel_rfl
theorem ag_53:aggOf NC.P 53=some true:=by kernel_rfl
theorem UI:ZJ NC.P 53=some (.agg [.int .i64 0,.str [],.ps .nil [],.ps .nil [],.str []]):=by kernel_rfl
theorem sz_49:Zh NC.P 49=some 6:=by kernel_rfl
theorem sz_46:Zh NC.P 46=some 1:=by kernel_rfl
theorem ag_46:aggOf NC.P 46=some false:=by kernel_rfl
theorem un_46:NC.P.underlying 46=some (.slice 59):=by kernel_rfl
theorem sz_44:Zh NC.P 44=some 1:=by kernel_rfl
theorem ag_44:aggOf NC.P 44=some false:=by kernel_rfl
theorem un_44:NC.P.underlying 44=some (.slice 65):=by kernel_rfl
theorem sz_45:Zh NC.P 45=some 1:=by kernel_rfl
theorem ag_45:aggOf NC.P 45=some false:=by kernel_rfl
theorem un_45:NC.P.underlying 45=some (.slice 61):=by kernel_rfl
theorem sz_59:Zh NC.P 59=some 10:=by kernel_rfl
theorem ag_59:aggOf NC.P 59=some true:=by kernel_rfl
theorem VI:ZJ NC.P 59=some (.agg [.str [],.str [],.int .i64 0,.int .i64 0,.bool false,.bool false,.bool false,.int .i64 0,.int .i64 0,.int .i64 0]):=by kernel_rfl
theorem sz_4:Zh NC.P 4=some 1:=by kernel_rfl
theorem ag_4:aggOf NC.P 4=some false:=by kernel_rfl
theorem sz_61:Zh NC.P 61=some 3:=by kernel_rfl
theorem ag_61:aggOf NC.P 61=some true:=by kernel_rfl
theorem VJ:ZJ NC.P 61=some (.agg [.str [],.str [],.int .i64 0]):=by kernel_rfl
theorem sz_9:Zh NC.P 9=some 1:=by kernel_rfl
theorem ag_9:aggOf NC.P 9=some false:=by kernel_rfl
theorem ag_3:aggOf NC.P 3=some false:=by kernel_rfl
theorem sz_43:Zh NC.P 43=some 1:=by kernel_rfl
theorem ag_43:aggOf NC.P 43=some false:=by kernel_rfl
theorem un_43:NC.P.underlying 43=some (.slice 63):=by kernel_rfl
theorem sz_63:Zh NC.P 63=some 2:=by kernel_rfl
theorem ag_63:aggOf NC.P 63=some true:=by kernel_rfl
theorem CJ:ZJ NC.P 63=some (.agg [.str [],.int .i64 0]):=by kernel_rfl
theorem sz_50:Zh NC.P 50=some 1:=by kernel_rfl
theorem ag_50:aggOf NC.P 50=some false:=by kernel_rfl
theorem un_50:NC.P.underlying 50=some (.slice 9):=by kernel_rfl
theorem sz_51:Zh NC.P 51=some 1:=by kernel_rfl
theorem ag_51:aggOf NC.P 51=some false:=by kernel_rfl
theorem sz_65:Zh NC.P 65=some 7:=by kernel_rfl
theorem ag_65:aggOf NC.P 65=some true:=by kernel_rfl
theorem Kr:ZJ NC.P 65=some (.agg [.str [],.str [],.int .i64 0,.int .i64 0,.int .i64 0,.bool false,.bool false]):=by kernel_rfl
theorem sz_47:Zh NC.P 47=some 1:=by kernel_rfl
theorem ag_47:aggOf NC.P 47=some false:=by kernel_rfl
theorem un_47:NC.P.underlying 47=some (.slice 67):=by kernel_rfl
theorem sz_67:Zh NC.P 67=some 2:=by kernel_rfl
theorem ag_67:aggOf NC.P 67=some true:=by kernel_rfl
theorem Kt:ZJ NC.P 67=some (.agg [.str [],.str []]):=by kernel_rfl
theorem ag_49:aggOf NC.P 49=some true:=by kernel_rfl
theorem CK:ZJ NC.P 73=some (.agg [.int .i64 0,.int .i64 0]):=by kernel_rfl
theorem sz_73:Zh NC.P 73=some 2:=by kernel_rfl
theorem un_73:NC.P.underlying 73=some (.array 2 3):=by kernel_rfl
theorem ag_73:aggOf NC.P 73=some true:=by kernel_rfl
theorem el_22:Yy NC.P 22=some 53:=by kernel_rfl
theorem by_53:XL NC.P 53=some 88:=by kernel_rfl
theorem Z18:NC.P.underlying 100=some (.slice 57):=by kernel_rfl
theorem bs_53 (parts:List (Nat × AV)):YU NC.P 53 parts=match Xb (fun i=>ZC 53 i) [.int .i64 0,.str [],.ps .nil [],.ps .nil [],.str []] parts with
 | some cs=>some (.agg cs)
 | none=>none:=by kernel_rfl
theorem Z19:ZC 53 0=some (0,1):=by kernel_rfl
theorem Z1a:ZC 53 1=some (1,1):=by kernel_rfl
theorem Z1b:ZC 53 2=some (2,1):=by kernel_rfl
theorem Z1c:ZC 53 3=some (3,1):=by kernel_rfl
theorem Z1d:ZC 53 4=some (4,1):=by kernel_rfl
theorem ze_4:ZJ NC.P 4=some (.bool false):=by kernel_rfl
theorem by_3:XL NC.P 3=some 8:=by kernel_rfl
theorem sz_5:Zh NC.P 5=some 1:=by kernel_rfl
theorem Z1e:NC.P.underlying 129=some (.slice 5):=by kernel_rfl
theorem sz_22:Zh NC.P 22=some 1:=by kernel_rfl
theorem ag_22:aggOf NC.P 22=some false:=by kernel_rfl
theorem el_50:Yy NC.P 50=some 9:=by kernel_rfl
theorem ze_9:ZJ NC.P 9=some (.str []):=by kernel_rfl
theorem ze_57:ZJ NC.P 57=some (.agg [.int .i64 0,.int .i64 0]):=by kernel_rfl
theorem bs_57 (parts:List (Nat × AV)):YU NC.P 57 parts=match Xb (fun i=>ZC 57 i) [.int .i64 0,.int .i64 0] parts with
 | some cs=>some (.agg cs)
 | none=>none:=by kernel_rfl
theorem Z1f:ZC 57 0=some (0,1):=by kernel_rfl
theorem Z1g:ZC 57 1=some (1,1):=by kernel_rfl
theorem sz_57:Zh NC.P 57=some 2:=by kernel_rfl
theorem ag_57:aggOf NC.P 57=some true:=by kernel_rfl
theorem Z1h:ZJ NC.P 160=some (.agg [.str [],.str [],.int .i64 0]):=by kernel_rfl
theorem Z1i (parts:List (Nat × AV)):YU NC.P 160 parts=match Xb (fun i=>ZC 160 i) [.str [],.str [],.int .i64 0] parts with
 | some cs=>some (.agg cs)
 | none=>none:=by kernel_rfl
theorem Z1j:ZC 160 0=some (0,1):=by kernel_rfl
theorem Z1k:ZC 160 1=some (1,1):=by kernel_rfl
theorem Z1l:ZC 160 2=some (2,1):=by kernel_rfl
theorem Z1m:Yy NC.P 161=some 160:=by kernel_rfl
theorem Z1n:Zh NC.P 160=some 3:=by kernel_rfl
theorem Z1o:NC.P.underlying 161=some (.slice 160):=by kernel_rfl
theorem Z1p:Yy NC.P 100=some 57:=by kernel_rfl
theorem CL:NC.P.underlying 176=some (.map 9 175):=by kernel_rfl
theorem Z1q:ZJ NC.P 175=some (.agg [.str [],.int .i64 0,.nilf,.nilf]):=by kernel_rfl
theorem by_9:XL NC.P 9=some 16:=by kernel_rfl
theorem un_25:NC.P.underlying 25=some (.int .i64):=by kernel_rfl
theorem Z1r:Yy NC.P 241=some 25:=by kernel_rfl
theorem sz_25:Zh NC.P 25=some 1:=by kernel_rfl
theorem ze_25:ZJ NC.P 25=some (.int .i64 0):=by kernel_rfl
theorem Z1s:NC.P.underlying 241=some (.slice 25):=by kernel_rfl
theorem Z1t:ZJ NC.P 199=some (.agg [.str [],.int .i64 0,.bool false]):=by kernel_rfl
theorem Z1u:Zh NC.P 199=some 3:=by kernel_rfl
theorem Z1v:Zh NC.P 170=some 8:=by kernel_rfl
theorem Z1w:aggOf NC.P 170=some true:=by kernel_rfl
theorem Z1x:ZJ NC.P 203=some (.agg [.ps .nil [],.ps .nil [],.int .i64 0,.ps .nil [],.ps .nil [],.ps .nil [],.ps .nil [],.ps .nil []]):=by kernel_rfl
theorem Z1y (parts:List (Nat × AV)):YU NC.P 203 parts=match Xb (fun i=>ZC 203 i) [.ps .nil [],.ps .nil [],.int .i64 0,.ps .nil [],.ps .nil [],.ps .nil [],.ps .nil [],.ps .nil []] parts with
 | some cs=>some (.agg cs)
 | none=>none:=by kernel_rfl
theorem Z1z:ZC 203 0=some (0,8):=by kernel_rfl
theorem CM:NC.P.underlying 214=some (.map 9 212):=by kernel_rfl
theorem Z1A:ZJ NC.P 212=some (.agg [.int .u8 0,.nilf]):=by kernel_rfl
theorem Z1B:Zh NC.P 212=some 2:=by kernel_rfl
theorem Z1C:aggOf NC.P 212=some true:=by kernel_rfl
theorem Z1D:Zh NC.P 175=some 4:=by kernel_rfl
theorem Z1E:aggOf NC.P 160=some true:=by kernel_rfl
theorem ag_25:aggOf NC.P 25=some false:=by kernel_rfl
theorem Z1F:ZJ NC.P 170=some (.agg [.ps .nil [],.ps .nil [],.int .i64 0,.ps .nil [],.ps .nil [],.ps .nil [],.ps .nil [],.ps .nil []]):=by kernel_rfl
theorem Z1G (parts:List (Nat × AV)):YU NC.P 170 parts=match Xb (fun i=>ZC 170 i) [.ps .nil [],.ps .nil [],.int .i64 0,.ps .nil [],.ps .nil [],.ps .nil [],.ps .nil [],.ps .nil []] parts with
 | some cs=>some (.agg cs)
 | none=>none:=by kernel_rfl
theorem Z1H:ZC 170 0=some (0,1):=by kernel_rfl
theorem Z1I:ZC 170 1=some (1,1):=by kernel_rfl
theorem Z1J:ZC 170 2=some (2,6):=by kernel_rfl
theorem Z1K (parts:List (Nat × AV)):YU NC.P 175 parts=match Xb (fun i=>ZC 175 i) [.str [],.int .i64 0,.nilf,.nilf] parts with
 | some cs=>some (.agg cs)
 | none=>none:=by kernel_rfl
theorem Z1L:ZC 175 0=some (0,1):=by kernel_rfl
theorem Z1M:ZC 175 1=some (1,1):=by kernel_rfl
theorem Z1N:ZC 175 2=some (2,1):=by kernel_rfl
theorem Z1O:ZC 175 3=some (3,1):=by kernel_rfl
theorem Z1P (parts:List (Nat × AV)):YU NC.P 199 parts=match Xb (fun i=>ZC 199 i) [.str [],.int .i64 0,.bool false] parts with
 | some cs=>some (.agg cs)
 | none=>none:=by kernel_rfl
theorem Z1Q:ZC 199 0=some (0,1):=by kernel_rfl
theorem Z1R:ZC 199 1=some (1,1):=by kernel_rfl
theorem Z1S:ZC 199 2=some (2,1):=by kernel_rfl
theorem Z1T (parts:List (Nat × AV)):YU NC.P 212 parts=match Xb (fun i=>ZC 212 i) [.int .u8 0,.nilf] parts with
 | some cs=>some (.agg cs)
 | none=>none:=by kernel_rfl
theorem Z1U:ZC 212 0=some (0,1):=by kernel_rfl
theorem Z1V:ZC 212 1=some (1,1):=by kernel_rfl
theorem ag_5:aggOf NC.P 5=some false:=by kernel_rfl
theorem Z1W:Zh NC.P 210=some 1:=by kernel_rfl
theorem Z1X:aggOf NC.P 210=some false:=by kernel_rfl
theorem Z1Y:ZJ NC.P 297=some (.agg [.ps .nil [],.bool false]):=by kernel_rfl
theorem Z1Z (parts:List (Nat × AV)):YU NC.P 297 parts=match Xb (fun i=>ZC 297 i) [.ps .nil [],.bool false] parts with
 | some cs=>some (.agg cs)
 | none=>none:=by kernel_rfl
theorem Z20:ZC 297 0=some (0,1):=by kernel_rfl
theorem Z21:ZC 297 1=some (1,1):=by kernel_rfl
theorem Z22:aggOf NC.P 175=some true:=by kernel_rfl
theorem Z23:Zh NC.P 172=some 1:=by kernel_rfl
theorem Z24:aggOf NC.P 172=some false:=by kernel_rfl
theorem by_25:XL NC.P 25=some 8:=by kernel_rfl
theorem un_21:NC.P.underlying 21=some (.int .i32):=by kernel_rfl
theorem bs_63 (parts:List (Nat × AV)):YU NC.P 63 parts=match Xb (fun i=>ZC 63 i) [.str [],.int .i64 0] parts with
 | some cs=>some (.agg cs)
 | none=>none:=by kernel_rfl
theorem Z25:ZC 63 0=some (0,1):=by kernel_rfl
theorem Z26:ZC 63 1=some (1,1):=by kernel_rfl
theorem el_43:Yy NC.P 43=some 63:=by kernel_rfl
theorem by_63:XL NC.P 63=some 24:=by kernel_rfl
theorem bs_65 (parts:List (Nat × AV)):YU NC.P 65 parts=match Xb (fun i=>ZC 65 i) [.str [],.str [],.int .i64 0,.int .i64 0,.int .i64 0,.bool false,.bool false] parts with
 | some cs=>some (.agg cs)
 | none=>none:=by kernel_rfl
theorem Z27:ZC 65 0=some (0,1):=by kernel_rfl
theorem Z28:ZC 65 1=some (1,1):=by kernel_rfl
theorem Z29:ZC 65 2=some (2,2):=by kernel_rfl
theorem Z2a:ZC 65 3=some (4,1):=by kernel_rfl
theorem Z2b:ZC 65 4=some (5,1):=by kernel_rfl
theorem Z2c:ZC 65 5=some (6,1):=by kernel_rfl
theorem el_44:Yy NC.P 44=some 65:=by kernel_rfl
theorem by_65:XL NC.P 65=some 64:=by kernel_rfl
theorem bs_61 (parts:List (Nat × AV)):YU NC.P 61 parts=match Xb (fun i=>ZC 61 i) [.str [],.str [],.int .i64 0] parts with
 | some cs=>some (.agg cs)
 | none=>none:=by kernel_rfl
theorem Z2d:ZC 61 0=some (0,1):=by kernel_rfl
theorem Z2e:ZC 61 1=some (1,1):=by kernel_rfl
theorem Z2f:ZC 61 2=some (2,1):=by kernel_rfl
theorem el_45:Yy NC.P 45=some 61:=by kernel_rfl
theorem by_61:XL NC.P 61=some 40:=by kernel_rfl
theorem bs_59 (parts:List (Nat × AV)):YU NC.P 59 parts=match Xb (fun i=>ZC 59 i) [.str [],.str [],.int .i64 0,.int .i64 0,.bool false,.bool false,.bool false,.int .i64 0,.int .i64 0,.int .i64 0] parts with
 | some cs=>some (.agg cs)
 | none=>none:=by kernel_rfl
theorem Z2g:ZC 59 0=some (0,1):=by kernel_rfl
theorem Z2h:ZC 59 1=some (1,1):=by kernel_rfl
theorem Z2i:ZC 59 2=some (2,2):=by kernel_rfl
theorem Z2j:ZC 59 3=some (4,1):=by kernel_rfl
theorem Z2k:ZC 59 4=some (5,1):=by kernel_rfl
theorem Z2l:ZC 59 5=some (6,1):=by kernel_rfl
theorem Z2m:ZC 59 6=some (7,1):=by kernel_rfl
theorem Z2n:ZC 59 7=some (8,1):=by kernel_rfl
theorem Z2o:ZC 59 8=some (9,1):=by kernel_rfl
theorem el_46:Yy NC.P 46=some 59:=by kernel_rfl
theorem by_59:XL NC.P 59=some 80:=by kernel_rfl
theorem bs_67 (parts:List (Nat × AV)):YU NC.P 67 parts=match Xb (fun i=>ZC 67 i) [.str [],.str []] parts with
 | some cs=>some (.agg cs)
 | none=>none:=by kernel_rfl
theorem Z2p:ZC 67 0=some (0,1):=by kernel_rfl
theorem Z2q:ZC 67 1=some (1,1):=by kernel_rfl
theorem el_47:Yy NC.P 47=some 67:=by kernel_rfl
theorem by_67:XL NC.P 67=some 32:=by kernel_rfl
theorem Z2r:Zh NC.P 163=some 1:=by kernel_rfl
theorem Z2s:aggOf NC.P 163=some false:=by kernel_rfl
theorem Z2t:Zh NC.P 272=some 1:=by kernel_rfl
theorem Z2u:aggOf NC.P 272=some false:=by kernel_rfl
theorem Z2v:Zh NC.P 274=some 1:=by kernel_rfl
theorem Z2w:aggOf NC.P 274=some false:=by kernel_rfl
theorem Z2x:Zh NC.P 173=some 1:=by kernel_rfl
theorem Z2y:aggOf NC.P 173=some false:=by kernel_rfl
theorem Z2z:ZH 49 4=some 4:=by kernel_rfl
theorem Z2A:ZH 49 2=some 2:=by kernel_rfl
theorem Z2B:ZH 49 3=some 3:=by kernel_rfl
theorem Z2C:ZH 59 3=some 4:=by kernel_rfl
theorem Z2D:ZH 61 1=some 1:=by kernel_rfl
theorem Z2E:ZH 59 1=some 1:=by kernel_rfl
theorem Z2F:ZH 59 2=some 2:=by kernel_rfl
theorem Z2G:ZH 57 0=some 0:=by kernel_rfl
theorem Z2H:ZH 57 1=some 1:=by kernel_rfl
theorem Z2I:ZH 53 1=some 1:=by kernel_rfl
theorem Z2J:ZH 49 1=some 1:=by kernel_rfl
theorem Z2K:ZH 63 0=some 0:=by kernel_rfl
theorem Z2L:ZH 53 2=some 2:=by kernel_rfl
theorem Z2M:ZH 53 3=some 3:=by kernel_rfl
theorem Z2N:ZH 63 1=some 1:=by kernel_rfl
theorem Z2O:ZH 65 1=some 1:=by kernel_rfl
theorem Z2P:ZH 65 5=some 6:=by kernel_rfl
theorem Z2Q:ZH 65 4=some 5:=by kernel_rfl
theorem Z2R:ZH 65 3=some 4:=by kernel_rfl
theorem Z2S:ZH 49 5=some 5:=by kernel_rfl
theorem Z2T:ZH 67 1=some 1:=by kernel_rfl
theorem Z2U:ZH 59 0=some 0:=by kernel_rfl
theorem Z2V:ZH 59 7=some 8:=by kernel_rfl
theorem Z2W:ZH 59 5=some 6:=by kernel_rfl
theorem Z2X:ZH 59 4=some 5:=by kernel_rfl
theorem Z2Y:ZH 59 6=some 7:=by kernel_rfl
theorem Z2Z:ZH 65 0=some 0:=by kernel_rfl
theorem Z30:ZH 65 2=some 2:=by kernel_rfl
theorem Z31:ZH 53 0=some 0:=by kernel_rfl
theorem Z32:ZH 49 0=some 0:=by kernel_rfl
theorem Z33:ZH 53 4=some 4:=by kernel_rfl
theorem Z34:ZH 170 1=some 1:=by kernel_rfl
theorem Z35:ZH 175 3=some 3:=by kernel_rfl
theorem Z36:ZH 170 2=some 2:=by kernel_rfl
theorem Z37:ZH 199 2=some 2:=by kernel_rfl
theorem Z38:ZH 199 0=some 0:=by kernel_rfl
theorem Z39:ZH 199 1=some 1:=by kernel_rfl
theorem Z3a:ZH 203 0=some 0:=by kernel_rfl
theorem Z3b:ZH 170 0=some 0:=by kernel_rfl
theorem Z3c:ZH 175 0=some 0:=by kernel_rfl
theorem Z3d:ZH 175 1=some 1:=by kernel_rfl
theorem Z3e:ZH 160 0=some 0:=by kernel_rfl
theorem Z3f:ZH 160 1=some 1:=by kernel_rfl
theorem Z3g:ZH 160 2=some 2:=by kernel_rfl
theorem Z3h:ZH 212 0=some 0:=by kernel_rfl
theorem Z3i:ZH 212 1=some 1:=by kernel_rfl
theorem Z3j:ZH 297 1=some 1:=by kernel_rfl
theorem Z3k:ZH 297 0=some 0:=by kernel_rfl
theorem Z3l:ZH 175 2=some 2:=by kernel_rfl
theorem Z3m:ZH 59 8=some 9:=by kernel_rfl
theorem Z3n:ZH 61 0=some 0:=by kernel_rfl
theorem Z3o:ZH 67 0=some 0:=by kernel_rfl
abbrev Pl (f r:Nat) (q:List OpI):Prop:=∀ P:PF,(NC.withPrims P).plans f r=q
theorem Zl {f r:Nat} {q:List OpI} (h:NC.plans f r=q):Pl f r q:=fun _=>h
theorem Z3p:Pl 6 6 q6_6:=Zl (by kernel_rfl)
theorem Z3q:Pl 6 9 q6_9:=Zl (by kernel_rfl)
theorem Z3r:Pl 16 14 Ds:=Zl (by kernel_rfl)
theorem Z3s:Pl 22 6 Dt:=Zl (by kernel_rfl)
theorem Z3t:Pl 30 6 Du:=Zl (by kernel_rfl)
theorem Z3u:Pl 31 2 Dv:=Zl (by kernel_rfl)
theorem Z3v:Pl 35 5 Dw:=Zl (by kernel_rfl)
theorem Z3w:Pl 38 7 Dx:=Zl (by kernel_rfl)
theorem Z3x:Pl 38 9 Dy:=Zl (by kernel_rfl)
theorem Z3y:Pl 38 10 Dz:=Zl (by kernel_rfl)
theorem Z3z:Pl 38 14 DA:=Zl (by kernel_rfl)
theorem Z3A:Pl 38 20 DB:=Zl (by kernel_rfl)
theorem Z3B:Pl 38 23 DC:=Zl (by kernel_rfl)
theorem Z3C:Pl 57 1 DD:=Zl (by kernel_rfl)
theorem Z3D:Pl 57 2 DE:=Zl (by kernel_rfl)
theorem Z3E:Pl 73 4 DF:=Zl (by kernel_rfl)
theorem Z3F:Pl 75 12 DG:=Zl (by kernel_rfl)
theorem Z3G:Pl 75 16 DH:=Zl (by kernel_rfl)
theorem Z3H:Pl 76 1 DI:=Zl (by kernel_rfl)
theorem Z3I:Pl 83 6 DJ:=Zl (by kernel_rfl)
theorem Z3J:Pl 84 1 DK:=Zl (by kernel_rfl)
theorem Z3K:Pl 91 4 DL:=Zl (by kernel_rfl)
theorem Z3L:Pl 91 11 DM:=Zl (by kernel_rfl)
theorem Z3M:Pl 92 5 DN:=Zl (by kernel_rfl)
theorem Z3N:Pl 96 1 DO:=Zl (by kernel_rfl)
theorem Z3O:Pl 100 13 DP:=Zl (by kernel_rfl)
theorem Z3P:Pl 103 6 DQ:=Zl (by kernel_rfl)
theorem Z3Q:Pl 103 10 DR:=Zl (by kernel_rfl)
theorem Z3R:Pl 104 4 DS:=Zl (by kernel_rfl)
theorem Z3S:Pl 104 16 DT:=Zl (by kernel_rfl)
theorem Z3T:Pl 105 1 DU:=Zl (by kernel_rfl)
theorem Z3U:Pl 105 6 DV:=Zl (by kernel_rfl)
theorem Z3V:Pl 105 8 DW:=Zl (by kernel_rfl)
theorem Z3W:Pl 105 10 DX:=Zl (by kernel_rfl)
theorem Z3X:Pl 105 11 DY:=Zl (by kernel_rfl)
theorem Z3Y:Pl 105 14 DZ:=Zl (by kernel_rfl)
theorem Z3Z:Pl 106 2 C0:=Zl (by kernel_rfl)
theorem Z40:Pl 106 4 C1:=Zl (by kernel_rfl)
theorem Z41:Pl 106 6 C3:=Zl (by kernel_rfl)
theorem Z42:Pl 106 7 C4:=Zl (by kernel_rfl)
theorem Z43:Pl 126 5 C5:=Zl (by kernel_rfl)
theorem Z44:Pl 152 1 C6:=Zl (by kernel_rfl)
theorem Z45:Pl 154 1 C7:=Zl (by kernel_rfl)
theorem Z46:Pl 155 1 C8:=Zl (by kernel_rfl)
theorem Z47:Pl 156 2 C9:=Zl (by kernel_rfl)
theorem Z48:Pl 157 1 Ca:=Zl (by kernel_rfl)
theorem Z49:Pl 157 2 Cb:=Zl (by kernel_rfl)
theorem Z4a:Pl 158 2 Cc:=Zl (by kernel_rfl)
theorem Z4b:Pl 159 2 Cd:=Zl (by kernel_rfl)
theorem Z4c:Pl 161 1 Ce:=Zl (by kernel_rfl)
theorem Z4d:Pl 161 2 Cf:=Zl (by kernel_rfl)
theorem Z4e:Pl 161 3 Cg:=Zl (by kernel_rfl)
theorem Z4f:Pl 163 1 Ch:=Zl (by kernel_rfl)
theorem Z4g:Pl 163 2 Ci:=Zl (by kernel_rfl)
theorem Z4h:Pl 164 1 Cj:=Zl (by kernel_rfl)
theorem Z4i:Pl 168 1 Ck:=Zl (by kernel_rfl)
theorem Z4j:Pl 169 4 Cl:=Zl (by kernel_rfl)
theorem Z4k:Pl 170 2 Cm:=Zl (by kernel_rfl)
theorem Z4l:Pl 175 1 Co:=Zl (by kernel_rfl)
theorem Z4m:Pl 177 1 Cp:=Zl (by kernel_rfl)
theorem Z4n:Pl 178 1 Cq:=Zl (by kernel_rfl)
theorem Z4o:Pl 181 1 Cr:=Zl (by kernel_rfl)
theorem Z4p:Pl 182 1 Cs:=Zl (by kernel_rfl)
theorem Z4q:Pl 183 1 Ct:=Zl (by kernel_rfl)
theorem Z4r:Pl 184 1 Cu:=Zl (by kernel_rfl)
theorem Z4s:Pl 185 1 Cv:=Zl (by kernel_rfl)
theorem Z4t:Pl 186 1 Cw:=Zl (by kernel_rfl)
theorem Z4u:Pl 188 1 Cx:=Zl (by kernel_rfl)
theorem Z4v:Pl 189 1 Cy:=Zl (by kernel_rfl)
theorem Z4w:Pl 190 1 Cz:=Zl (by kernel_rfl)
theorem Z4x:Pl 192 2 CA:=Zl (by kernel_rfl)
theorem Z4y:Pl 200 1 CB:=Zl (by kernel_rfl)
theorem Z4z:Pl 202 3 CD:=Zl (by kernel_rfl)
theorem Z4A:Pl 204 8 CF:=Zl (by kernel_rfl)
theorem Z4B:Pl 231 9 CG:=Zl (by kernel_rfl)
theorem Z4C:Pl 236 1 CH:=Zl (by kernel_rfl)
theorem Z4D:Pl 274 1 CI:=Zl (by kernel_rfl)
abbrev Rf (f:FuncId):Prop:=∀ (P:PF) (t:TypeId),(NC.withPrims P).refApp f t=false
theorem Yz {f:FuncId} (h:refM.testBit f=false):Rf f:=fun P t=>Eq.trans (rfP h) rfl
theorem rf_6:Rf 6:=Yz (by decide +kernel)
theorem rf_16:Rf 16:=Yz (by decide +kernel)
theorem rf_32:Rf 32:=Yz (by decide +kernel)
theorem rf_33:Rf 33:=Yz (by decide +kernel)
theorem rf_85:Rf 85:=Yz (by decide +kernel)
theorem rf_98:Rf 98:=Yz (by decide +kernel)
theorem Z4E:Rf 100:=Yz (by decide +kernel)
theorem Z4F:Rf 104:=Yz (by decide +kernel)
theorem Z4G (P:PF):(NC.withPrims P).refApp 106 22=true:=Eq.trans (by kernel_rfl) rfl
theorem Z4H:Rf 108:=Yz (by decide +kernel)
theorem Z4I:Rf 110:=Yz (by decide +kernel)
theorem Z4J:Rf 121:=Yz (by decide +kernel)
theorem Z4K:Rf 129:=Yz (by decide +kernel)
theorem Z4L:Rf 132:=Yz (by decide +kernel)
theorem Z4M:Rf 155:=Yz (by decide +kernel)
theorem Z4N (P:PF):(NC.withPrims P).refApp 158 44=true:=Eq.trans (by kernel_rfl) rfl
theorem Z4O:Rf 164:=Yz (by decide +kernel)
theorem Z4P:Rf 167:=Yz (by decide +kernel)
theorem Z4Q (P:PF):(NC.withPrims P).refApp 170 46=true:=Eq.trans (by kernel_rfl) rfl
theorem Z4R:Rf 178:=Yz (by decide +kernel)
theorem Z4S:Rf 180:=Yz (by decide +kernel)
theorem Z4T:Rf 196:=Yz (by decide +kernel)
theorem Z4U:Rf 200:=Yz (by decide +kernel)
theorem Z4V:Rf 213:=Yz (by decide +kernel)
theorem Z4W:Rf 221:=Yz (by decide +kernel)
theorem Z4X:Rf 244:=Yz (by decide +kernel)
theorem Z4Y:Rf 264:=Yz (by decide +kernel)
theorem Z4Z:Rf 279:=Yz (by decide +kernel)
abbrev Ks (b:Array UInt8) (l:List Nat):Prop:=∀ {C:Cfg} {T:TT AV},Z4 C T (.const (.string { data:=b }))=some (.str l)
theorem ks_3:Ks #[100,111,110,101,32,49] [100,111,110,101,32,49]:=rfl
theorem ks_4:Ks #[100,111,110,101,32,50] [100,111,110,101,32,50]:=rfl
theorem ks_5:Ks #[101,110,116,101,114,32,116,32,117,112,32,49,32,51,48] [101,110,116,101,114,32,116,32,117,112,32,49,32,51,48]:=rfl
theorem ks_6:Ks #[100,111,110,101,32,51] [100,111,110,101,32,51]:=rfl
theorem ks_7:Ks #[52,48] [52,48]:=rfl
theorem ks_8:Ks #[101,110,116,101,114,32,116,32,117,112,32,50,32,53,48] [101,110,116,101,114,32,116,32,117,112,32,50,32,53,48]:=rfl
theorem ks_9:Ks #[116,97,107,101,32,112,32,117,112,32,51,32,57,48,32,50,48,48] [116,97,107,101,32,112,32,117,112,32,51,32,57,48,32,50,48,48]:=rfl
theorem ks_10:Ks #[100,111,110,101,32,52] [100,111,110,101,32,52]:=rfl
theorem ks_11:Ks #[101,110,116,101,114,32,116,32,117,112,32,51,32,51,48] [101,110,116,101,114,32,116,32,117,112,32,51,32,51,48]:=rfl
theorem ks_12:Ks #[105,110,32,114,97,109,32,112,32,51] [105,110,32,114,97,109,32,112,32,51]:=rfl
theorem ks_13:Ks #[112,114,111,116,101,99,116,32,112,32,51] [112,114,111,116,101,99,116,32,112,32,51]:=rfl
theorem ks_14:Ks #[100,111,110,101,32,53] [100,111,110,101,32,53]:=rfl
theorem ks_15:Ks #[105,110,32,116,97,109,112,101,114,32,112,32,52] [105,110,32,116,97,109,112,101,114,32,112,32,52]:=rfl
theorem ks_16:Ks #[100,111,110,101,32,54] [100,111,110,101,32,54]:=rfl
theorem ks_17:Ks #[115,116,97,102,102,32,112,32,52,32,53] [115,116,97,102,102,32,112,32,52,32,53]:=rfl
theorem ks_18:Ks #[100,111,110,101,32,55] [100,111,110,101,32,55]:=rfl
theorem ks_19:Ks #[116,97,107,101,32,113,32,117,112,32,52,32,49,57,57,32,51,48,48] [116,97,107,101,32,113,32,117,112,32,52,32,49,57,57,32,51,48,48]:=rfl
theorem ks_20:Ks #[116,97,109,112,101,114,32,115,116,97,102,102,32,112,114,111,116,101,99,116,105,111,110] [116,97,109,112,101,114,32,115,116,97,102,102,32,112,114,111,116,101,99,116,105,111,110]:=rfl
theorem ks_21:Ks #[114,101,116,117,114,110,32,112,32,53] [114,101,116,117,114,110,32,112,32,53]:=rfl
theorem ks_22:Ks #[99,108,101,97,114,32,112,32,53] [99,108,101,97,114,32,112,32,53]:=rfl
theorem ks_23:Ks #[114,101,112,97,105,114,32,102,32,112,32,53] [114,101,112,97,105,114,32,102,32,112,32,53]:=rfl
theorem ks_24:Ks #[100,111,110,101,32,56] [100,111,110,101,32,56]:=rfl
theorem ks_25:Ks #[111,117,116,32,116,97,109,112,101,114,32,54] [111,117,116,32,116,97,109,112,101,114,32,54]:=rfl
theorem ks_26:Ks #[100,111,110,101,32,57] [100,111,110,101,32,57]:=rfl
theorem ks_27:Ks #[111,102,102,32,112,32,54,32,53] [111,102,102,32,112,32,54,32,53]:=rfl
theorem ks_28:Ks #[100,111,110,101,32,49,48] [100,111,110,101,32,49,48]:=rfl
theorem ks_29:Ks #[99,108,101,97,114,32,112,32,55] [99,108,101,97,114,32,112,32,55]:=rfl
theorem ks_30:Ks #[100,111,110,101,32,49,49] [100,111,110,101,32,49,49]:=rfl
theorem ks_31:Ks #[98,97,114,114,105,101,114,32,112] [98,97,114,114,105,101,114,32,112]:=rfl
theorem ks_32:Ks #[114,101,116,117,114,110,32,112,32,56] [114,101,116,117,114,110,32,112,32,56]:=rfl
theorem ks_33:Ks #[111,112,101,110,32,112,32,56] [111,112,101,110,32,112,32,56]:=rfl
theorem ks_34:Ks #[100,111,110,101,32,49,50] [100,111,110,101,32,49,50]:=rfl
theorem ks_35:Ks #[99,108,111,115,101,32,112,32,57,32,56,48] [99,108,111,115,101,32,112,32,57,32,56,48]:=rfl
theorem ks_36:Ks #[100,111,110,101,32,49,51] [100,111,110,101,32,49,51]:=rfl
theorem ks_37:Ks #[114,101,116,117,114,110,32,112,32,57] [114,101,116,117,114,110,32,112,32,57]:=rfl
theorem ks_38:Ks #[100,111,110,101,32,49,52] [100,111,110,101,32,49,52]:=rfl
theorem ks_39:Ks #[56,48] [56,48]:=rfl
theorem ks_40:Ks #[114,97,105,115,101,32,112,32,49,48,32,56,48] [114,97,105,115,101,32,112,32,49,48,32,56,48]:=rfl
theorem ks_41:Ks #[114,97,105,115,101,32,112,32,49,48,32,49,54,48] [114,97,105,115,101,32,112,32,49,48,32,49,54,48]:=rfl
theorem ks_42:Ks #[100,111,110,101,32,49,53] [100,111,110,101,32,49,53]:=rfl
theorem ks_43:Ks #[115,112,101,101,100,32,117,112] [115,112,101,101,100,32,117,112]:=rfl
theorem ks_44:Ks #[49,54,48] [49,54,48]:=rfl
theorem ks_45:Ks #[49] [49]:=rfl
theorem ks_46:Ks #[49,49] [49,49]:=rfl
theorem ks_47:Ks #[48,49,51,55,52,54,49] [48,49,51,55,52,54,49]:=rfl
theorem ks_48:Ks #[100,111,110,101,32] [100,111,110,101,32]:=rfl
theorem ks_49:Ks #[116,114,97,99,107,32,117,112,32,48,32,49,54,48] [116,114,97,99,107,32,117,112,32,48,32,49,54,48]:=rfl
theorem ks_50:Ks #[102,97,117,108,116,32,102,32,117,112,32,49,32,49,48,48,32,49,50,48,32,52,48] [102,97,117,108,116,32,102,32,117,112,32,49,32,49,48,48,32,49,50,48,32,52,48]:=rfl
theorem ks_51:Ks #[97,110,115,119,101,114,32,102,32,50] [97,110,115,119,101,114,32,102,32,50]:=rfl
theorem ks_52:Ks #[117,112] [117,112]:=rfl
theorem ks_53:Ks #[48] [48]:=rfl
theorem ks_54:Ks #[109,101,97,115,117,114,101,109,101,110,116] [109,101,97,115,117,114,101,109,101,110,116]:=rfl
theorem ks_55:Ks #[112,114,111,116,101,99,116,105,111,110] [112,114,111,116,101,99,116,105,111,110]:=rfl
theorem ks_56:Ks #[35] [35]:=rfl
theorem ks_57:Ks #[10] [10]:=rfl
theorem ks_58:Ks #[84] [84]:=rfl
theorem ks_59:Ks #[70,116] [70,116]:=rfl
theorem ks_60:Ks #[102] [102]:=rfl
theorem ks_61:Ks #[102,112] [102,112]:=rfl
theorem ks_62:Ks #[82,116] [82,116]:=rfl
theorem ks_63:Ks #[114] [114]:=rfl
theorem ks_64:Ks #[80,116] [80,116]:=rfl
theorem ks_65:Ks #[112] [112]:=rfl
theorem ks_66:Ks #[77,112] [77,112]:=rfl
theorem ks_67:Ks #[109] [109]:=rfl
theorem ks_68:Ks #[115,112,101,101,100] [115,112,101,101,100]:=rfl
theorem ks_69:Ks #[116,114,97,105,110,115] [116,114,97,105,110,115]:=rfl
theorem ks_70:Ks #[98,97,114,114,105,101,114] [98,97,114,114,105,101,114]:=rfl
theorem ks_71:Ks #[112,101,114,115,111,110,115] [112,101,114,115,111,110,115]:=rfl
theorem ks_72:Ks #[115,105,108,101,110,116] [115,105,108,101,110,116]:=rfl
theorem ks_73:Ks #[116,97,107,101,110] [116,97,107,101,110]:=rfl
theorem ks_74:Ks #[109,97,99,104,105,110,101,115] [109,97,99,104,105,110,101,115]:=rfl
theorem ks_75:Ks #[114,101,116,117,114,110] [114,101,116,117,114,110]:=rfl
theorem ks_76:Ks #[117,110,100,111] [117,110,100,111]:=rfl
theorem ks_77:Ks #[116,97,107,101] [116,97,107,101]:=rfl
theorem ks_78:Ks #[110,111,110,101] [110,111,110,101]:=rfl
theorem ks_79:Ks #[32] [32]:=rfl
theorem ks_80:Ks #[45] [45]:=rfl
theorem ks_81:Ks #[48,49,50,51,52,53,54,55,56,57] [48,49,50,51,52,53,54,55,56,57]:=rfl
theorem ks_83:Ks #[116,114,97,99,107] [116,114,97,99,107]:=rfl
theorem ks_84:Ks #[102,97,117,108,116] [102,97,117,108,116]:=rfl
theorem ks_85:Ks #[97,110,115,119,101,114] [97,110,115,119,101,114]:=rfl
theorem ks_86:Ks #[114,101,112,97,105,114] [114,101,112,97,105,114]:=rfl
theorem ks_87:Ks #[101,110,116,101,114] [101,110,116,101,114]:=rfl
theorem ks_88:Ks #[108,101,97,118,101] [108,101,97,118,101]:=rfl
theorem ks_89:Ks #[111,117,116] [111,117,116]:=rfl
theorem ks_90:Ks #[114,97,105,115,101] [114,97,105,115,101]:=rfl
theorem ks_91:Ks #[112,114,111,116,101,99,116] [112,114,111,116,101,99,116]:=rfl
theorem ks_92:Ks #[99,108,101,97,114] [99,108,101,97,114]:=rfl
theorem ks_93:Ks #[105,110] [105,110]:=rfl
theorem ks_94:Ks #[115,116,97,102,102] [115,116,97,102,102]:=rfl
theorem ks_95:Ks #[111,102,102] [111,102,102]:=rfl
theorem ks_96:Ks #[111,112,101,110] [111,112,101,110]:=rfl
theorem ks_97:Ks #[99,108,111,115,101] [99,108,111,115,101]:=rfl
theorem Z50:Ks #[] []:=rfl
end Go.Sim

namespace Go.Sim
open Go
variable {C:Cfg} {g:Gh} {n:Nat} {H:Heap} {w:World} {P:PF}
def VK (lo:Nat):Heap→List AV→Option (List AV × Heap)
 | H,[]=>some ([],H)
 | H,v::r=>match QM lo H v with
   | some (v',H1)=>match VK lo H1 r with
     | some (l,H2)=>some (v'::l,H2)
     | none=>none
   | none=>none
def VL (lo:Nat) (H:Heap):AV→Option (AV × Heap)
 | .agg cs=>match VK lo H cs with
   | some (l,H')=>some (.agg l,H')
   | none=>none
 | v=>QM lo H v
def UJ (lo:Nat):Heap→List AV→Option (List AV × Heap)
 | H,[]=>some ([],H)
 | H,v::r=>match VL lo H v with
   | some (v',H1)=>match UJ lo H1 r with
     | some (l,H2)=>some (v'::l,H2)
     | none=>none
   | none=>none
def Ku (lo:Nat) (H:Heap):AV→Option (AV × Heap)
 | .tup vs=>match UJ lo H vs with
   | some (l,H')=>some (.tup l,H')
   | none=>none
 | v=>VL lo H v
theorem HM {lo:Nat}:∀ {vs:List AV} {g:Gh} {H H':Heap} {vs':List AV} {cvs:List Value},Rel C g H w→VK lo H vs=some (vs',H')→Zb g H.n vs cvs → ∃ g',Rel C g' H' w∧Ext lo g H w g' H' w∧Zb g' H'.n vs' cvs
 | [],g,H,H',vs',cvs,hR,h,hv=>by
   simp [VK] at h;obtain ⟨rfl,rfl⟩:=h;exact ⟨g,hR,.refl _ _ _ _,hv⟩
 | v::r,g,H,H',vs',cvs,hR,h,hv=>by
   obtain ⟨cv,m,rfl,h1,h2⟩:=hv.cons_left;unfold VK at h;split at h
   · rename_i v' H1 hf
     split at h
     · rename_i l H2 hl
       simp at h;obtain ⟨rfl,rfl⟩:=h;obtain ⟨g1,r1,r2,r3⟩:=FW hR hf h1;obtain ⟨g2,q1,q2,q3⟩:=HM r1 hl (Zb.mono h2 r2.n r2.le);exact ⟨g2,q1,r2.trans q2,.cons (r3.mono q2.n q2.le) q3⟩
     · cases h
   · cases h
theorem HN {lo:Nat} {v v':AV} {H':Heap} {cv:Value} (hR:Rel C g H w) (h:VL lo H v=some (v',H')) (hv:VRel g H.n v cv):ZL C lo g H w v' H' cv w:=by
 unfold VL at h;split at h
 · split at h
   · rename_i l H2 hl
     simp at h;obtain ⟨rfl,rfl⟩:=h;obtain ⟨vs,rfl,h1⟩:=hv.inv_agg;obtain ⟨g',r1,r2,r3⟩:=HM hR hl h1;exact ⟨g',r1,r2,.agg r3.1 r3.2⟩
   · cases h
 · exact FW hR h hv
theorem HO {lo:Nat}:∀ {vs:List AV} {g:Gh} {H H':Heap} {vs':List AV} {cvs:List Value},Rel C g H w→UJ lo H vs=some (vs',H')→Zb g H.n vs cvs → ∃ g',Rel C g' H' w∧Ext lo g H w g' H' w∧Zb g' H'.n vs' cvs
 | [],g,H,H',vs',cvs,hR,h,hv=>by
   simp [UJ] at h;obtain ⟨rfl,rfl⟩:=h;exact ⟨g,hR,.refl _ _ _ _,hv⟩
 | v::r,g,H,H',vs',cvs,hR,h,hv=>by
   obtain ⟨cv,m,rfl,h1,h2⟩:=hv.cons_left;unfold UJ at h;split at h
   · rename_i v' H1 hf
     split at h
     · rename_i l H2 hl
       simp at h;obtain ⟨rfl,rfl⟩:=h;obtain ⟨g1,r1,r2,r3⟩:=HN hR hf h1;obtain ⟨g2,q1,q2,q3⟩:=HO r1 hl (Zb.mono h2 r2.n r2.le);exact ⟨g2,q1,r2.trans q2,.cons (r3.mono q2.n q2.le) q3⟩
     · cases h
   · cases h
theorem Z51 {lo:Nat} {v v':AV} {H':Heap} {cv:Value} (hR:Rel C g H w) (h:Ku lo H v=some (v',H')) (hv:VRel g H.n v cv):ZL C lo g H w v' H' cv w:=by
 unfold Ku at h;split at h
 · split at h
   · rename_i l H2 hl
     simp at h;obtain ⟨rfl,rfl⟩:=h;obtain ⟨vs,rfl,h1⟩:=hv.inv_tup;obtain ⟨g',r1,r2,r3⟩:=HO hR hl h1;exact ⟨g',r1,r2,.tup r3.1 r3.2⟩
   · cases h
 · exact HN hR h hv
theorem HP (Sa:Sane C) {k:Nat} {f:FuncId} {args:List AV} {o:Out} {v2:AV} {H2:Heap} (h:run C k (.call 0 f args .empty)=some o) (hp:X9 args=true) (hf:Ku 0 o.s.H o.val=some (v2,H2)) (hv:v2.strip.pure=true) (lo:Nat) (H:Heap) :
 Zc C lo f args H v2.strip H:=by
 have hs:=run_ok Sa k _ _ h (Nat.le_refl 0);refine ⟨hs.1,fun g w cargs hR ha => ?_⟩;have hR0:Rel C g .empty w:=⟨fun id hid=>by simp [Heap.empty] at hid,fun id _=>rfl,fun id hid=>by simp [Heap.empty] at hid,fun i j hi=>by simp [Heap.empty] at hi,hR.know,fun id hid=>by simp [Heap.empty] at hid,hR.glob,
  fun x cs hx=>⟨(hR.gsz x cs hx).1,fun ⟨id,hid,_⟩=>by simp [Heap.empty] at hid⟩⟩
 have hpa:∀ a ∈ args,a.pure=true:=by
  clear h hs ha
  induction args with
  | nil=>intro a ha;simp at ha
  | cons x r ih =>
    simp only [X9,Bool.and_eq_true] at hp;intro a ha;rcases List.mem_cons.1 ha with rfl | ha
    · exact hp.1
    · exact ih hp.2 a ha
 have ha0:Zb g 0 args cargs:=⟨ha.1,fun i a v h1 h2=>(ha.2 i a v h1 h2).pure (hpa a (List.mem_of_getElem? h1))⟩;refine (hs.2 g w cargs hR0 ha0).mono fun e w' hpost => ?_
 obtain ⟨cv,rfl,g',r1,r2,r3⟩:=hpost.returned;obtain ⟨g2,q1,q2,q3⟩:=Z51 r1 hf r3;have r2':Ext (Heap.empty).n g .empty w g2 H2 w':=r2.trans q2;obtain ⟨b1,b2⟩:=hR0.back_call q1 r2' 0;obtain ⟨j1,j2,j3⟩:=hR.join (Hk:=.empty) (Nat.zero_le _) (fun id hid=>by simp [Heap.empty] at hid) b1 b2 lo;exact ⟨_,j1,j2,j3 _ _ (q3.strip.pure hv)⟩
theorem HQ (Sa:Sane C) (hP:PrimsOk C P) {f:FuncId} {fn:Func} {c:Code} {args:List AV} {v:AV} {rs:List ResultVar} (hg:C.good f=true) (hf:C.P.funcs[f]? = some fn) (hb:fn.body=some c) (hr:fn.results=rs.toArray) (hp:X9 args=true) (hv:v.pure=true)
 (h:W (C.withPrims P) 0 f false c (Qc args 0 .leaf) .empty [] (UD (C.withPrims P) rs fun v' H'=>∃ v2 H2,Ku 0 H' v'=some (v2,H2)∧v2.strip=v)) (lo:Nat) (H:Heap):Zc C lo f args H v H:=by
 obtain ⟨v',H',h1,v2,H2,h2,h3⟩:=Za (C:=C.withPrims P) hg hf hb hr h;obtain ⟨k,hk⟩:=(VC (C.withPrims P)).1 h1;have:=HP (Sa.withPrims hP) hk hp (v2:=v2) (H2:=H2) h2 (by rw [h3];exact hv) lo H;rw [h3] at this;exact (VF hP).1 this
end Go.Sim

namespace Go.Sim
open Go Go.Proofs
def X5 (x:Int):Bool:=!decide (x < 65) && !decide (90 < x) || !decide (x < 97) && !decide (122 < x)
def ZY (x:Int):Bool:=!decide (x < 48) && !decide (57 < x)
def YN (x:Int):Bool:=X5 x || ZY x || decide (x=95)
def Z7:List Nat→Bool
 | []=>false
 | c::r=>decide ((c::r).length≤24) && X5 c && r.all fun x=>YN x
theorem Z52 {s:List Nat} (h0:s ≠ []) (h1:s.length≤24) (h2:∀ c:Nat,s[0]? = some c→X5 c=true) (h3:∀ (i c:Nat),1≤i→s[i]? = some c→YN c=true):Z7 s=true:=by
 cases s with
 | nil=>exact absurd rfl h0
 | cons c r =>
   unfold Z7;simp only [Bool.and_eq_true,decide_eq_true_eq,List.all_eq_true];refine ⟨⟨h1,h2 c rfl⟩,fun x hx => ?_⟩;obtain ⟨i,hi⟩:=List.mem_iff_getElem?.1 hx;exact h3 (i+1) x (by omega) (by simpa using hi)
theorem HR {s:List Nat} {c:Nat} (h:s[0]? = some c) (hl:X5 c=false):Z7 s=false:=by
 cases s with
 | nil=>simp at h
 | cons d r=>simp at h;subst h;simp [Z7,hl]
theorem HS {s:List Nat} {i c:Nat} (hi:1≤i) (h:s[i]? = some c) (hl:YN c=false):Z7 s=false:=by
 cases s with
 | nil=>simp at h
 | cons d r =>
   unfold Z7;have:(r.all fun x=>YN x)=false:=by
    rw [List.all_eq_false];refine ⟨c, ?_,by simp [hl]⟩;obtain ⟨j,rfl⟩:∃ j,i=j+1:=⟨i - 1,by omega⟩;exact List.mem_of_getElem? (by simpa using h)
   simp [this]
def Xw (c:Nat):List Nat→List Nat→List (List Nat)
 | cur,[]=>[cur]
 | cur,x::r=>if x=c then cur::Xw c [] r else Xw c (cur++[x]) r
theorem Kv (c x:Nat) (cur r:List Nat):Xw c cur (x::r)=if x=c then cur::Xw c [] r else Xw c (cur++[x]) r:=rfl
def Zu (c:Nat) (s:List Nat):List (List Nat):=Xw c [] s
def ZB (c:Nat):List Nat→Nat
 | []=>0
 | x::r=>(if x=c then 1 else 0)+ZB c r
theorem CN (c:Nat):∀ s,ZB c s≤s.length
 | []=>Nat.le_refl _
 | x::r=>by
   have:=CN c r;unfold ZB;rw [List.length_cons];split<;>omega
theorem GP (c:Nat):∀ (s cur:List Nat),(Xw c cur s).length=ZB c s+1
 | [],cur=>rfl
 | x::r,cur=>by
   rw [Kv];unfold ZB;split
   · rw [List.length_cons,GP c r];omega
   · rw [GP c r];omega
theorem Jc (c:Nat) (s:List Nat):(Zu c s).length=ZB c s+1:=GP c s []
def Q0 (c:Nat):List Nat→Int
 | []=>-1
 | b::l=>if b=c then 0 else if Q0 c l = -1 then -1 else Q0 c l+1
theorem VM (c:Nat):∀ s:List Nat,(Q0 c s = -1∧c ∉ s) ∨ ∃ i:Nat,Q0 c s=(i:Int)∧i < s.length∧s[i]? = some c∧c ∉ s.take i
 | []=>.inl ⟨rfl,by simp⟩
 | b::l=>by
   unfold Q0;by_cases h:b=c
   · rw [if_pos h];exact .inr ⟨0,rfl,by simp,by simp [h],by simp⟩
   · rw [if_neg h];rcases VM c l with ⟨h1,h2⟩ | ⟨i,h1,h2,h3,h4⟩
     · rw [if_pos h1];exact .inl ⟨rfl,by simp [Ne.symm h,h2]⟩
     · rw [if_neg (by rw [h1];omega)];refine .inr ⟨i+1,by rw [h1];rfl,by simp;omega,by simpa using h3, ?_⟩;rw [List.take_succ_cons,List.mem_cons,not_or];exact ⟨Ne.symm h,h4⟩
theorem HT {c:Nat}:∀ {s:List Nat} (cur:List Nat),c ∉ s→Xw c cur s=[cur++s]
 | [],cur,_=>by simp [Xw]
 | x::r,cur,h=>by
   simp only [List.mem_cons,not_or] at h;rw [Kv];rw [if_neg (Ne.symm h.1),HT _ h.2];simp
theorem HU {c:Nat}:∀ {s:List Nat} {i:Nat} (cur:List Nat),s[i]? = some c→c ∉ s.take i→Xw c cur s=(cur++s.take i)::Xw c [] (s.drop (i+1))
 | [],i,cur,h,_=>by simp at h
 | x::r,0,cur,h,_=>by
   simp at h;subst h;rw [Kv];simp
 | x::r,i+1,cur,h,hn=>by
   rw [List.take_succ_cons,List.mem_cons,not_or] at hn;have h':r[i]? = some c:=by simpa using h
   rw [Kv];rw [if_neg (Ne.symm hn.1),HU _ h' hn.2,List.take_succ_cons,List.drop_succ_cons];simp
theorem GQ {c:Nat} {s:List Nat} (h:c ∉ s):Zu c s=[s]:=by
 have:=HT [] h;simpa [Zu] using this
theorem GR {c:Nat} {s:List Nat} {i:Nat} (h:s[i]? = some c) (hn:c ∉ s.take i):Zu c s=s.take i::Zu c (s.drop (i+1)):=by
 have:=HU [] h hn;simpa [Zu] using this
theorem Z53 {c:Nat} {s:List Nat} (h:c ∉ s):ZB c s=0:=by
 have:=Jc c s;rw [GQ h] at this;simp at this;omega
theorem Z54 {c:Nat} {s:List Nat} {i:Nat} (h:s[i]? = some c) (hn:c ∉ s.take i):ZB c s=ZB c (s.drop (i+1))+1:=by
 have h1:=Jc c s;have h2:=Jc c (s.drop (i+1));rw [GR h hn,List.length_cons,h2] at h1;omega
def ZV (c:Nat):List (List Nat)→List Nat
 | []=>[]
 | [w]=>w
 | w::r=>w++c::ZV c r
theorem GS (c:Nat):∀ (s cur:List Nat),ZV c (Xw c cur s)=cur++s
 | [],cur=>by simp [Xw,ZV]
 | x::r,cur=>by
   rw [Kv];split
   · rename_i h
     have:=GS c r [];have hne:=GP c r [];cases hs:Xw c [] r with
     | nil=>rw [hs] at hne;simp at hne
     | cons a l =>
       rw [hs] at this;show cur++c::ZV c (a::l)=_;rw [this,h];simp
   · rw [GS c r];simp
theorem Z55 (c:Nat) (s:List Nat):ZV c (Zu c s)=s:=by
 have:=GS c s [];simpa [Zu] using this
def Yj:List Nat→Int→Int
 | [],n=>n
 | c::r,n=>Yj r (10 * n+((c:Int) - 48))
def Yc (s:List Nat):Bool:=s.all fun c=>ZY (c:Int)
def Zo (s:List Nat):Int × Bool:=if s ≠ []∧s.length≤9∧Yc s=true∧(s.length=1∨s[0]? ≠ some 48) then (Yj s 0,true) else (0,false)
def Y0 (s:List Nat):Int × Bool:=if Yc s=true∧s.length≤9 then (Yj s 0,decide (s ≠ []) && (decide (s.length=1) || decide (s[0]? ≠ some 48))) else (0,false)
theorem UK (s:List Nat):(Y0 s).2=(Zo s).2:=by
 cases s with
 | nil=>rfl
 | cons c r =>
   unfold Y0 Zo;by_cases h1:Yc (c::r)=true<;>by_cases h2:(c::r).length≤9<;>by_cases h4:(c::r).length=1<;>by_cases h5:c=48<;>simp_all<;>(try (split<;>rfl))
theorem Z56 {s:List Nat} (h:(Zo s).2=true):Y0 s=Zo s:=by
 have h0:=UK s;rw [h] at h0;refine Prod.ext ?_ (by rw [h0,h]);unfold Zo at h ⊢;split at h
 · rename_i hc
   rw [if_pos hc];unfold Y0;rw [if_pos ⟨hc.2.2.1,hc.2.1⟩]
 · cases h
theorem JY (x:Int):ZY x=true ↔ 48≤x∧x≤57:=by
 unfold ZY;simp only [Bool.and_eq_true,Bool.not_eq_true',decide_eq_false_iff_not];omega
theorem CO:∀ (s:List Nat) (n:Int) (k:Nat),Yc s=true→0≤n→n < 10 ^ k→0≤Yj s n∧Yj s n < 10 ^ (k+s.length)
 | [],n,k,_,h0,h1=>⟨h0,h1⟩
 | c::r,n,k,hd,h0,h1=>by
   unfold Yc at hd;rw [List.all_cons,Bool.and_eq_true] at hd;have hc:=(JY _).1 hd.1;have hk:(10:Int) ^ (k+1)=10 ^ k * 10:=Int.pow_succ 10 k;have:=CO r (10 * n+((c:Int) - 48)) (k+1) hd.2 (by omega) (by omega);show 0≤Yj r _∧Yj r _ < _;refine ⟨this.1, ?_⟩;have e:k+(c::r).length=k+1+r.length:=by rw [List.length_cons];omega
   rw [e];exact this.2
abbrev Wd:Type:=List Nat
theorem Yu (a b:Wd):Z6 a b=decide (a=b):=by
 rw [YV,Bool.eq_iff_iff];simp
theorem GT:∀ (a:Wd) (c:Nat) (n:Int),Yj (a++[c]) n=10 * Yj a n+((c:Int) - 48)
 | [],_,_=>rfl
 | _::r,c,n=>GT r c _
theorem HV:∀ {a:Wd} {n:Int},Yc a=true→1≤n→1≤Yj a n
 | [],_,_,h=>h
 | c::r,n,hd,h=>by
   unfold Yc at hd;rw [List.all_cons,Bool.and_eq_true] at hd;have hc:=(JY _).1 hd.1;exact HV (a:=r) hd.2 (by omega)
def Qf (f n:Nat):Wd:=(V4 f n).reverse
theorem Jd (f n:Nat):Qf (f+1) n=if n < 10 then [48+n] else Qf f (n / 10)++[48+n % 10]:=by
 unfold Qf;show (cond (Nat.blt n 10) [48+n] ((48+n % 10)::V4 f (n / 10))).reverse=_;by_cases h:n < 10
 · have:Nat.blt n 10=true:=by rw [Nat.blt_eq];exact h
   rw [this,if_pos h];rfl
 · have:Nat.blt n 10=false:=by
    rw [Bool.eq_false_iff];intro h';rw [Nat.blt_eq] at h';exact h h'
   rw [this,if_neg h];simp
theorem GU (n:Nat):Zi (n:Int)=Qf 20 n:=rfl
theorem HW {d:Nat} (h:d < 10):ZY ((48+d:Nat):Int)=true:=by
 rw [JY];omega
theorem CP (a:Wd) (c:Nat):Yc (a++[c])=(Yc a && ZY (c:Int)):=by
 unfold Yc;simp
structure IsNum (w:Wd) (n:Nat):Prop where
 num:Yj w 0=(n:Int)
 dig:Yc w=true
 ne:w ≠ []
 lead:n ≠ 0→w[0]? ≠ some 48
 one:n < 10→w.length=1
 len:∀ k,1≤k→n < 10 ^ k→w.length≤k
theorem HY:∀ (f n:Nat),n < 10 ^ (f+1)→IsNum (Qf (f+1) n) n
 | f,n,h=>by
   rw [Jd];by_cases h1:n < 10
   · rw [if_pos h1];refine ⟨?_, ?_,by simp,fun h0 => ?_,fun _=>rfl,fun k hk _=>by simpa using hk⟩
     · show 10 * 0+(((48+n:Nat):Int) - 48)=n;omega
     · have:=HW h1;unfold Yc;simp only [List.all_cons,List.all_nil,Bool.and_true];exact this
     · simp only [List.getElem?_cons_zero,ne_eq,Option.some.injEq];omega
   · rw [if_neg h1];obtain ⟨f,rfl⟩:∃ f',f=f'+1:=⟨f - 1,by
      cases f with
      | zero=>simp at h;omega
      | succ f=>simp⟩
     have ih:=HY f (n / 10) (by rw [Nat.pow_succ] at h;omega);have hd:n % 10 < 10:=Nat.mod_lt _ (by decide);refine ⟨?_, ?_,by simp,fun _ => ?_,fun h=>absurd h h1,fun k hk hlt => ?_⟩
     · rw [GT,ih.num];omega
     · rw [CP,ih.dig,HW hd];rfl
     · have:=ih.lead (by omega);cases hi:Qf (f+1) (n / 10) with
       | nil=>exact absurd hi ih.ne
       | cons a r=>rw [hi] at this;simpa using this
     · rw [List.length_append,List.length_singleton];obtain ⟨k,rfl⟩:∃ k',k=k'+1:=⟨k - 1,by omega⟩;rcases Nat.eq_zero_or_pos k with rfl | hk0
       · simp at hlt;omega
       · have:=ih.len k hk0 (by rw [Nat.pow_succ] at hlt;omega);omega
theorem Z57 {n:Int} (h0:0≤n) (h1:n < 1000000000):Zo (Zi n)=(n,true):=by
 obtain ⟨m,rfl⟩:∃ m:Nat,n=(m:Int):=⟨n.toNat,by omega⟩
 rw [GU]
 have h:=HY 19 m (by have:(1000000000:Nat)≤10 ^ (19+1):=by decide
                     omega)
 have hz:(Qf 20 m).length=1∨(Qf 20 m)[0]? ≠ some 48:=by
  by_cases hm:m=0
  · exact .inl (h.one (by omega))
  · exact .inr (h.lead hm)
 unfold Zo
 rw [if_pos ⟨h.ne,h.len 9 (by decide) (by simp;omega),h.dig,hz⟩,h.num]
theorem HZ:∀ (k:Nat) (w:Wd),w.length=k+1→Yc w=true→(w.length=1∨w[0]? ≠ some 48) → ∀ f,k < f→Qf f (Yj w 0).toNat=w
 | 0,w,hl,hd,_,f,hf=>by
   obtain ⟨f,rfl⟩:∃ f',f=f'+1:=⟨f - 1,by omega⟩
   match w,hl with
   | [c],_ =>
     unfold Yc at hd;simp only [List.all_cons,List.all_nil,Bool.and_true] at hd;have hc:=(JY _).1 hd;have e:Yj [c] 0=(c:Int) - 48:=by show 10 * 0+((c:Int) - 48)=_;omega
     rw [Jd,e,if_pos (by omega)]
     congr 1;omega
 | k+1,w,hl,hd,hz,f,hf=>by
   obtain ⟨f,rfl⟩:∃ f',f=f'+1:=⟨f - 1,by omega⟩;rcases List.eq_nil_or_concat w with rfl | ⟨a,c,rfl⟩
   · simp at hl
   rw [List.concat_eq_append] at hl hd hz ⊢;rw [CP,Bool.and_eq_true] at hd;have hc:=(JY _).1 hd.2;have hal:a.length=k+1:=by simpa using hl
   have hz':a[0]? ≠ some 48:=by
    rcases hz with h | h
    · rw [List.length_append,List.length_singleton] at h;omega
    · intro e;apply h;rw [List.getElem?_append_left (by omega)];exact e
   have ha1:1≤Yj a 0:=by
    match a,hal with
    | x::r,_ =>
      have hd1:=hd.1;unfold Yc at hd1;rw [List.all_cons,Bool.and_eq_true] at hd1;have hx:=(JY _).1 hd1.1;refine HV (a:=r) hd1.2 ?_;have:x ≠ 48:=fun e=>hz' (by simp [e])
      omega
   have ih:=HZ k a hal hd.1 (.inr hz') f (by omega);rw [GT,Jd,if_neg (by omega)];have e1:(10 * Yj a 0+((c:Int) - 48)).toNat / 10=(Yj a 0).toNat:=by omega
   have e2:48+(10 * Yj a 0+((c:Int) - 48)).toNat % 10=c:=by omega
   rw [e1,e2,ih]
theorem I0 {w:Wd} (h:(Zo w).2=true):Zi (Zo w).1=w∧0≤(Zo w).1:=by
 unfold Zo at h ⊢;split at h
 · rename_i hc
   rw [if_pos hc];obtain ⟨h1,h2,h3,h4⟩:=hc;have hb:=CO w 0 0 h3 (Int.le_refl _) (by simp);obtain ⟨k,hk⟩:∃ k,w.length=k+1:=⟨w.length - 1,by
    have:w.length ≠ 0:=fun e=>h1 (List.length_eq_zero_iff.1 e)
    omega⟩
   have:=HZ k w hk h3 h4 20 (by omega);refine ⟨?_,hb.1⟩;show Zi (Yj w 0)=w;obtain ⟨m,hm⟩:∃ m:Nat,Yj w 0=(m:Int):=⟨(Yj w 0).toNat,by omega⟩;rw [hm,GU];rw [hm] at this;simpa using this
 · cases h
theorem I1:∀ (L:List Wd) (e:Wd),ZV 10 (L++[e])=L.flatMap (fun l=>l++[10])++e
 | [],e=>rfl
 | l::L,e=>by
   have ih:=I1 L e;cases hL:L++[e] with
   | nil=>simp at hL
   | cons b r =>
     rw [List.cons_append,hL];show l++10::ZV 10 (b::r)=_;rw [← hL,ih];simp
def JZ (l:List Wd):Wd:=l.getLast?.getD []
theorem Z58 (c:Nat) (s:Wd):Zu c s=(Zu c s).dropLast++[JZ (Zu c s)]:=by
 have h:Zu c s ≠ []:=fun e=>by have:=Jc c s;rw [e] at this;simp at this
 unfold JZ;rw [List.getLast?_eq_some_getLast h];exact (List.dropLast_concat_getLast h).symm
theorem Z59 (s:Wd):s=(Zu 10 s).dropLast.flatMap (fun l=>l++[10])++JZ (Zu 10 s):=by
 have h:=Z55 10 s;rw [Z58,I1] at h;exact h.symm
end Go.Sim

namespace Go.Sim.Pos
abbrev Nm:Type:=List Nat
structure Trk where
 name:Nm
 speed:Int
deriving DecidableEq,Inhabited
structure Flt where
 name:Nm
 track:Nm
 frm:Int
 to:Int
 speed:Int
 ans:Bool
 rep:Bool
deriving DecidableEq,Inhabited
structure Trn where
 name:Nm
 track:Nm
 speed:Int
deriving DecidableEq,Inhabited
structure Pos where
 name:Nm
 track:Nm
 frm:Int
 to:Int
 ret:Bool
 prot:Bool
 opn:Bool
 closed:Int
 pers:Int
 speed:Int
deriving DecidableEq,Inhabited
structure Mch where
 name:Nm
 poss:Nm
deriving DecidableEq,Inhabited
structure Reg where
 tick:Int
 tracks:List Trk
 faults:List Flt
 trains:List Trn
 poss:List Pos
 machs:List Mch
deriving DecidableEq,Inhabited
def Y6:Reg:=⟨0,[],[],[],[],[]⟩
inductive Act
 | track (t:Nm) (v:Int)
 | fault (f t:Nm) (a b v:Int)
 | answer (f:Nm)
 | repair (f p:Nm)
 | enter (x t:Nm) (v:Int)
 | leave (x:Nm)
 | take (p t:Nm) (a b:Int)
 | prot (p:Nm)
 | clear (p:Nm)
 | into (m p:Nm)
 | out (m:Nm)
 | staff (p:Nm) (v:Int)
 | off (p:Nm) (v:Int)
 | opn (p:Nm)
 | close (p:Nm) (v:Int)
 | ret (p:Nm)
 | raise (p:Nm) (v:Int)
deriving DecidableEq,Inhabited
def Reg.track? (r:Reg) (x:Nm):Option Trk:=r.tracks.find? fun y=>decide (y.name=x)
def Reg.fault? (r:Reg) (x:Nm):Option Flt:=r.faults.find? fun y=>decide (y.name=x)
def Reg.train? (r:Reg) (x:Nm):Option Trn:=r.trains.find? fun y=>decide (y.name=x)
def Reg.poss? (r:Reg) (x:Nm):Option Pos:=r.poss.find? fun y=>decide (y.name=x)
def Reg.mach? (r:Reg) (x:Nm):Option Mch:=r.machs.find? fun y=>decide (y.name=x)
def Reg.within (r:Reg) (p:Nm):List Mch:=r.machs.filter fun m=>decide (m.poss=p)
def Reg.taken (r:Reg) (t:Nm):Bool:=r.poss.any fun p=>decide (p.track=t) && !p.ret
def Flt.silent (f:Flt):Bool:=!f.rep && !f.ans
def Reg.silentOn (r:Reg) (t:Nm):Bool:=r.faults.any fun f=>decide (f.track=t) && f.silent
def minI (a b:Int):Int:=if b < a then b else a
def Reg.permitted (r:Reg) (t:Nm):Int :=
 ((r.poss.filter fun p=>decide (p.track=t) && p.ret).map (·.speed)).foldl minI
   (((r.faults.filter fun f=>decide (f.track=t) && (f.ans && !f.rep)).map (·.speed)).foldl minI (match r.track? t with
     | some x=>x.speed
     | none=>0))
def over (a b c d:Int):Bool:=decide (a < d) && decide (c < b)
def Reg.overlaps (r:Reg) (t:Nm) (a b:Int):Bool:=r.poss.any fun p=>(decide (p.track=t) && !p.ret) && over p.frm p.to a b
def Reg.manned (r:Reg) (t:Nm):Bool:=r.trains.any fun x=>decide (x.track=t)
def XH (r:Reg) (p:Nm) (f:Pos→Int):Int:=match r.poss? p with
 | none=>10
 | some y=>if y.ret then 23 else f y
def okA (r:Reg) (tk:Int) (a:Act):Int:=if tk < r.tick then 22 else match a with
 | .track t v=>if (r.track? t).isSome then 9 else if v < 1∨400 < v then 3 else if 8≤r.tracks.length then 5 else 0
 | .fault f t a b v=>if (r.track? t).isNone then 10 else if (r.fault? f).isSome then 9 else if b≤a∨100000000 < b then 14 else if 400 < v then 3 else if 64≤r.faults.length then 5 else 0
 | .answer f=>match r.fault? f with
   | none=>10
   | some y=>if y.rep then 23 else if y.ans then 9 else 0
 | .repair f p=>match r.fault? f with
   | none=>10
   | some y=>match r.poss? p with
     | none=>10
     | some q=>if y.rep then 23 else if q.ret∨q.track ≠ y.track∨y.frm < q.frm∨q.to < y.to then 21 else if q.pers=0∧r.within p=[] then 12 else 0
 | .enter x t v=>if (r.track? t).isNone then 10 else if (r.train? x).isSome then 9 else if r.taken t then 31 else if r.silentOn t then 32 else if v < 1∨r.permitted t < v then 20 else if 16≤r.trains.length then 5 else 0
 | .leave x=>if (r.train? x).isNone then 10 else 0
 | .take p t a b=>if (r.track? t).isNone then 10 else if (r.poss? p).isSome then 9 else if b≤a∨100000000 < b then 14 else if r.manned t then 31 else if r.overlaps t a b then 15 else if 16≤r.poss.length then 5 else 0
 | .prot p=>XH r p fun y=>if y.prot then 9 else 0
 | .clear p=>XH r p fun y=>if !y.prot then 22 else if 0 < y.pers∨r.within p ≠ [] then 32 else 0
 | .into m p=>match r.poss? p with
   | none=>10
   | some y=>if (r.mach? m).isSome then 9 else if y.ret then 23 else if !y.prot then 21 else if 16≤r.machs.length then 5 else 0
 | .out m=>if (r.mach? m).isNone then 10 else 0
 | .staff p v=>XH r p fun y=>if v < 1∨100 < v then 3 else if !y.prot then 21 else if 100 < y.pers+v then 4 else 0
 | .off p v=>XH r p fun y=>if v < 1∨100 < v then 3 else if y.pers < v then 16 else 0
 | .opn p=>XH r p fun y=>if y.opn then 9 else if 8≤y.closed then 5 else 0
 | .close p v=>XH r p fun y=>if v < 1∨400 < v then 3 else if !y.opn then 22 else 0
 | .ret p=>XH r p fun y=>if r.within p ≠ []∨0 < y.pers∨y.opn∨y.prot then 32 else if y.closed=0 then 7 else 0
 | .raise p v=>match r.poss? p with
   | none=>10
   | some y=>if !y.ret then 22 else if 400 < v then 3 else if v≤y.speed then 21 else 0
def V9 (l:List Flt) (f:Nm) (g:Flt→Flt):List Flt:=l.map fun x=>if x.name=f then g x else x
def VN (l:List Pos) (p:Nm) (g:Pos→Pos):List Pos:=l.map fun x=>if x.name=p then g x else x
def Reg.chP (r:Reg) (tk:Int) (p:Nm) (g:Pos→Pos):Reg:={ r with tick:=tk,poss:=VN r.poss p g }
def doA (r:Reg) (tk:Int):Act→Reg
 | .track t v=>{ r with tick:=tk,tracks:=r.tracks++[⟨t,v⟩] }
 | .fault f t a b v=>{ r with tick:=tk,faults:=r.faults++[⟨f,t,a,b,v,false,false⟩] }
 | .answer f=>{ r with tick:=tk,faults:=V9 r.faults f fun x=>{ x with ans:=true } }
 | .repair f _=>{ r with tick:=tk,faults:=V9 r.faults f fun x=>{ x with rep:=true } }
 | .enter x t v=>{ r with tick:=tk,trains:=r.trains++[⟨x,t,v⟩] }
 | .leave x=>{ r with tick:=tk,trains:=r.trains.filter fun y=>decide (y.name ≠ x) }
 | .take p t a b=>{ r with tick:=tk,poss:=r.poss++[⟨p,t,a,b,false,false,false,0,0,0⟩] }
 | .prot p=>r.chP tk p fun y=>{ y with prot:=true }
 | .clear p=>r.chP tk p fun y=>{ y with prot:=false }
 | .into m p=>{ r with tick:=tk,machs:=r.machs++[⟨m,p⟩] }
 | .out m=>{ r with tick:=tk,machs:=r.machs.filter fun y=>decide (y.name ≠ m) }
 | .staff p v=>r.chP tk p fun y=>{ y with pers:=y.pers+v }
 | .off p v=>r.chP tk p fun y=>{ y with pers:=y.pers - v }
 | .opn p=>r.chP tk p fun y=>{ y with opn:=true }
 | .close p v=>r.chP tk p fun y=>{ y with opn:=false,closed:=y.closed+1,speed:=v }
 | .ret p=>r.chP tk p fun y=>{ y with ret:=true }
 | .raise p v=>r.chP tk p fun y=>{ y with speed:=v }
def about (r:Reg):Act→Nm
 | .track t _=>t
 | .fault _ t _ _ _=>t
 | .enter _ t _=>t
 | .take _ t _ _=>t
 | .answer f=>((r.fault? f).getD default).track
 | .repair f _=>((r.fault? f).getD default).track
 | .leave x=>((r.train? x).getD default).track
 | .out m=>((r.poss? ((r.mach? m).getD default).poss).getD default).track
 | .into _ p=>((r.poss? p).getD default).track
 | .prot p=>((r.poss? p).getD default).track
 | .clear p=>((r.poss? p).getD default).track
 | .staff p _=>((r.poss? p).getD default).track
 | .off p _=>((r.poss? p).getD default).track
 | .opn p=>((r.poss? p).getD default).track
 | .close p _=>((r.poss? p).getD default).track
 | .ret p=>((r.poss? p).getD default).track
 | .raise p _=>((r.poss? p).getD default).track
theorem I3 {α:Type} {g:α→α}:∀ {l:List α},(∀ x ∈ l,g x=x)→l.map g=l
 | [],_=>rfl
 | a::r,h=>by
   rw [List.map_cons,h a (by simp),I3 fun x hx=>h x (by simp [hx])]
def Yn {α:Type} (nm:α→Nm) (l:List α):Prop:=(l.map nm).Nodup
theorem Yn.eq {α:Type} {nm:α→Nm}:∀ {l:List α},Yn nm l → ∀ {x y:α},x ∈ l→y ∈ l→nm x=nm y→x=y
 | [],_,x,_,hx,_,_=>by cases hx
 | a::r,h,x,y,hx,hy,he=>by
   unfold Yn at h;rw [List.map_cons,List.nodup_cons] at h;rcases List.mem_cons.1 hx with e1 | h1<;>rcases List.mem_cons.1 hy with e2 | h2
   · rw [e1,e2]
   · exact absurd (by rw [← e1,he];exact List.mem_map_of_mem h2) h.1
   · exact absurd (by rw [← e2,← he];exact List.mem_map_of_mem h1) h.1
   · exact Yn.eq (l:=r) h.2 h1 h2 he
theorem Yn.snoc {α:Type} {nm:α→Nm} {l:List α} {a:α} (h:Yn nm l) (hn:(l.find? fun y=>decide (nm y=nm a))=none):Yn nm (l++[a]):=by
 unfold Yn at *;rw [List.map_append,List.nodup_append];refine ⟨h,by simp, ?_⟩;intro x hx y hy;have:y=nm a:=by simpa using hy
 subst this;obtain ⟨z,hz,rfl⟩:=List.mem_map.1 hx;rw [List.find?_eq_none] at hn;simpa using hn z hz
theorem Yn.filter {α:Type} {nm:α→Nm} {l:List α} {p:α→Bool} (h:Yn nm l):Yn nm (l.filter p):=by
 unfold Yn at *;exact List.Nodup.sublist (List.Sublist.map nm List.filter_sublist) h
theorem Yn.map {α:Type} {nm:α→Nm} {l:List α} {g:α→α} (h:Yn nm l) (hg:∀ x,nm (g x)=nm x):Yn nm (l.map g):=by
 unfold Yn at *;rw [List.map_map];have:(nm ∘ g)=nm:=funext hg;rw [this];exact h
end Go.Sim.Pos

namespace Go.Sim.Pos
structure Inv (r:Reg):Prop where
 uT:Yn Trk.name r.tracks
 uF:Yn Flt.name r.faults
 uN:Yn Trn.name r.trains
 uP:Yn Pos.name r.poss
 uM:Yn Mch.name r.machs
 rF:∀ f ∈ r.faults,(r.track? f.track).isSome=true
 rN:∀ f ∈ r.trains,(r.track? f.track).isSome=true
 rP:∀ f ∈ r.poss,(r.track? f.track).isSome=true
 rM:∀ m ∈ r.machs,(r.poss? m.poss).isSome=true
theorem GV {α:Type} {q:α→Bool} {l:List α} {y:α} (h:l.find? q=some y):y ∈ l∧q y=true:=⟨List.mem_of_find?_eq_some h,List.find?_some h⟩
theorem Z5a {α:Type} {o:Option α} (h:o.isSome=true):∃ y,o=some y:=by
 cases o with
 | none=>cases h
 | some y=>exact ⟨y,rfl⟩
theorem isNone_some {α:Type} {o:Option α} (h:¬ o.isNone=true):∃ y,o=some y:=by
 cases o with
 | none=>exact absurd rfl h
 | some y=>exact ⟨y,rfl⟩
theorem isSome_none {α:Type} {o:Option α} (h:¬ o.isSome=true):o=none:=by
 cases o with
 | none=>rfl
 | some y=>exact absurd rfl h
section
variable {r:Reg} {t:Nm} {k:Int}
end
end Go.Sim.Pos

namespace Go.Sim.Pos
def I4 (g:Pos→Pos):Prop:=∀ y,(g y).name=y.name∧(g y).track=y.track
theorem UL {r:Reg} {p:Nm} {f:Pos→Int} (h:XH r p f=0):∃ q,r.poss? p=some q∧q.ret=false∧f q=0:=by
 unfold XH at h;cases hp:r.poss? p with
 | none=>rw [hp] at h;cases h
 | some y =>
   rw [hp] at h;simp only at h;split at h
   · cases h
   · rename_i hr
     exact ⟨y,rfl,by simpa using hr,h⟩
def Act.onP:Act→Option Nm
 | .prot p | .clear p | .staff p _ | .off p _ | .opn p | .close p _ | .ret p | .raise p _ | .into _ p=>some p
 | _=>none
theorem Xx {r:Reg} {tk:Int} {a:Act} (ho:okA r tk a=0) {p:Nm} (hp:a.onP=some p):∃ q,r.poss? p=some q:=by
 unfold okA at ho;split at ho
 · cases ho
 cases a<;>simp only [Act.onP] at hp<;>cases hp
 all_goals
  first
   | exact (UL ho).imp fun q h=>h.1
   | (cases h:r.poss? p with
       | none=>simp [h] at ho
       | some y=>exact ⟨y,rfl⟩)
theorem GW {r:Reg} {tk:Int} {f:Nm} (ho:okA r tk (.answer f)=0 ∨ ∃ p,okA r tk (.repair f p)=0):∃ q,r.fault? f=some q:=by
 cases h:r.fault? f with
 | some q=>exact ⟨q,rfl⟩
 | none =>
   rcases ho with ho | ⟨p,ho⟩
   · unfold okA at ho;split at ho
     · cases ho
     · simp [h] at ho
   · unfold okA at ho;split at ho
     · cases ho
     · simp [h] at ho
end Go.Sim.Pos

namespace Go.Sim.Pos
theorem I5 {α:Type} {p:α→Bool} {l:List α} (a:α) (h:(l.find? p).isSome=true):((l++[a]).find? p).isSome=true:=by
 rw [List.find?_append];cases hl:l.find? p with
 | none=>rw [hl] at h;cases h
 | some y=>rfl
theorem Z5b {r:Reg} {p x:Nm} {g:Pos→Pos} (hg:I4 g):((VN r.poss p g).find? fun y=>decide (y.name=x)).isSome=(r.poss? x).isSome:=by
 unfold VN Reg.poss?;rw [List.find?_map];have:((fun y:Pos=>decide (y.name=x)) ∘ fun y=>if y.name=p then g y else y)=fun y=>decide (y.name=x):=by
  funext y
  show decide ((if y.name=p then g y else y).name=x)=_
  split
  · rw [(hg y).1]
  · rfl
 rw [this];cases r.poss.find? fun y=>decide (y.name=x)<;>rfl
theorem Inv.chP {r:Reg} (I:Inv r) {tk:Int} {p:Nm} {g:Pos→Pos} (hg:I4 g):Inv (r.chP tk p g):=by
 refine ⟨I.uT,I.uF,I.uN,I.uP.map fun y => ?_,I.uM,I.rF,I.rN,fun y hy => ?_,fun m hm => ?_⟩
 · show (if y.name=p then g y else y).name=y.name
   split
   · exact (hg y).1
   · rfl
 · obtain ⟨z,hz,rfl⟩:=List.mem_map.1 hy;have:(if z.name=p then g z else z).track=z.track:=by
    split
    · exact (hg z).2
    · rfl
   rw [this];exact I.rP z hz
 · show ((VN r.poss p g).find? _).isSome=true;rw [Z5b hg];exact I.rM m hm
theorem Inv.chF {r:Reg} (I:Inv r) {tk:Int} {f:Nm} {g:Flt→Flt} (hn:∀ y,(g y).name=y.name) (hg:∀ y,(g y).track=y.track):Inv { r with tick:=tk,faults:=V9 r.faults f g }:=by
 refine ⟨I.uT,I.uF.map fun y => ?_,I.uN,I.uP,I.uM,fun y hy => ?_,I.rN,I.rP,I.rM⟩
 · show (if y.name=f then g y else y).name=y.name
   split
   · exact hn y
   · rfl
 · obtain ⟨z,hz,rfl⟩:=List.mem_map.1 hy;have:(if z.name=f then g z else z).track=z.track:=by
    split
    · exact hg z
    · rfl
   rw [this];exact I.rF z hz
theorem I6:Inv Y6:=⟨by unfold Yn;simp [Y6],by unfold Yn;simp [Y6],by unfold Yn;simp [Y6],by unfold Yn;simp [Y6],by unfold Yn;simp [Y6],fun f h=>(by cases h),fun f h=>(by cases h),fun f h=>(by cases h),fun f h=>(by cases h)⟩
theorem Je {α:Type} {l:List α} {a x:α} (h:x ∈ l++[a]):x ∈ l∨x=a:=by simpa using h
theorem Z5c {r:Reg} {tk:Int} {a:Act} (I:Inv r) (ho:okA r tk a=0):Inv (doA r tk a):=by
 have hO:=ho;unfold okA at ho;split at ho
 · cases ho
 cases a with
 | track x v =>
   simp only at ho;split at ho
   · cases ho
   rename_i h1
   have s:∀ y,(r.track? y).isSome=true→((r.tracks++[(⟨x,v⟩:Trk)]).find? fun z=>decide (z.name=y)).isSome=true:=fun y h=>I5 _ h
   exact ⟨I.uT.snoc (a:=Trk.mk x v) (isSome_none (o:=r.track? x) h1),I.uF,I.uN,I.uP,I.uM,fun f h=>s _ (I.rF f h),fun f h=>s _ (I.rN f h),fun f h=>s _ (I.rP f h),I.rM⟩
 | fault f x a b v =>
   simp only at ho;split at ho
   · cases ho
   rename_i h1
   split at ho
   · cases ho
   rename_i h2
   refine ⟨I.uT,I.uF.snoc (a:=Flt.mk f x a b v false false) (isSome_none (o:=r.fault? f) h2),I.uN,I.uP,I.uM,fun y h => ?_,I.rN,I.rP,I.rM⟩;rcases Je h with h | rfl
   · exact I.rF y h
   · obtain ⟨z,hz⟩:=isNone_some h1;show (r.track? x).isSome=true;rw [hz];rfl
 | answer f=>exact I.chF (fun _=>rfl) fun _=>rfl
 | repair f p=>exact I.chF (fun _=>rfl) fun _=>rfl
 | enter x y v =>
   simp only at ho;split at ho
   · cases ho
   rename_i h1
   split at ho
   · cases ho
   rename_i h2
   refine ⟨I.uT,I.uF,I.uN.snoc (a:=Trn.mk x y v) (isSome_none (o:=r.train? x) h2),I.uP,I.uM,I.rF,fun z h => ?_,I.rP,I.rM⟩;rcases Je h with h | rfl
   · exact I.rN z h
   · obtain ⟨q,hq⟩:=isNone_some h1;show (r.track? y).isSome=true;rw [hq];rfl
 | leave x=>exact ⟨I.uT,I.uF,I.uN.filter,I.uP,I.uM,I.rF,fun z h=>I.rN z (List.mem_filter.1 h).1,I.rP,I.rM⟩
 | take p y a b =>
   simp only at ho;split at ho
   · cases ho
   rename_i h1
   split at ho
   · cases ho
   rename_i h2
   refine ⟨I.uT,I.uF,I.uN,I.uP.snoc (a:=Pos.mk p y a b false false false 0 0 0) (isSome_none (o:=r.poss? p) h2),I.uM,I.rF,I.rN,fun z h => ?_,fun m hm=>I5 _ (I.rM m hm)⟩;rcases Je h with h | rfl
   · exact I.rP z h
   · obtain ⟨q,hq⟩:=isNone_some h1;show (r.track? y).isSome=true;rw [hq];rfl
 | prot p=>exact I.chP fun _=>⟨rfl,rfl⟩
 | clear p=>exact I.chP fun _=>⟨rfl,rfl⟩
 | into m p =>
   obtain ⟨q,hq⟩:=Xx hO (p:=p) rfl;simp only [hq] at ho;split at ho
   · cases ho
   rename_i h1
   refine ⟨I.uT,I.uF,I.uN,I.uP,I.uM.snoc (a:=Mch.mk m p) (isSome_none (o:=r.mach? m) h1),I.rF,I.rN,I.rP,fun z h => ?_⟩;rcases Je h with h | rfl
   · exact I.rM z h
   · show (r.poss? p).isSome=true;rw [hq];rfl
 | out m=>exact ⟨I.uT,I.uF,I.uN,I.uP,I.uM.filter,I.rF,I.rN,I.rP,fun z h=>I.rM z (List.mem_filter.1 h).1⟩
 | staff p v=>exact I.chP fun _=>⟨rfl,rfl⟩
 | off p v=>exact I.chP fun _=>⟨rfl,rfl⟩
 | opn p=>exact I.chP fun _=>⟨rfl,rfl⟩
 | close p v=>exact I.chP fun _=>⟨rfl,rfl⟩
 | ret p=>exact I.chP fun _=>⟨rfl,rfl⟩
 | raise p v=>exact I.chP fun _=>⟨rfl,rfl⟩
abbrev TA:Type:=Int × Act
def K4 (r:Reg) (e:TA):Option Reg:=if okA r e.1 e.2=0 then some (doA r e.1 e.2) else none
def Yr (r:Reg):List TA→Option Reg
 | []=>some r
 | e::l=>match K4 r e with
   | none=>none
   | some r'=>Yr r' l
theorem Z5d {r r':Reg} {e:TA} (h:K4 r e=some r'):okA r e.1 e.2=0∧r'=doA r e.1 e.2:=by
 unfold K4 at h;split at h
 · rename_i h1
   exact ⟨h1,(Option.some.inj h).symm⟩
 · cases h
theorem GX {r r':Reg} {e:TA} {l:List TA} (h:Yr r (e::l)=some r'):okA r e.1 e.2=0∧Yr (doA r e.1 e.2) l=some r':=by
 unfold Yr at h;cases hs:K4 r e with
 | none=>rw [hs] at h;cases h
 | some r1 =>
   rw [hs] at h;obtain ⟨h1,rfl⟩:=Z5d hs;exact ⟨h1,h⟩
theorem run_ok {r:Reg} {e:TA} {l:List TA} (h:okA r e.1 e.2=0):Yr r (e::l)=Yr (doA r e.1 e.2) l:=by
 show (match K4 r e with
  | none=>none
  | some r'=>Yr r' l)=_
 unfold K4;rw [if_pos h]
theorem UM:∀ (l m:List TA) (r:Reg),Yr r (l++m)=(Yr r l).bind fun r'=>Yr r' m
 | [],m,r=>rfl
 | e::l,m,r=>by
   show (match K4 r e with
    | none=>none
    | some r'=>Yr r' (l++m))=(match K4 r e with
    | none=>none
    | some r'=>Yr r' l).bind _
   cases K4 r e with
   | none=>rfl
   | some r'=>exact UM l m r'
end Go.Sim.Pos

namespace Go.Sim.Pos
structure Safe (r:Reg):Prop where
 free:∀ p ∈ r.poss,p.ret=false → ∀ x ∈ r.trains,x.track ≠ p.track
 apart:r.poss.Pairwise fun q p=>q.ret=false→p.ret=false→q.track=p.track→over q.frm q.to p.frm p.to=false
 span:∀ p ∈ r.poss,p.frm < p.to
 pers:∀ p ∈ r.poss,0≤p.pers∧p.pers≤100
 closed:∀ p ∈ r.poss,0≤p.closed∧p.closed≤8∧(p.opn=true→p.closed≤7)
 speed:∀ t ∈ r.tracks,1≤t.speed∧t.speed≤400
 nT:r.tracks.length≤8
 nF:r.faults.length≤64
 nN:r.trains.length≤16
 nP:r.poss.length≤16
 nM:r.machs.length≤16
theorem I7:Safe Y6:=⟨fun p h=>(by cases h),.nil,fun p h=>(by cases h),fun p h=>(by cases h),fun p h=>(by cases h),fun p h=>(by cases h),by simp [Y6],by simp [Y6],by simp [Y6],by simp [Y6],by simp [Y6]⟩
structure Mild (g:Pos→Pos):Prop where
 track:∀ y,(g y).track=y.track
 frm:∀ y,(g y).frm=y.frm
 to:∀ y,(g y).to=y.to
 ret:∀ y,(g y).ret=false→y.ret=false
theorem Safe.chP {r:Reg} (S:Safe r) {tk:Int} {p:Nm} {g:Pos→Pos} (hg:Mild g) (hc:∀ y ∈ r.poss,y.name=p→(0≤(g y).pers∧(g y).pers≤100)∧0≤(g y).closed∧(g y).closed≤8∧((g y).opn=true→(g y).closed≤7)):Safe (r.chP tk p g):=by
 have hm:∀ y,(if y.name=p then g y else y).track=y.track∧(if y.name=p then g y else y).frm=y.frm∧(if y.name=p then g y else y).to=y.to∧((if y.name=p then g y else y).ret=false→y.ret=false):=fun y=>by
  split
  · exact ⟨hg.track y,hg.frm y,hg.to y,hg.ret y⟩
  · exact ⟨rfl,rfl,rfl,id⟩
 refine ⟨fun x hx hr t ht => ?_, ?_,fun x hx => ?_,fun x hx => ?_,fun x hx => ?_,S.speed,S.nT,S.nF,S.nN, ?_,S.nM⟩
 · obtain ⟨y,hy,rfl⟩:=List.mem_map.1 hx;have hr:(if y.name=p then g y else y).ret=false:=hr
   rw [show (if y.name=p then g y else y).track=y.track from (hm y).1]
   exact S.free y hy ((hm y).2.2.2 hr) t ht
 · refine List.pairwise_map.2 (S.apart.imp fun {a b} h h1 h2 h3 => ?_);rw [(hm a).1,(hm b).1] at h3;rw [(hm a).2.1,(hm a).2.2.1,(hm b).2.1,(hm b).2.2.1];exact h ((hm a).2.2.2 h1) ((hm b).2.2.2 h2) h3
 · obtain ⟨y,hy,rfl⟩:=List.mem_map.1 hx;rw [show (if y.name=p then g y else y).frm=y.frm from (hm y).2.1,show (if y.name=p then g y else y).to=y.to from (hm y).2.2.1]
   exact S.span y hy
 · obtain ⟨y,hy,rfl⟩:=List.mem_map.1 hx;by_cases hn:y.name=p
   · rw [if_pos hn];exact (hc y hy hn).1
   · rw [if_neg hn];exact S.pers y hy
 · obtain ⟨y,hy,rfl⟩:=List.mem_map.1 hx;by_cases hn:y.name=p
   · rw [if_pos hn];exact (hc y hy hn).2
   · rw [if_neg hn];exact S.closed y hy
 · show (VN r.poss p g).length≤16;unfold VN;rw [List.length_map];exact S.nP
theorem GY {r:Reg} (I:Inv r) {p:Nm} {q y:Pos} (hq:r.poss? p=some q) (hy:y ∈ r.poss) (hn:y.name=p):y=q:=by
 obtain ⟨h1,h2⟩:=GV hq;exact I.uP.eq hy h1 (by simp only [decide_eq_true_eq] at h2;rw [hn,h2])
theorem Z5e {r:Reg} {tk:Int} {a:Act} (S:Safe r) (I:Inv r) (ho:okA r tk a=0):Safe (doA r tk a):=by
 have hO:=ho;unfold okA at ho;split at ho
 · cases ho
 cases a with
 | track x v =>
   simp only at ho;split at ho
   · cases ho
   split at ho
   · cases ho
   rename_i h2
   split at ho
   · cases ho
   rename_i h3
   refine ⟨S.free,S.apart,S.span,S.pers,S.closed,fun t ht => ?_,by show (r.tracks++[_]).length≤8;simp;omega,S.nF,S.nN,S.nP,S.nM⟩;rcases Je ht with h | rfl
   · exact S.speed t h
   · show 1≤v∧v≤400;omega
 | fault f x a b v =>
   simp only at ho;split at ho
   · cases ho
   split at ho
   · cases ho
   split at ho
   · cases ho
   split at ho
   · cases ho
   split at ho
   · cases ho
   rename_i h5
   exact ⟨S.free,S.apart,S.span,S.pers,S.closed,S.speed,S.nT,by show (r.faults++[_]).length≤64;simp;omega,S.nN,S.nP,S.nM⟩
 | answer f=>exact ⟨S.free,S.apart,S.span,S.pers,S.closed,S.speed,S.nT,by show (V9 r.faults f _).length≤64;unfold V9;rw [List.length_map];exact S.nF,S.nN,S.nP,S.nM⟩
 | repair f p=>exact ⟨S.free,S.apart,S.span,S.pers,S.closed,S.speed,S.nT,by show (V9 r.faults f _).length≤64;unfold V9;rw [List.length_map];exact S.nF,S.nN,S.nP,S.nM⟩
 | enter x y v =>
   simp only at ho;split at ho
   · cases ho
   split at ho
   · cases ho
   split at ho
   · cases ho
   rename_i h3
   split at ho
   · cases ho
   split at ho
   · cases ho
   split at ho
   · cases ho
   rename_i h6
   refine ⟨fun p hp hr t ht => ?_,S.apart,S.span,S.pers,S.closed,S.speed,S.nT,S.nF,by show (r.trains++[_]).length≤16;simp;omega,S.nP,S.nM⟩;rcases Je ht with h | rfl
   · exact S.free p hp hr t h
   · intro he;have he:y=p.track:=he;have h3:r.taken y=false:=by simpa using h3
     unfold Reg.taken at h3;rw [List.any_eq_false] at h3;have:=h3 p hp;rw [hr] at this;simp [he] at this
 | leave x=>exact ⟨fun p hp hr t ht=>S.free p hp hr t (List.mem_filter.1 ht).1,S.apart,S.span,S.pers,S.closed,S.speed,S.nT,S.nF,Nat.le_trans (List.length_filter_le _ _) S.nN,S.nP,S.nM⟩
 | take p y a b =>
   simp only at ho;split at ho
   · cases ho
   split at ho
   · cases ho
   split at ho
   · cases ho
   rename_i h3
   split at ho
   · cases ho
   rename_i h4
   split at ho
   · cases ho
   rename_i h5
   split at ho
   · cases ho
   rename_i h6
   have h4:r.manned y=false:=by simpa using h4
   have h5:r.overlaps y a b=false:=by simpa using h5
   unfold Reg.manned at h4;unfold Reg.overlaps at h5;rw [List.any_eq_false] at h4 h5;refine ⟨fun x hx hr t ht => ?_, ?_,fun x hx => ?_,fun x hx => ?_,fun x hx => ?_,S.speed,S.nT,S.nF,S.nN,by show (r.poss++[_]).length≤16;simp;omega,S.nM⟩
   · rcases Je hx with h | rfl
     · exact S.free x h hr t ht
     · intro he;have he:t.track=y:=he;have:=h4 t ht;simp [he] at this
   · show (r.poss++[_]).Pairwise _;rw [List.pairwise_append];refine ⟨S.apart,List.pairwise_singleton _ _,fun q hq z hz h1 h2 h3 => ?_⟩;have hz:z=_:=List.mem_singleton.1 hz;subst hz;have:=h5 q hq;have h3:q.track=y:=h3;rw [h3,h1] at this;show over q.frm q.to a b=false;simpa using this
   · rcases Je hx with h | rfl
     · exact S.span x h
     · show a < b;omega
   · rcases Je hx with h | rfl
     · exact S.pers x h
     · exact ⟨Int.le_refl _,by show (0:Int)≤100;omega⟩
   · rcases Je hx with h | rfl
     · exact S.closed x h
     · exact ⟨Int.le_refl _,by show (0:Int)≤8;omega,fun h=>by cases h⟩
 | prot p=>exact S.chP ⟨fun _=>rfl,fun _=>rfl,fun _=>rfl,fun _ h=>h⟩ fun y hy _=>⟨S.pers y hy,S.closed y hy⟩
 | clear p=>exact S.chP ⟨fun _=>rfl,fun _=>rfl,fun _=>rfl,fun _ h=>h⟩ fun y hy _=>⟨S.pers y hy,S.closed y hy⟩
 | into m p =>
   obtain ⟨q,hq⟩:=Xx hO (p:=p) rfl;simp only [hq] at ho;split at ho
   · cases ho
   split at ho
   · cases ho
   split at ho
   · cases ho
   split at ho
   · cases ho
   rename_i h4
   exact ⟨S.free,S.apart,S.span,S.pers,S.closed,S.speed,S.nT,S.nF,S.nN,S.nP,by show (r.machs++[_]).length≤16;simp;omega⟩
 | out m=>exact ⟨S.free,S.apart,S.span,S.pers,S.closed,S.speed,S.nT,S.nF,S.nN,S.nP,Nat.le_trans (List.length_filter_le _ _) S.nM⟩
 | staff p v =>
   obtain ⟨q,hq,_,h⟩:=UL ho;refine S.chP ⟨fun _=>rfl,fun _=>rfl,fun _=>rfl,fun _ h=>h⟩ fun y hy hn => ?_
   have:=GY I hq hy hn;subst this;have hp:=S.pers y hy;refine ⟨?_,S.closed y hy⟩;show 0≤y.pers+v∧y.pers+v≤100;split at h
   · cases h
   split at h
   · cases h
   split at h
   · cases h
   omega
 | off p v =>
   obtain ⟨q,hq,_,h⟩:=UL ho;refine S.chP ⟨fun _=>rfl,fun _=>rfl,fun _=>rfl,fun _ h=>h⟩ fun y hy hn => ?_
   have:=GY I hq hy hn;subst this;have hp:=S.pers y hy;refine ⟨?_,S.closed y hy⟩;show 0≤y.pers - v∧y.pers - v≤100;split at h
   · cases h
   split at h
   · cases h
   omega
 | opn p =>
   obtain ⟨q,hq,_,h⟩:=UL ho;refine S.chP ⟨fun _=>rfl,fun _=>rfl,fun _=>rfl,fun _ h=>h⟩ fun y hy hn => ?_
   have:=GY I hq hy hn;subst this;have hc:=S.closed y hy;split at h
   · cases h
   split at h
   · cases h
   exact ⟨S.pers y hy,hc.1,hc.2.1,fun _=>by show y.closed≤7;omega⟩
 | close p v =>
   obtain ⟨q,hq,_,h⟩:=UL ho;refine S.chP ⟨fun _=>rfl,fun _=>rfl,fun _=>rfl,fun _ h=>h⟩ fun y hy hn => ?_
   have:=GY I hq hy hn;subst this;have hc:=S.closed y hy;split at h
   · cases h
   split at h
   · cases h
   rename_i hop
   have hop:y.opn=true:=by simpa using hop
   have h7:=hc.2.2 hop;exact ⟨S.pers y hy,by show 0≤y.closed+1;omega,by show y.closed+1≤8;omega,fun h=>by cases h⟩
 | ret p=>exact S.chP ⟨fun _=>rfl,fun _=>rfl,fun _=>rfl,fun _ h=>(by cases h)⟩ fun y hy _=>⟨S.pers y hy,S.closed y hy⟩
 | raise p v=>exact S.chP ⟨fun _=>rfl,fun _=>rfl,fun _=>rfl,fun _ h=>h⟩ fun y hy _=>⟨S.pers y hy,S.closed y hy⟩
theorem CQ:∀ {l:List TA} {r r':Reg},Inv r→Safe r→Yr r l=some r'→Inv r'∧Safe r'
 | [],r,r',I,S,h=>by cases h;exact ⟨I,S⟩
 | e::l,r,r',I,S,h=>by
   obtain ⟨h1,h2⟩:=GX h;exact CQ (Z5c I h1) (Z5e S I h1) h2
end Go.Sim.Pos

namespace Go.Sim.Pos
def Act.nn:Act→Prop
 | .fault _ _ _ _ v=>0≤v
 | _=>True
def UN (r:Reg) (t:Nm):Int:=if r.taken t then 31 else if r.silentOn t then 32 else if r.permitted t=0 then 7 else 0
end Go.Sim.Pos

namespace Go.Sim.Pos
structure Ev where
 num:Int
 kind:Nm
 names:List Nm
 vals:List Int
 text:Nm
deriving DecidableEq,Inhabited
def XR:Nm:=[116,114,97,99,107]
def XI:Nm:=[102,97,117,108,116]
def Xg:Nm:=[97,110,115,119,101,114]
def X6:Nm:=[114,101,112,97,105,114]
def Yo:Nm:=[101,110,116,101,114]
def YW:Nm:=[108,101,97,118,101]
def Xr:Nm:=[116,97,107,101]
def YA:Nm:=[112,114,111,116,101,99,116]
def YB:Nm:=[99,108,101,97,114]
def kIn:Nm:=[105,110]
def YC:Nm:=[111,117,116]
def YD:Nm:=[115,116,97,102,102]
def YE:Nm:=[111,102,102]
def YF:Nm:=[111,112,101,110]
def YG:Nm:=[99,108,111,115,101]
def Y7:Nm:=[114,101,116,117,114,110]
def YH:Nm:=[114,97,105,115,101]
def ZN:Nm:=[117,110,100,111]
def YO (k:Nm):Option (Nat × Nat) :=
 if k=XR then some (1,2) else if k=XI then some (2,4) else if k=Xg then some (1,1) else if k=X6 then some (2,1) else if k=Yo then some (2,2) else if k=YW then some (1,1) else if k=Xr then some (2,3) else if k=YA then some (1,1) else if k=YB then some (1,1) else if k=kIn then some (2,1) else if k=YC then some (1,1) else if k=YD then some (1,2) else if k=YE then some (1,2) else if k=YF then some (1,1) else if k=YG then some (1,2) else if k=Y7 then some (1,1) else if k=YH then some (1,2) else if k=ZN then some (0,0) else none
def Qg (e:Ev):Option TA :=
 if e.kind=XR then (match e.names,e.vals with
  | [t],[tk,v]=>some (tk,.track t v)
  | _,_=>none)
 else if e.kind=XI then (match e.names,e.vals with
  | [f,t],[tk,a,b,v]=>some (tk,.fault f t a b v)
  | _,_=>none)
 else if e.kind=Xg then (match e.names,e.vals with
  | [f],[tk]=>some (tk,.answer f)
  | _,_=>none)
 else if e.kind=X6 then (match e.names,e.vals with
  | [f,p],[tk]=>some (tk,.repair f p)
  | _,_=>none)
 else if e.kind=Yo then (match e.names,e.vals with
  | [x,t],[tk,v]=>some (tk,.enter x t v)
  | _,_=>none)
 else if e.kind=YW then (match e.names,e.vals with
  | [x],[tk]=>some (tk,.leave x)
  | _,_=>none)
 else if e.kind=Xr then (match e.names,e.vals with
  | [p,t],[tk,a,b]=>some (tk,.take p t a b)
  | _,_=>none)
 else if e.kind=YA then (match e.names,e.vals with
  | [p],[tk]=>some (tk,.prot p)
  | _,_=>none)
 else if e.kind=YB then (match e.names,e.vals with
  | [p],[tk]=>some (tk,.clear p)
  | _,_=>none)
 else if e.kind=kIn then (match e.names,e.vals with
  | [m,p],[tk]=>some (tk,.into m p)
  | _,_=>none)
 else if e.kind=YC then (match e.names,e.vals with
  | [m],[tk]=>some (tk,.out m)
  | _,_=>none)
 else if e.kind=YD then (match e.names,e.vals with
  | [p],[tk,v]=>some (tk,.staff p v)
  | _,_=>none)
 else if e.kind=YE then (match e.names,e.vals with
  | [p],[tk,v]=>some (tk,.off p v)
  | _,_=>none)
 else if e.kind=YF then (match e.names,e.vals with
  | [p],[tk]=>some (tk,.opn p)
  | _,_=>none)
 else if e.kind=YG then (match e.names,e.vals with
  | [p],[tk,v]=>some (tk,.close p v)
  | _,_=>none)
 else if e.kind=Y7 then (match e.names,e.vals with
  | [p],[tk]=>some (tk,.ret p)
  | _,_=>none)
 else if e.kind=YH then (match e.names,e.vals with
  | [p],[tk,v]=>some (tk,.raise p v)
  | _,_=>none)
 else none
variable (nm:Nm→Bool)
def Zp (e:Ev):Int:=if e.num < 1∨1000 < e.num then 3 else match YO e.kind with
 | none=>13
 | some (a,b)=>if e.names.length ≠ a∨e.vals.length ≠ b then 2 else if e.names.all nm=false then 8 else if e.vals.any (fun v=>decide (v < 0) || decide (999999999 < v))=true then 3 else if e.text ≠ [] then 1 else 0
theorem Xh {α:Type} {l:List α} (h:l.length=1):∃ a,l=[a]:=List.length_eq_one_iff.1 h
theorem Jf {α:Type} {l:List α} (h:l.length=2):∃ a b,l=[a,b]:=by
 match l,h with
 | [a,b],_=>exact ⟨a,b,rfl⟩
theorem len3 {α:Type} {l:List α} (h:l.length=3):∃ a b c,l=[a,b,c]:=by
 match l,h with
 | [a,b,c],_=>exact ⟨a,b,c,rfl⟩
theorem len4 {α:Type} {l:List α} (h:l.length=4):∃ a b c d,l=[a,b,c,d]:=by
 match l,h with
 | [a,b,c,d],_=>exact ⟨a,b,c,d,rfl⟩
theorem Kw {e:Ev} (h:Zp nm e=0):∃ a b,YO e.kind=some (a,b)∧e.names.length=a∧e.vals.length=b∧(∀ x ∈ e.names,nm x=true)∧(∀ v ∈ e.vals,0≤v∧v≤999999999)∧e.text=[]∧1≤e.num∧e.num≤1000:=by
 unfold Zp at h;split at h
 · cases h
 rename_i h1
 split at h
 · cases h
 rename_i a b hf
 split at h
 · cases h
 rename_i h2
 split at h
 · cases h
 rename_i h3
 split at h
 · cases h
 rename_i h4
 split at h
 · cases h
 rename_i h5
 have h2':e.names.length=a∧e.vals.length=b:=by
  constructor
  · exact Decidable.byContradiction fun h=>h2 (.inl h)
  · exact Decidable.byContradiction fun h=>h2 (.inr h)
 refine ⟨a,b,hf,h2'.1,h2'.2, ?_, ?_,Decidable.byContradiction h5,by omega,by omega⟩
 · simpa using h3
 · intro v hv;have h4:(e.vals.any fun v=>decide (v < 0) || decide (999999999 < v))=false:=by simpa using h4
   rw [List.any_eq_false] at h4;have:=h4 v hv;simp only [Bool.or_eq_true,decide_eq_true_eq] at this;omega
theorem VP {e:Ev} (h:Zp nm e=0):(e.kind=ZN∧e.names=[]∧e.vals=[])∨(e.kind ≠ ZN ∧ ∃ tk a,Qg e=some (tk,a)∧e.vals.head? = some tk∧a.nn):=by
 obtain ⟨a,b,hf,hn,hv,_,hr,_⟩:=Kw nm h;unfold YO at hf;by_cases hk:e.kind=XR
 · rw [if_pos hk] at hf;obtain ⟨rfl,rfl⟩:a=1∧b=2:=by
    have:=Option.some.inj hf;exact ⟨(congrArg Prod.fst this).symm,(congrArg Prod.snd this).symm⟩
   refine .inr ⟨by rw [hk];decide, ?_⟩;obtain ⟨t,en⟩:=Xh hn;obtain ⟨tk,v,ev⟩:=Jf hv;refine ⟨tk,.track t v, ?_,by rw [ev];rfl, ?_⟩
   · obtain ⟨z,kd,l1,l2,z2⟩:=e;simp only at hk en ev;subst hk en ev;rfl
   · trivial
 rw [if_neg hk] at hf;clear hk;by_cases hk:e.kind=XI
 · rw [if_pos hk] at hf;obtain ⟨rfl,rfl⟩:a=2∧b=4:=by
    have:=Option.some.inj hf;exact ⟨(congrArg Prod.fst this).symm,(congrArg Prod.snd this).symm⟩
   refine .inr ⟨by rw [hk];decide, ?_⟩;obtain ⟨f,t,en⟩:=Jf hn;obtain ⟨tk,a,b,v,ev⟩:=len4 hv;refine ⟨tk,.fault f t a b v, ?_,by rw [ev];rfl, ?_⟩
   · obtain ⟨z,kd,l1,l2,z2⟩:=e;simp only at hk en ev;subst hk en ev;rfl
   · exact (hr v (by rw [ev];simp)).1
 rw [if_neg hk] at hf;clear hk;by_cases hk:e.kind=Xg
 · rw [if_pos hk] at hf;obtain ⟨rfl,rfl⟩:a=1∧b=1:=by
    have:=Option.some.inj hf;exact ⟨(congrArg Prod.fst this).symm,(congrArg Prod.snd this).symm⟩
   refine .inr ⟨by rw [hk];decide, ?_⟩;obtain ⟨f,en⟩:=Xh hn;obtain ⟨tk,ev⟩:=Xh hv;refine ⟨tk,.answer f, ?_,by rw [ev];rfl, ?_⟩
   · obtain ⟨z,kd,l1,l2,z2⟩:=e;simp only at hk en ev;subst hk en ev;rfl
   · trivial
 rw [if_neg hk] at hf;clear hk;by_cases hk:e.kind=X6
 · rw [if_pos hk] at hf;obtain ⟨rfl,rfl⟩:a=2∧b=1:=by
    have:=Option.some.inj hf;exact ⟨(congrArg Prod.fst this).symm,(congrArg Prod.snd this).symm⟩
   refine .inr ⟨by rw [hk];decide, ?_⟩;obtain ⟨f,p,en⟩:=Jf hn;obtain ⟨tk,ev⟩:=Xh hv;refine ⟨tk,.repair f p, ?_,by rw [ev];rfl, ?_⟩
   · obtain ⟨z,kd,l1,l2,z2⟩:=e;simp only at hk en ev;subst hk en ev;rfl
   · trivial
 rw [if_neg hk] at hf;clear hk;by_cases hk:e.kind=Yo
 · rw [if_pos hk] at hf;obtain ⟨rfl,rfl⟩:a=2∧b=2:=by
    have:=Option.some.inj hf;exact ⟨(congrArg Prod.fst this).symm,(congrArg Prod.snd this).symm⟩
   refine .inr ⟨by rw [hk];decide, ?_⟩;obtain ⟨x,t,en⟩:=Jf hn;obtain ⟨tk,v,ev⟩:=Jf hv;refine ⟨tk,.enter x t v, ?_,by rw [ev];rfl, ?_⟩
   · obtain ⟨z,kd,l1,l2,z2⟩:=e;simp only at hk en ev;subst hk en ev;rfl
   · trivial
 rw [if_neg hk] at hf;clear hk;by_cases hk:e.kind=YW
 · rw [if_pos hk] at hf;obtain ⟨rfl,rfl⟩:a=1∧b=1:=by
    have:=Option.some.inj hf;exact ⟨(congrArg Prod.fst this).symm,(congrArg Prod.snd this).symm⟩
   refine .inr ⟨by rw [hk];decide, ?_⟩;obtain ⟨x,en⟩:=Xh hn;obtain ⟨tk,ev⟩:=Xh hv;refine ⟨tk,.leave x, ?_,by rw [ev];rfl, ?_⟩
   · obtain ⟨z,kd,l1,l2,z2⟩:=e;simp only at hk en ev;subst hk en ev;rfl
   · trivial
 rw [if_neg hk] at hf;clear hk;by_cases hk:e.kind=Xr
 · rw [if_pos hk] at hf;obtain ⟨rfl,rfl⟩:a=2∧b=3:=by
    have:=Option.some.inj hf;exact ⟨(congrArg Prod.fst this).symm,(congrArg Prod.snd this).symm⟩
   refine .inr ⟨by rw [hk];decide, ?_⟩;obtain ⟨p,t,en⟩:=Jf hn;obtain ⟨tk,a,b,ev⟩:=len3 hv;refine ⟨tk,.take p t a b, ?_,by rw [ev];rfl, ?_⟩
   · obtain ⟨z,kd,l1,l2,z2⟩:=e;simp only at hk en ev;subst hk en ev;rfl
   · trivial
 rw [if_neg hk] at hf;clear hk;by_cases hk:e.kind=YA
 · rw [if_pos hk] at hf;obtain ⟨rfl,rfl⟩:a=1∧b=1:=by
    have:=Option.some.inj hf;exact ⟨(congrArg Prod.fst this).symm,(congrArg Prod.snd this).symm⟩
   refine .inr ⟨by rw [hk];decide, ?_⟩;obtain ⟨p,en⟩:=Xh hn;obtain ⟨tk,ev⟩:=Xh hv;refine ⟨tk,.prot p, ?_,by rw [ev];rfl, ?_⟩
   · obtain ⟨z,kd,l1,l2,z2⟩:=e;simp only at hk en ev;subst hk en ev;rfl
   · trivial
 rw [if_neg hk] at hf;clear hk;by_cases hk:e.kind=YB
 · rw [if_pos hk] at hf;obtain ⟨rfl,rfl⟩:a=1∧b=1:=by
    have:=Option.some.inj hf;exact ⟨(congrArg Prod.fst this).symm,(congrArg Prod.snd this).symm⟩
   refine .inr ⟨by rw [hk];decide, ?_⟩;obtain ⟨p,en⟩:=Xh hn;obtain ⟨tk,ev⟩:=Xh hv;refine ⟨tk,.clear p, ?_,by rw [ev];rfl, ?_⟩
   · obtain ⟨z,kd,l1,l2,z2⟩:=e;simp only at hk en ev;subst hk en ev;rfl
   · trivial
 rw [if_neg hk] at hf;clear hk;by_cases hk:e.kind=kIn
 · rw [if_pos hk] at hf;obtain ⟨rfl,rfl⟩:a=2∧b=1:=by
    have:=Option.some.inj hf;exact ⟨(congrArg Prod.fst this).symm,(congrArg Prod.snd this).symm⟩
   refine .inr ⟨by rw [hk];decide, ?_⟩;obtain ⟨m,p,en⟩:=Jf hn;obtain ⟨tk,ev⟩:=Xh hv;refine ⟨tk,.into m p, ?_,by rw [ev];rfl, ?_⟩
   · obtain ⟨z,kd,l1,l2,z2⟩:=e;simp only at hk en ev;subst hk en ev;rfl
   · trivial
 rw [if_neg hk] at hf;clear hk;by_cases hk:e.kind=YC
 · rw [if_pos hk] at hf;obtain ⟨rfl,rfl⟩:a=1∧b=1:=by
    have:=Option.some.inj hf;exact ⟨(congrArg Prod.fst this).symm,(congrArg Prod.snd this).symm⟩
   refine .inr ⟨by rw [hk];decide, ?_⟩;obtain ⟨m,en⟩:=Xh hn;obtain ⟨tk,ev⟩:=Xh hv;refine ⟨tk,.out m, ?_,by rw [ev];rfl, ?_⟩
   · obtain ⟨z,kd,l1,l2,z2⟩:=e;simp only at hk en ev;subst hk en ev;rfl
   · trivial
 rw [if_neg hk] at hf;clear hk;by_cases hk:e.kind=YD
 · rw [if_pos hk] at hf;obtain ⟨rfl,rfl⟩:a=1∧b=2:=by
    have:=Option.some.inj hf;exact ⟨(congrArg Prod.fst this).symm,(congrArg Prod.snd this).symm⟩
   refine .inr ⟨by rw [hk];decide, ?_⟩;obtain ⟨p,en⟩:=Xh hn;obtain ⟨tk,v,ev⟩:=Jf hv;refine ⟨tk,.staff p v, ?_,by rw [ev];rfl, ?_⟩
   · obtain ⟨z,kd,l1,l2,z2⟩:=e;simp only at hk en ev;subst hk en ev;rfl
   · trivial
 rw [if_neg hk] at hf;clear hk;by_cases hk:e.kind=YE
 · rw [if_pos hk] at hf;obtain ⟨rfl,rfl⟩:a=1∧b=2:=by
    have:=Option.some.inj hf;exact ⟨(congrArg Prod.fst this).symm,(congrArg Prod.snd this).symm⟩
   refine .inr ⟨by rw [hk];decide, ?_⟩;obtain ⟨p,en⟩:=Xh hn;obtain ⟨tk,v,ev⟩:=Jf hv;refine ⟨tk,.off p v, ?_,by rw [ev];rfl, ?_⟩
   · obtain ⟨z,kd,l1,l2,z2⟩:=e;simp only at hk en ev;subst hk en ev;rfl
   · trivial
 rw [if_neg hk] at hf;clear hk;by_cases hk:e.kind=YF
 · rw [if_pos hk] at hf;obtain ⟨rfl,rfl⟩:a=1∧b=1:=by
    have:=Option.some.inj hf;exact ⟨(congrArg Prod.fst this).symm,(congrArg Prod.snd this).symm⟩
   refine .inr ⟨by rw [hk];decide, ?_⟩;obtain ⟨p,en⟩:=Xh hn;obtain ⟨tk,ev⟩:=Xh hv;refine ⟨tk,.opn p, ?_,by rw [ev];rfl, ?_⟩
   · obtain ⟨z,kd,l1,l2,z2⟩:=e;simp only at hk en ev;subst hk en ev;rfl
   · trivial
 rw [if_neg hk] at hf;clear hk;by_cases hk:e.kind=YG
 · rw [if_pos hk] at hf;obtain ⟨rfl,rfl⟩:a=1∧b=2:=by
    have:=Option.some.inj hf;exact ⟨(congrArg Prod.fst this).symm,(congrArg Prod.snd this).symm⟩
   refine .inr ⟨by rw [hk];decide, ?_⟩;obtain ⟨p,en⟩:=Xh hn;obtain ⟨tk,v,ev⟩:=Jf hv;refine ⟨tk,.close p v, ?_,by rw [ev];rfl, ?_⟩
   · obtain ⟨z,kd,l1,l2,z2⟩:=e;simp only at hk en ev;subst hk en ev;rfl
   · trivial
 rw [if_neg hk] at hf;clear hk;by_cases hk:e.kind=Y7
 · rw [if_pos hk] at hf;obtain ⟨rfl,rfl⟩:a=1∧b=1:=by
    have:=Option.some.inj hf;exact ⟨(congrArg Prod.fst this).symm,(congrArg Prod.snd this).symm⟩
   refine .inr ⟨by rw [hk];decide, ?_⟩;obtain ⟨p,en⟩:=Xh hn;obtain ⟨tk,ev⟩:=Xh hv;refine ⟨tk,.ret p, ?_,by rw [ev];rfl, ?_⟩
   · obtain ⟨z,kd,l1,l2,z2⟩:=e;simp only at hk en ev;subst hk en ev;rfl
   · trivial
 rw [if_neg hk] at hf;clear hk;by_cases hk:e.kind=YH
 · rw [if_pos hk] at hf;obtain ⟨rfl,rfl⟩:a=1∧b=2:=by
    have:=Option.some.inj hf;exact ⟨(congrArg Prod.fst this).symm,(congrArg Prod.snd this).symm⟩
   refine .inr ⟨by rw [hk];decide, ?_⟩;obtain ⟨p,en⟩:=Xh hn;obtain ⟨tk,v,ev⟩:=Jf hv;refine ⟨tk,.raise p v, ?_,by rw [ev];rfl, ?_⟩
   · obtain ⟨z,kd,l1,l2,z2⟩:=e;simp only at hk en ev;subst hk en ev;rfl
   · trivial
 rw [if_neg hk] at hf;clear hk;by_cases hk:e.kind=ZN
 · rw [if_pos hk] at hf;obtain ⟨rfl,rfl⟩:a=0∧b=0:=by
    have:=Option.some.inj hf;exact ⟨(congrArg Prod.fst this).symm,(congrArg Prod.snd this).symm⟩
   exact .inl ⟨hk,List.length_eq_zero_iff.1 hn,List.length_eq_zero_iff.1 hv⟩
 rw [if_neg hk] at hf;clear hk;cases hf
structure Jn where
 cs:List Ev
 reg:Reg
deriving DecidableEq,Inhabited
def zJn:Jn:=⟨[],Y6⟩
def doE (r:Reg) (e:Ev):Reg:=match Qg e with
 | some (tk,a)=>doA r tk a
 | none=>r
def K5 (cs:List Ev):Reg:=cs.foldl doE Y6
def Q1 (j:Jn) (n:Nat) (e:Ev):Int:=if e.num ≠ (n:Int)+1 then 11 else if e.kind=ZN then (match j.cs.getLast? with
    | none=>12
    | some l=>if l.kind=Yo∨l.kind=Y7 then 21 else 0) else match Qg e with
 | some (tk,a)=>okA j.reg tk a
 | none=>0
def Q2 (j:Jn) (e:Ev):Jn:=if e.kind=ZN then ⟨j.cs.dropLast,K5 j.cs.dropLast⟩ else ⟨j.cs++[e],doE j.reg e⟩
def Xi (j:Jn) (n:Nat) (e:Ev):Int:=if Zp nm e ≠ 0 then Zp nm e else Q1 j n e
def ZQ:Jn→Nat→List Ev→Jn × Nat × Int
 | j,_,[]=>(j,0,0)
 | j,n,e::l=>if Xi nm j n e ≠ 0 then (j,n+1,Xi nm j n e) else ZQ (Q2 j e) (n+1) l
def YX (cs:List Ev):List TA:=cs.filterMap Qg
structure JOk (j:Jn):Prop where
 reg:j.reg=K5 j.cs
 run:Yr Y6 (YX j.cs)=some j.reg
 chk:∀ e ∈ j.cs,Zp nm e=0∧e.kind ≠ ZN
theorem GZ:JOk nm zJn:=⟨rfl,rfl,fun e h=>by cases h⟩
theorem Z5f (cs:List Ev) (e:Ev):K5 (cs++[e])=doE (K5 cs) e:=by
 unfold K5;rw [List.foldl_append];rfl
theorem I8 {cs:List Ev} {e:Ev} {x:TA} (h:Qg e=some x):YX (cs++[e])=YX cs++[x]:=by
 unfold YX;rw [List.filterMap_append];simp [h]
theorem F0 {j:Jn} {n:Nat} {e:Ev} (J:JOk nm j) (h:Xi nm j n e=0):JOk nm (Q2 j e):=by
 unfold Xi at h;split at h
 · rename_i h1
   exact absurd h h1
 rename_i h1
 have h1:Zp nm e=0:=Decidable.byContradiction h1;unfold Q1 at h;split at h
 · cases h
 rcases VP nm h1 with ⟨hk,_⟩ | ⟨hk,tk,a,ha,_⟩
 · rw [if_pos hk] at h;unfold Q2;rw [if_pos hk];have hsub:∀ e ∈ j.cs.dropLast,e ∈ j.cs:=fun e he=>List.dropLast_subset _ he
   refine ⟨rfl, ?_,fun e he=>J.chk e (hsub e he)⟩;cases hl:j.cs.getLast? with
   | none=>rw [hl] at h;cases h
   | some l =>
     have hne:j.cs ≠ []:=fun h0=>by rw [h0] at hl;cases hl
     have hcs:j.cs=j.cs.dropLast++[j.cs.getLast hne]:=(List.dropLast_concat_getLast hne).symm;have hm:j.cs.getLast hne ∈ j.cs:=List.getLast_mem hne;obtain ⟨hc,hu⟩:=J.chk _ hm;rcases VP nm hc with ⟨hk',_⟩ | ⟨_,tk,a,ha,_⟩
     · exact absurd hk' hu
     have hr:=J.run;rw [hcs,I8 ha,UM] at hr;cases hp:Yr Y6 (YX j.cs.dropLast) with
     | none=>rw [hp] at hr;cases hr
     | some r' =>
       show some r'=some (K5 j.cs.dropLast);have:∀ (cs:List Ev) (r r':Reg),(∀ e ∈ cs,Zp nm e=0∧e.kind ≠ ZN)→Yr r (YX cs)=some r'→cs.foldl doE r=r':=fun cs=>by
        induction cs with
        | nil=>intro r r' _ h;cases h;rfl
        | cons x l ih =>
          intro r r' hx h;obtain ⟨hc,hu⟩:=hx x (by simp);rcases VP nm hc with ⟨hk',_⟩ | ⟨_,tk,a,ha,_⟩
          · exact absurd hk' hu
          have e1:YX (x::l)=(tk,a)::YX l:=by
           unfold YX;rw [List.filterMap_cons,ha]
          rw [e1] at h;obtain ⟨h1,h2⟩:=GX h;have e2:doE r x=doA r tk a:=by unfold doE;rw [ha]
          rw [List.foldl_cons,e2];exact ih _ _ (fun e he=>hx e (by simp [he])) h2
       unfold K5;rw [this _ _ _ (fun e he=>J.chk e (hsub e he)) hp]
 · rw [if_neg hk,ha] at h;have h:okA j.reg tk a=0:=h;have e2:doE j.reg e=doA j.reg tk a:=by unfold doE;rw [ha]
   unfold Q2;rw [if_neg hk];refine ⟨?_, ?_,fun x hx => ?_⟩
   · show doE j.reg e=K5 (j.cs++[e]);rw [Z5f,← J.reg]
   · show Yr Y6 (YX (j.cs++[e]))=some (doE j.reg e);rw [I8 ha,UM,J.run];show Yr j.reg [(tk,a)]=_;rw [run_ok h,e2];rfl
   · rcases Je hx with hx | rfl
     · exact J.chk x hx
     · exact ⟨h1,hk⟩
theorem CR:∀ {l:List Ev} {j:Jn} {n:Nat},JOk nm j→JOk nm (ZQ nm j n l).1
 | [],j,n,J=>J
 | e::l,j,n,J=>by
   unfold ZQ;split
   · exact J
   · rename_i h
     exact CR (F0 nm J (Decidable.byContradiction h))
theorem CS {j:Jn} (J:JOk nm j):Inv j.reg∧Safe j.reg:=CQ I6 I7 J.run
end Go.Sim.Pos

namespace Go.Sim.Pos
def Qy (x:Nat):List Nat→Nat
 | []=>x
 | c::r=>Qy ((347 * x+c) % 9999677) r
def QQ (x:Nat):List Nat:=[48+x / 1000000 % 10,48+x / 100000 % 10,48+x / 10000 % 10,48+x / 1000 % 10,48+x / 100 % 10,48+x / 10 % 10,48+x % 10]
def X7 (s:List Nat):List Nat:=QQ (Qy 1 s)
theorem UO:∀ (s:List Nat) {x:Nat},x < 9999677→Qy x s < 9999677
 | [],x,h=>h
 | c::r,x,_=>UO r (Nat.mod_lt _ (by decide))
theorem I9:∀ (a b:List Nat) (x:Nat),Qy x (a++b)=Qy (Qy x a) b
 | [],_,_=>rfl
 | _::a,b,_=>I9 a b _
theorem Ia (s:List Nat):(X7 s).length=7:=rfl
end Go.Sim.Pos

namespace Go.Sim.Pos
open Go.Sim
def Kx (e:Ev):List Wd:=Zi e.num::e.kind::(e.names++e.vals.map Zi)
def YP (e:Ev):Wd:=ZV 32 (Kx e)
def Xy (e:Ev):Wd:=YP e++35::X7 (YP e)
def Ya (l:List Ev):Wd:=l.flatMap fun e=>Xy e++[10]
def Va (ws:List Wd):Option Ev:=match ws with
 | w::k::rest=>match YO k with
   | none=>none
   | some (a,b)=>if (Zo w).2=true∧rest.length=a+b∧(rest.all fun x=>!x.isEmpty)=true∧((rest.drop a).all fun x=>(Zo x).2)=true then some ⟨(Zo w).1,k,rest.take a,(rest.drop a).map fun x=>(Zo x).1,[]⟩ else none
 | _=>none
def YQ (s:Wd):Option Ev × Int:=if s.length < 8 then (none,25) else match s.drop (s.length - 8) with
 | []=>(none,25)
 | c::d=>if c=35∧Yc d=true then (if d=X7 (s.take (s.length - 8)) then (match Va (Zu 32 (s.take (s.length - 8))) with
    | some e=>if Zp Z7 e=0 then (some e,0) else (none,25)
    | none=>(none,25)) else (none,27)) else (none,25)
def QH (out:List Ev) (pos:Nat) (la:Wd):List Wd→List Ev × Nat × Int
 | []=>if la=[] then (out,pos,0) else (out,pos,28)
 | l::r=>match YQ l with
   | (some e,_)=>if e.num=(out.length:Int)+1 then QH (out++[e]) (pos+l.length+1) la r else (out,pos,11)
   | (none,c)=>(out,pos,c)
def ZU (s:Wd):List Ev × Nat × Int:=if 1000000 < s.length then ([],0,26) else QH [] 0 (JZ (Zu 10 s)) (Zu 10 s).dropLast
end Go.Sim.Pos

namespace Go.Sim.Pos
variable (nm:Nm→Bool)
def XS (n:Nat):List Ev→List Ev
 | []=>[]
 | e::l=>{ e with num:=(n:Int)+1 }::XS (n+1) l
theorem Ib:∀ (l:List Ev) (n:Nat),(XS n l).length=l.length
 | [],_=>rfl
 | _::l,n=>by
   show (XS (n+1) l).length+1=_;rw [Ib l (n+1)];rfl
def Jg (t:Nm):Reg→List Ev→List Ev
 | _,[]=>[]
 | r,e::l=>match Qg e with
   | none=>Jg t r l
   | some (tk,a)=>if about r a=t then e::Jg t (doA r tk a) l else Jg t (doA r tk a) l
end Go.Sim.Pos

namespace Go.Sim.Pos
variable (nm:Nm→Bool)
def Ic (e:Ev):Int:=e.vals.head?.getD 0
theorem Z5g {e:Ev} (h1:Zp nm e=0) (h2:e.kind ≠ ZN):∃ a,Qg e=some (Ic e,a):=by
 rcases VP nm h1 with ⟨hk,_⟩ | ⟨_,tk,a,ha,hh,_⟩
 · exact absurd hk h2
 · refine ⟨a, ?_⟩;unfold Ic;rw [hh];exact ha
end Go.Sim.Pos

namespace Go.Sim.Pos
def QR {α:Type} (nm:α→Nm) (x:Nm):List α→Option Nat
 | []=>none
 | a::l=>if nm a=x then some 0 else (QR nm x l).map (· + 1)
theorem CT {α:Type} {nm:α→Nm} {x:Nm}:∀ {l:List α} {i:Nat},QR nm x l=some i → ∃ y,l[i]? = some y∧nm y=x∧(l.find? fun z=>decide (nm z=x))=some y∧i < l.length
 | [],i,h=>by cases h
 | a::l,i,h=>by
   unfold QR at h;by_cases ha:nm a=x
   · rw [if_pos ha] at h;cases h;exact ⟨a,rfl,ha,by rw [List.find?_cons];simp [ha],by simp⟩
   · rw [if_neg ha] at h;cases hi:QR nm x l with
     | none=>rw [hi] at h;cases h
     | some k =>
       rw [hi] at h;have h:i=k+1:=(Option.some.inj h).symm;subst h;obtain ⟨y,h1,h2,h3,h4⟩:=CT hi;exact ⟨y,by simpa using h1,h2,by rw [List.find?_cons];simp [ha,h3],by simp;omega⟩
theorem Id {α:Type} {nm:α→Nm} {x:Nm}:∀ {l:List α},QR nm x l=none→(l.find? fun z=>decide (nm z=x))=none
 | [],_=>rfl
 | a::l,h=>by
   unfold QR at h;by_cases ha:nm a=x
   · rw [if_pos ha] at h;cases h
   · rw [if_neg ha] at h;cases hi:QR nm x l with
     | none=>rw [List.find?_cons];simp [ha,Id hi]
     | some k=>rw [hi] at h;cases h
theorem Z5h {α:Type} {nm:α→Nm} {x:Nm} {l:List α} {y:α} (h:(l.find? fun z=>decide (nm z=x))=some y):∃ i,QR nm x l=some i∧l[i]? = some y∧i < l.length:=by
 cases hi:QR nm x l with
 | none=>rw [Id hi] at h;cases h
 | some i =>
   obtain ⟨z,h1,_,h3,h4⟩:=CT hi;rw [h] at h3;cases h3;exact ⟨i,rfl,h1,h4⟩
theorem Ie {α:Type} {nm:α→Nm} {g:α→α}:∀ {l:List α} {i:Nat} {y:α},Yn nm l→l[i]? = some y→l.set i (g y)=l.map fun z=>if nm z=nm y then g z else z
 | [],i,y,_,h=>by simp at h
 | a::l,0,y,u,h=>by
   have h:a=y:=by simpa using h
   subst h;unfold Yn at u;rw [List.map_cons,List.nodup_cons] at u;rw [List.set_cons_zero,List.map_cons,if_pos rfl]
   congr 1
   refine (I3 fun z hz => ?_).symm;rw [if_neg];intro he;exact u.1 (he ▸ List.mem_map_of_mem hz)
 | a::l,i+1,y,u,h=>by
   have h:l[i]? = some y:=by simpa using h
   have hm:=List.mem_of_getElem? h;unfold Yn at u;rw [List.map_cons,List.nodup_cons] at u;rw [List.set_cons_succ,List.map_cons,if_neg,Ie (nm:=nm) u.2 h];intro he;exact u.1 (he ▸ List.mem_map_of_mem hm)
end Go.Sim.Pos

namespace Go.Sim.Pos
open Go.Sim
def Ky:Nm:=[115,112,101,101,100]
def UP:Nm:=[116,114,97,105,110,115]
def Kz:Nm:=[98,97,114,114,105,101,114]
def UQ:Nm:=[112,101,114,115,111,110,115]
def Vb:Nm:=[115,105,108,101,110,116]
def UR:Nm:=[116,97,107,101,110]
def US:Nm:=[109,97,99,104,105,110,101,115]
def Z5i:Nm:=[115,116,97,102,102]
def Z5j:Nm:=[109,101,97,115,117,114,101,109,101,110,116]
def Z5k:Nm:=[112,114,111,116,101,99,116,105,111,110]
def If:Nm:=[110,111,110,101]
def sDone:Nm:=[100,111,110,101]
def F1 (r:Reg) (p:Pos):List Nm:=(r.within p.name).map (·.name)++((if 0 < p.pers then [Z5i] else [])++((if p.opn=true then [Z5j] else [])++(if p.prot=true then [Z5k] else [])))
def Q3 (l:List Nm):Nm:=if l=[] then If else ZV 32 l
def K6 (r:Reg) (w:Nm):Option (List Nm):=if w=Vb then some ((r.faults.filter Flt.silent).map (·.name)) else if w=UR then some ((r.poss.filter fun p=>!p.ret).map (·.name)) else if w=US then some (r.machs.flatMap fun m=>[m.name,m.poss]) else none
def KA (r:Reg) (w x:Nm):Option (Option (List Nm)):=if w=Ky then some ((r.track? x).map fun _=>[Zi (r.permitted x)]) else if w=UP then some ((r.track? x).map fun _=>(r.trains.filter fun y=>decide (y.track=x)).map (·.name)) else if w=Kz then some ((r.poss? x).map fun p=>F1 r p) else if w=UQ then some ((r.poss? x).map fun p=>[Zi p.pers]) else none
def JE (r:Reg) (ws:List Wd):Wd × Int:=match ws with
 | []=>([],13)
 | w::rest=>match K6 r w with
   | some l=>if rest=[] then (Q3 l,0) else ([],25)
   | none=>match KA r w [] with
     | none=>([],13)
     | some _=>match rest with
       | [x]=>if x=[] then ([],25) else (match KA r w x with
         | some (some l)=>(Q3 l,0)
         | some none=>([],10)
         | none=>([],13))
       | _=>([],25)
def Q4 (n:Int) (ws:List Wd):Option Ev:=match ws with
 | k::rest=>match YO k with
   | none=>none
   | some (a,b)=>if rest.length=a+b∧(rest.all fun x=>!x.isEmpty)=true∧((rest.drop a).all fun x=>(Zo x).2)=true then some ⟨n,k,rest.take a,(rest.drop a).map fun x=>(Zo x).1,[]⟩ else none
 | []=>none
structure Ses where
 evs:List Ev
 j:Jn
deriving DecidableEq,Inhabited
def KB (w:Nm):Bool:=(YO w).isSome
def doL (s:Ses) (line:Wd):Ses × Wd × Int :=
 if 4096 < line.length then (s,[],26)
 else if line=[] then (s,[],25)
 else if KB ((Zu 32 line).headD [])=false then (s,JE s.j.reg (Zu 32 line))
 else match Q4 ((s.evs.length:Int)+1) (Zu 32 line) with
  | none=>(s,[],25)
  | some e=>if 1000≤s.evs.length then (s,[],5)
    else if Xi Z7 s.j s.evs.length e ≠ 0 then (s,[],Xi Z7 s.j s.evs.length e)
    else (⟨s.evs++[e],Q2 s.j e⟩,sDone++32::Zi e.num,0)
end Go.Sim.Pos

namespace Go.Sim.Pos
variable (nm:Nm→Bool)
def Act.fresh:Act→Option Nm
 | .track t _=>some t
 | .fault f _ _ _ _=>some f
 | .enter x _ _=>some x
 | .take p _ _ _=>some p
 | .into m _=>some m
 | _=>none
end Go.Sim.Pos

namespace Go.Sim.Pos
variable (nm:Nm→Bool)
theorem Z5l {e:Ev} (h:Zp nm e=0) {tk:Int} {a:Act} (ha:Qg e=some (tk,a)):0≤tk∧tk≤999999999∧(∀ x,a.fresh=some x→nm x=true)∧a.nn:=by
 obtain ⟨_,_,_,_,_,hnm,hv,_⟩:=Kw nm h;rcases VP nm h with ⟨hk,hn,_⟩ | ⟨_,tk',a',ha',hh,hnn⟩
 · unfold Qg at ha;rw [hk] at ha;rw [if_neg (by decide),if_neg (by decide),if_neg (by decide),if_neg (by decide),if_neg (by decide),if_neg (by decide),if_neg (by decide),if_neg (by decide),if_neg (by decide),if_neg (by decide),if_neg (by decide),if_neg (by decide),if_neg (by decide),if_neg (by decide),if_neg (by decide),if_neg (by decide),if_neg (by decide)] at ha;cases ha
 · rw [ha'] at ha;cases ha;have htm:tk ∈ e.vals:=List.mem_of_head? hh;have ht:=hv tk htm;refine ⟨ht.1,ht.2,fun x hx => ?_,hnn⟩;have key:e.names.head? = some x:=by
    clear htm ht hnn hh h hv hnm;unfold Qg at ha';have go:∀ {p:Prop} [Decidable p] {u v:Option TA},(if p then u else v)=some (tk,a)→u=some (tk,a)∨v=some (tk,a):=fun {p} _ {u v} h=>by
     split at h
     · exact .inl h
     · exact .inr h
    iterate 17
     rcases go ha' with hu | ha'
     · split at hu
       · rename_i e1 e2
         cases hu
         first
          | (cases hx;done)
          | (have:=Option.some.inj hx
             subst this;rw [e1];rfl)
       · cases hu
    cases ha'
   exact hnm x (List.mem_of_head? key)
end Go.Sim.Pos

namespace Go.Sim.Pos
open Go.Sim
def Len (sz:Nat) (rows:List (List AV)):Prop:=∀ r ∈ rows,r.length=sz
theorem ZW {sz:Nat}:∀ {rows:List (List AV)},Len sz rows→rows.flatten.length=rows.length * sz
 | [],_=>by simp
 | r::l,h=>by
   have ih:=ZW (rows:=l) fun x hx=>h x (by simp [hx])
   rw [List.flatten_cons,List.length_append,ih,h r (by simp),List.length_cons,Nat.succ_mul];omega
theorem Y8 {sz:Nat}:∀ {rows:List (List AV)} (i:Nat),Len sz rows→rows.flatten.drop (i * sz)=(rows.drop i).flatten
 | [],i,_=>by simp
 | r::l,0,_=>by simp
 | r::l,i+1,h=>by
   have ih:=Y8 (rows:=l) i fun x hx=>h x (by simp [hx])
   have hr:=h r (by simp);rw [List.drop_succ_cons,← ih,List.flatten_cons,Nat.succ_mul,Nat.add_comm,← hr,← List.drop_drop];rw [List.drop_left]
theorem Yd {sz:Nat}:∀ {rows:List (List AV)} (i:Nat),Len sz rows→rows.flatten.take (i * sz)=(rows.take i).flatten
 | [],i,_=>by simp
 | r::l,0,_=>by simp
 | r::l,i+1,h=>by
   have ih:=Yd (rows:=l) i fun x hx=>h x (by simp [hx])
   have hr:=h r (by simp);rw [List.take_succ_cons,List.flatten_cons,List.flatten_cons,← ih,List.take_append,Nat.succ_mul,hr];have h1:r.take (i * sz+sz)=r:=List.take_of_length_le (by omega);rw [h1,Nat.add_sub_cancel]
theorem Ye {sz i:Nat} {rows:List (List AV)} {r:List AV} (h:Len sz rows) (hi:rows[i]? = some r):Yp rows.flatten (i * sz) sz=some r:=by
 obtain ⟨hlt,he⟩:=List.getElem?_eq_some_iff.1 hi;have hr:=h r (List.mem_of_getElem? hi);unfold Yp;rw [ZW h,if_pos,Y8 i h,List.drop_eq_getElem_cons hlt,he,List.flatten_cons]
 · rw [List.take_append_of_le_length (by omega),List.take_of_length_le (by omega)]
 · have:(i+1) * sz≤rows.length * sz:=Nat.mul_le_mul_right _ hlt;rw [Nat.succ_mul] at this;exact this
theorem Ig {sz i k:Nat} {rows:List (List AV)} {r:List AV} {v:AV} (h:Len sz rows) (hi:rows[i]? = some r) (hk:r[k]? = some v):Yp rows.flatten (i * sz+k) 1=some [v]:=by
 obtain ⟨hlt,he⟩:=List.getElem?_eq_some_iff.1 hi;obtain ⟨hkl,hke⟩:=List.getElem?_eq_some_iff.1 hk;have hr:=h r (List.mem_of_getElem? hi);have hm:(i+1) * sz≤rows.length * sz:=Nat.mul_le_mul_right _ hlt;rw [Nat.succ_mul] at hm;unfold Yp;rw [ZW h,if_pos (by omega),← List.drop_drop,Y8 i h,List.drop_eq_getElem_cons hlt,he,List.flatten_cons,List.drop_append_of_le_length (by omega),List.drop_eq_getElem_cons hkl,hke];rfl
theorem Jh {sz i k:Nat} {rows:List (List AV)} {r:List AV} {v:AV} (h:Len sz rows) (hi:rows[i]? = some r) (hk:k < sz):Go.Sim.over rows.flatten (i * sz+k) [v]=(rows.set i (r.set k v)).flatten:=by
 obtain ⟨hlt,he⟩:=List.getElem?_eq_some_iff.1 hi;have hr:=h r (List.mem_of_getElem? hi);have e1:rows=rows.take i++r::rows.drop (i+1):=by
  rw [← he,← List.drop_eq_getElem_cons hlt,List.take_append_drop]
 have e2:rows.set i (r.set k v)=rows.take i++r.set k v::rows.drop (i+1):=by
  rw [List.set_eq_take_append_cons_drop,if_pos hlt]
 have hp:(rows.take i).flatten.length=i * sz:=by
  rw [ZW (sz:=sz) (fun x hx=>h x (List.mem_of_mem_take hx)),List.length_take]
  congr 1;omega
 have e3:rows.flatten=(rows.take i).flatten++(r++(rows.drop (i+1)).flatten):=by
  conv=>lhs;rw [e1]
  rw [List.flatten_append,List.flatten_cons]
 rw [e2,e3,List.flatten_append,List.flatten_cons];unfold Go.Sim.over;rw [← hp,List.take_length_add_append,List.take_append_of_le_length (by omega)];have:(rows.take i).flatten.length+k+[v].length=(rows.take i).flatten.length+(k+1):=by simp;omega
 rw [this,List.drop_length_add_append,List.drop_append_of_le_length (by omega),List.set_eq_take_append_cons_drop,if_pos (by omega)];simp
def SV (sz:Nat) (te:TypeId) (H:Heap) (v:AV) (rows:List (List AV)):Prop:=(rows=[]∧v=.ps .nil []) ∨ ∃ id cs m,v=.rs id 0 rows.length sz none∧id < H.n∧H.get id=.row (rows.flatten++cs) sz te∧cs.length=m * sz
theorem SV.keep {sz:Nat} {te:TypeId} {H H':Heap} {v:AV} {rows:List (List AV)} (h:SV sz te H v rows) (hn:H.n≤H'.n) (hg:∀ i,i < H.n→v=.rs i 0 rows.length sz none→H'.get i=H.get i):SV sz te H' v rows:=by
 rcases h with h | ⟨id,cs,m,h1,h2,h3,h4⟩
 · exact .inl h
 · exact .inr ⟨id,cs,m,h1,by omega,by rw [hg id h2 h1];exact h3,h4⟩
theorem Ih {A B r:List AV}:Go.Sim.over (A++B) A.length r=(A++r)++B.drop r.length:=by
 unfold Go.Sim.over;rw [List.take_left' rfl,List.drop_length_add_append]
end Go.Sim.Pos

namespace Go.Sim
open Go Go.Proofs
open Go.Sim.Pos (Nm Trk Flt Trn Pos Mch Reg Ev)
abbrev i64 (n:Int):AV:=.int .i64 n
def Z0 (l:List Nm):List (List AV):=l.map fun x=>[.str x]
def Z3 (l:List Int):List (List AV):=l.map fun x=>[i64 x]
end Go.Sim
namespace Go.Sim.Pos
open Go.Sim
def Trk.row (x:Trk):List AV:=[.str x.name,i64 x.speed]
def Flt.row (x:Flt):List AV:=[.str x.name,.str x.track,i64 x.frm,i64 x.to,i64 x.speed,.bool x.ans,.bool x.rep]
def Trn.row (x:Trn):List AV:=[.str x.name,.str x.track,i64 x.speed]
def Pos.row (x:Pos):List AV:=[.str x.name,.str x.track,i64 x.frm,i64 x.to,.bool x.ret,.bool x.prot,.bool x.opn,i64 x.closed,i64 x.pers,i64 x.speed]
def Mch.row (x:Mch):List AV:=[.str x.name,.str x.poss]
def Ev.row (e:Ev):List AV:=[i64 e.num,.str e.kind,.ps .unk (Z0 e.names),.ps .unk (Z3 e.vals),.str e.text]
theorem Trk.row_inj (a b:Trk):(a.row=b.row)=(a=b):=by
 cases a;cases b;simp [Trk.row]
theorem Flt.row_inj (a b:Flt):(a.row=b.row)=(a=b):=by
 cases a;cases b;simp [Flt.row]
theorem Trn.row_inj (a b:Trn):(a.row=b.row)=(a=b):=by
 cases a;cases b;simp [Trn.row]
theorem Pos.row_inj (a b:Pos):(a.row=b.row)=(a=b):=by
 cases a;cases b;simp [Pos.row]
theorem Mch.row_inj (a b:Mch):(a.row=b.row)=(a=b):=by
 cases a;cases b;simp [Mch.row]
end Go.Sim.Pos
namespace Go.Sim
open Go Go.Proofs
open Go.Sim.Pos (Nm Trk Flt Trn Pos Mch Reg Ev)
open Classical in
noncomputable def Zy {α:Type} (enc:α→List AV) (pre:α→Prop) (spec:α→AV):List AV→Option AV:=fun args =>
 if h:∃ x,enc x=args∧pre x then some (spec h.choose) else none
theorem ZD {α:Type} {enc:α→List AV} {pre:α→Prop} {spec:α→AV} {args:List AV} {v:AV} (h:Zy enc pre spec args=some v):∃ x,args=enc x∧pre x∧v=spec x:=by
 unfold Zy at h;split at h
 · rename_i hx
   simp at h;exact ⟨hx.choose,hx.choose_spec.1.symm,hx.choose_spec.2,h.symm⟩
 · cases h
theorem ZE {α:Type} {enc:α→List AV} {pre:α→Prop} {spec:α→AV} (hi:∀ x y,enc x=enc y→x=y) (x:α) (hp:pre x):Zy enc pre spec (enc x)=some (spec x):=by
 unfold Zy;have hx:∃ y,enc y=enc x∧pre y:=⟨x,rfl,hp⟩;rw [dif_pos hx];rw [hi _ _ hx.choose_spec.1]
def Z9:List Int→Int
 | []=>0
 | e::r=>if e=0 then Z9 r else e
theorem Z5m (P:PF):(NC.withPrims P).P=NC.P:=rfl
theorem frzP (P:PF) (f:FuncId) (t:TypeId):(NC.withPrims P).frz f t=false:=Eq.trans rfl rfl
theorem litP (P:PF) (f:FuncId) (t:TypeId):(NC.withPrims P).lit f t=false:=Eq.trans rfl rfl
def Z5 (b:Bool) (e:Int):Int:=if b then e else 0
theorem UT {α β:Type} {f:α→β} (h:∀ a b,f a=f b→a=b):∀ {l m:List α},l.map f=m.map f→l=m
 | [],[],_=>rfl
 | [],_::_,e=>by simp at e
 | _::_,[],e=>by simp at e
 | a::l,b::m,e=>by
   simp only [List.map_cons,List.cons.injEq] at e;rw [h a b e.1,UT h e.2]
theorem KC (a b:List Nm):(Z0 a=Z0 b)=(a=b):=by
 simp only [eq_iff_iff];exact ⟨fun h=>UT (fun x y h=>by simpa using h) h,fun h=>by rw [h]⟩
theorem K7 (a b:List Int):(Z3 a=Z3 b)=(a=b):=by
 simp only [eq_iff_iff];exact ⟨fun h=>UT (fun x y h=>by simpa using h) h,fun h=>by rw [h]⟩
theorem Pos.Ev.row_inj (a b:Ev):(a.row=b.row)=(a=b):=by
 cases a;cases b;simp [Pos.Ev.row,KC,K7]
theorem Zt (l:List Nm):(Z0 l).length=l.length:=by simp [Z0]
theorem Y4 (l:List Int):(Z3 l).length=l.length:=by simp [Z3]
theorem K8 {l:List Nm} {i:Nat} {x:Nm} (h:l[i]? = some x):(Z0 l)[i]? = some [.str x]:=by
 unfold Z0;rw [List.getElem?_map,h];rfl
theorem KD {l:List Int} {i:Nat} {x:Int} (h:l[i]? = some x):(Z3 l)[i]? = some [i64 x]:=by
 unfold Z3;rw [List.getElem?_map,h];rfl
theorem Xz (l:List Nm):(Z0 l).all (fun r=>decide (r.length=1))=true:=by
 unfold Z0;rw [List.all_map];simp
theorem CU (l:List Int):(Z3 l).all (fun r=>decide (r.length=1))=true:=by
 unfold Z3;rw [List.all_map];simp
theorem K9 {α:Type} {l:List α} {k:Nat} {x:α} (h:l[k]? = some x):l.drop k=x::l.drop (k+1):=by
 have hlt:=(List.getElem?_eq_some_iff.1 h).1;rw [List.drop_eq_getElem_cons hlt,(List.getElem?_eq_some_iff.1 h).2]
theorem Y1 {α β:Type} {f:α→β} {l:List α} {k:Nat} {x:α} (h:l[k]? = some x):(l.map f)[k]? = some (f x):=by simp [h]
theorem F2 {α β:Type} {f:α→β} {l:List α} {k:Nat} {x:α} (h:l[k]? = some x):(l.take (k+1)).map f=(l.take k).map f++[f x]:=by
 rw [List.take_add_one,h];simp
theorem JF {α:Type} {f:α→List AV} {sz:Nat} (hf:∀ x,(f x).length=sz) (l:List α):(l.map f).all (fun r=>decide (r.length=sz))=true:=by
 rw [List.all_eq_true];intro r hr;obtain ⟨x,_,rfl⟩:=List.mem_map.1 hr;simp [hf x]
end Go.Sim

namespace Go.Sim
open Go Go.Proofs
attribute [go_sem ↓] W_seq P0 P1 P2 R6 EH EI EJ EK EL EM R7
attribute [go_sem ↓] VG ON OW W_ret OQ OR OS OT OX OY OZ OU
attribute [go_sem ↓] OV OK OL OM GK P4 Pc Ew P3 Pf Pg Pj
attribute [go_sem ↓] Ph Pi Pk Pm Ex Ey Dh op_un Pn Po Pu Pv
attribute [go_sem ↓] Pw Px Py Ez EA Pz PC PD PB EB PG EC
attribute [go_sem ↓] Z00 ED PH Z0u Z0t Z0s Z0m Z0p Z0q P5 P6
attribute [go_sem ↓] P7 P8 P9
attribute [go_sem] Rw Z0b Z0c Z05 Z06 Z07 Z08 Z0w Z0B Z0x Z0y
attribute [go_sem] Z0z Z0A Z02 Z03 Z04 Z09 Z0a Z0d Z0e Z0f List.any_cons
attribute [go_sem] List.any_nil List.contains_cons List.contains_nil Bool.not_eq_true' Rx Ry R8 R9 Ra Rb Rc
attribute [go_sem] GN Rd Re Rg Rh Ri Rj Rk Rn Ro Rp Rl
attribute [go_sem] Rm Rv Rq Rr Rs Rt Ru KS Vs Option.isSome_some Xb Qr
attribute [go_sem] Pd Pe frzP litP Z5m Pp Pq Pr Ps Pt Uf Ug
attribute [go_sem] Z0k Z0l Z0n Z0o Z0r PE PI PK PL PJ PM PN
attribute [go_sem] PO PP PQ Uj Heap.get_set Heap.get_push Dm Do Nat.lt_add_one Nat.add_zero Nat.zero_add Bool.false_eq_true
attribute [go_sem] if_true if_false ite_true ite_false and_true true_and and_self Yk YT XM Yp QY
attribute [go_sem] XD Kf R5 Xa ibin PR UC List.length_cons List.length_nil List.drop_succ_cons List.drop_zero List.drop_nil
attribute [go_sem] List.take_succ_cons List.take_zero List.take_nil List.getElem?_cons_zero List.getElem?_cons_succ JO Qp KR XN Kp R3 R4
attribute [go_sem] decide_true decide_false AV.cells AV.one List.all_cons List.all_nil Bool.and_true Bool.true_and Bool.and_self Qo Qn over
attribute [go_sem] List.append_nil List.nil_append List.cons_append List.map_cons List.map_nil cond_true cond_false Nat.beq_refl not_true_eq_false not_false_eq_true i64 UD
attribute [go_sem] R2 PV PX PY PZ R0 R1 AV.strip AV.strip0 AV.stripN AV.fullN Tok.full
attribute [go_sem] Cls.chain or_true true_or Bool.not_true Bool.not_false Bool.or_true Bool.or_false Bool.true_or Bool.false_or Bool.and_false Bool.false_and Int.ofNat_lt
attribute [go_sem] cast0 eq_self List.length_map Di Dj Z0C Z0D Z0E Z0F
attribute [go_sem] Z0G Z0H
attribute [go_sem] Z0I Dp EP Nat.zero_le Nat.le_refl Z01
attribute [go_sem] J0
attribute [go_sem] nilA nilN oD oL oR oF oW Z17 fa_pp Z15 Z16 un_22
attribute [go_sem] un_3 V8 un_5 un_4 el_51 sz_3 ze_3 un_51 ze_49
attribute [go_sem] sz_53 ag_53 UI sz_49 sz_46 ag_46 un_46 sz_44 ag_44 un_44 sz_45 ag_45
attribute [go_sem] un_45 sz_59 ag_59 VI sz_4 ag_4 sz_61 ag_61 VJ sz_9 ag_9 ag_3
attribute [go_sem] sz_43 ag_43 un_43 sz_63 ag_63 CJ sz_50 ag_50 un_50 sz_51 ag_51 sz_65
attribute [go_sem] ag_65 Kr sz_47 ag_47 un_47 sz_67 ag_67 Kt ag_49 CK sz_73
attribute [go_sem] un_73 ag_73 el_22 by_53 Z18 bs_53 Z19
attribute [go_sem] Z1a Z1b Z1c Z1d
attribute [go_sem] ze_4 by_3
attribute [go_sem] sz_5 Z1e sz_22 ag_22 el_50 ze_9
attribute [go_sem] ze_57 bs_57 Z1f Z1g
attribute [go_sem] sz_57 ag_57
attribute [go_sem] Z1h Z1i Z1j Z1k
attribute [go_sem] Z1l Z1m Z1n Z1o Z1p CL Z1q
attribute [go_sem] by_9 un_25 Z1r sz_25 ze_25 Z1s Z1t Z1u Z1v
attribute [go_sem] Z1w Z1x Z1y Z1z CM Z1A Z1B Z1C Z1D
attribute [go_sem] Z1E ag_25 Z1F Z1G Z1H Z1I Z1J Z1K Z1L Z1M
attribute [go_sem] Z1N Z1O Z1P Z1Q Z1R Z1S Z1T Z1U Z1V ag_5
attribute [go_sem] Z1W Z1X Z1Y Z1Z Z20 Z21 Z22 Z23 Z24 by_25 un_21
attribute [go_sem] bs_63 Z25 Z26 el_43 by_63 bs_65
attribute [go_sem] Z27 Z28 Z29 Z2a Z2b Z2c el_44 by_65 bs_61 Z2d Z2e Z2f
attribute [go_sem] el_45 by_61 bs_59 Z2g Z2h Z2i Z2j Z2k Z2l Z2m Z2n Z2o
attribute [go_sem] el_46 by_59 bs_67 Z2p Z2q el_47 by_67
attribute [go_sem] Z2r Z2s
attribute [go_sem] Z2t Z2u Z2v Z2w
attribute [go_sem] Z2x Z2y Z2z Z2A Z2B Z2C Z2D Z2E Z2F Z2G
attribute [go_sem] Z2H Z2I Z2J Z2K Z2L Z2M Z2N Z2O Z2P Z2Q Z2R Z2S
attribute [go_sem] Z2T Z2U Z2V Z2W Z2X Z2Y Z2Z Z30
attribute [go_sem] Z31 Z32
attribute [go_sem] Z33 Z34 Z35 Z36 Z37 Z38
attribute [go_sem] Z39 Z3a Z3b Z3c
attribute [go_sem] Z3d Z3e Z3f Z3g
attribute [go_sem] Z3h Z3i Z3j Z3k Z3l Z3m Z3n Z3o
attribute [go_sem] q6_6 Z3p q6_9 Z3q
attribute [go_sem] Ds Z3r Dt Z3s
attribute [go_sem] Du Z3t Dv Z3u Dw Z3v Dx Z3w Dy Z3x
attribute [go_sem] Dz Z3y DA Z3z DB Z3A DC Z3B
attribute [go_sem] EX
attribute [go_sem] DD Z3C DE Z3D
attribute [go_sem] DF Z3E DG Z3F DH Z3G DI Z3H
attribute [go_sem] DJ Z3I DK Z3J DL Z3K DM Z3L
attribute [go_sem] DN Z3M DO Z3N
attribute [go_sem] DP Z3O DQ Z3P DR Z3Q DS Z3R
attribute [go_sem] DT Z3S DU Z3T DV Z3U DW Z3V DX Z3W DY Z3X
attribute [go_sem] DZ Z3Y C0 Z3Z C1 Z40 C3 Z41 C4 Z42 C5 Z43
attribute [go_sem] C6 Z44 C7 Z45 C8 Z46 C9 Z47 Ca Z48
attribute [go_sem] Cb Z49 Cc Z4a Cd Z4b Ce Z4c Cf Z4d Cg Z4e
attribute [go_sem] Ch Z4f Ci Z4g Cj Z4h Ck Z4i Cl Z4j Cm Z4k
attribute [go_sem] Co Z4l Cp Z4m Cq Z4n Cr Z4o Cs Z4p Ct Z4q
attribute [go_sem] Cu Z4r Cv Z4s Cw Z4t Cx Z4u Cy Z4v Cz Z4w
attribute [go_sem] CA Z4x CB Z4y CD Z4z CF Z4A
attribute [go_sem] CG Z4B CH Z4C EY
attribute [go_sem] CI Z4D
attribute [go_sem] EZ
attribute [go_sem] H7 H8 H9 Ha Hb Hd
attribute [go_sem] He Hg Hh Hi Hl Hm
attribute [go_sem] Hn Ho Hp Hr Hs Ht
attribute [go_sem] Hu Hv Hw Hx Hy
attribute [go_sem] Hz HC HE HF HG HH
attribute [go_sem] HI rf_6
attribute [go_sem] rf_16 rf_32 rf_33
attribute [go_sem] rf_85 rf_98 Z4E Z4F Z4G Z4H Z4I
attribute [go_sem] Z4J Z4K Z4L Z4M Z4N Z4O Z4P Z4Q Z4R
attribute [go_sem] Z4S Z4T Z4U Z4V Z4W Z4X
attribute [go_sem] Z4Y
attribute [go_sem] Z4Z ks_3 ks_4
attribute [go_sem] ks_5 ks_6 ks_7 ks_8 ks_9 ks_10 ks_11 ks_12 ks_13 ks_14 ks_15 ks_16
attribute [go_sem] ks_17 ks_18 ks_19 ks_20 ks_21 ks_22 ks_23 ks_24 ks_25 ks_26 ks_27 ks_28
attribute [go_sem] ks_29 ks_30 ks_31 ks_32 ks_33 ks_34 ks_35 ks_36 ks_37 ks_38 ks_39 ks_40
attribute [go_sem] ks_41 ks_42 ks_43 ks_44 ks_45 ks_46 ks_47 ks_48 ks_49 ks_50 ks_51 ks_52
attribute [go_sem] ks_53 ks_54 ks_55 ks_56 ks_57 ks_58 ks_59 ks_60 ks_61 ks_62 ks_63 ks_64
attribute [go_sem] ks_65 ks_66 ks_67 ks_68 ks_69 ks_70 ks_71 ks_72 ks_73 ks_74 ks_75 ks_76
attribute [go_sem] ks_77 ks_78 ks_79 ks_80 ks_81 ks_83 ks_84 ks_85 ks_86 ks_87 ks_88
attribute [go_sem] ks_89 ks_90 ks_91 ks_92 ks_93 ks_94 ks_95 ks_96 ks_97 Z50
end Go.Sim

namespace Go.Sim
open Go Go.Proofs
set_option maxRecDepth 100000
set_option maxHeartbeats 1000000
def nilO (v:AV) (K:AV→Prop) (_t:Tag K:=⟨⟩):Prop:=match v with
 | .ptr id off=>K (.ptr id off)
 | .pptr cs=>K (.pptr cs)
 | .fn f a b=>K (.fn f a b)
 | .yld l=>K (.yld l)
 | _=>False
theorem Z5n (cs:List AV) (K:AV→Prop):nilO (.pptr cs) K=K (.pptr cs):=rfl
theorem Z5o (id off:Nat) (K:AV→Prop):nilO (.ptr id off) K=K (.ptr id off):=rfl
theorem Z5p {C:Cfg} {rec:Rec} {fid lo:Nat} {T:TT AV} {H:Heap} {K:AV→Heap→Prop} {d:Option Tmp} {t:TypeId} {p:String} {af:Array Edge} {gd:Option (Nat × Bool)} (x:Operand):VO (aop C rec fid lo ⟨d,.nilCheck x,t,p,af,gd⟩ T H) K=AO (Z4 C T x) fun v=>nilO v fun v=>K v H:=by
 simp only [aop];cases Z4 C T x with
 | none=>rfl
 | some v=>cases v<;>rfl
theorem Z5q {C:Cfg} {T:TT AV}:Z4 C T (.const .nilIface)=some .nili:=rfl
attribute [go_sem ↓] Z5p Z5o Z5n
theorem Z5r {C:Cfg} {T:TT AV}:Z4 C T (.const (.pointer none))=some .nilp:=rfl
theorem Z5s {C:Cfg} {T:TT AV}:Z4 C T (.const (.map none))=some .nilm:=rfl
attribute [go_sem] Z5q Z5r Z5s Rz
theorem Z5t (t:Tok) (rows:List (List AV)):AV.strip0 (.ps t rows)=.ps .unk rows:=rfl
attribute [go_sem] Z5t
def Zj (b:Nat) (H:Heap) (t:Tok) (rows:List (List AV)) (sz:Nat) (e:TypeId):Prop:=(t=.nil∧rows=[]) ∨ ∃ j,t=.tok j∧rows ≠ []∧b≤j∧j < H.n∧H.get j=.row [] sz e
def Old (b:Nat) (H H':Heap):Prop:=b≤H'.n ∧ ∀ i,i < b→H'.get i=H.get i
theorem Old.refl (H:Heap):Old H.n H H:=⟨Nat.le_refl _,fun _ _=>rfl⟩
theorem Old.push {b:Nat} {H H':Heap} (h:Old b H H') (x:ABlk):Old b H (H'.push x):=⟨by simp;have:=h.1;omega,fun i hi=>by rw [Heap.get_push,if_neg (by have:=h.1;omega)];exact h.2 i hi⟩
theorem Old.set {b:Nat} {H H':Heap} (h:Old b H H') {j:Nat} (hj:b≤j) (x:ABlk):Old b H (H'.set j x):=⟨by simpa using h.1,fun i hi=>by rw [Heap.get_set,if_neg (by omega)];exact h.2 i hi⟩
theorem Old.new {b:Nat} {H H':Heap} (h:Old b H H') (x y:ABlk):Old b H ((H'.push x).set H'.n y):=(h.push x).set h.1 y
theorem Old.trans {b:Nat} {H H1 H2:Heap} (h:Old b H H1) (h2:Old b H1 H2):Old b H H2:=⟨h2.1,fun i hi=>(h2.2 i hi).trans (h.2 i hi)⟩
theorem Zj.set {b:Nat} {H:Heap} {t:Tok} {rows:List (List AV)} {sz:Nat} {e:TypeId} (h:Zj b H t rows sz e) {i:Nat} (x:ABlk) (hi:H.get i ≠ .row [] sz e):Zj b (H.set i x) t rows sz e:=by
 rcases h with h | ⟨j,h1,h2,h3,h4,h5⟩
 · exact .inl h
 · exact .inr ⟨j,h1,h2,h3,h4,by rw [Heap.get_set,if_neg (fun he=>hi (by rw [← he];exact h5))];exact h5⟩
theorem Zj.new {b:Nat} {H:Heap} {t:Tok} {rows:List (List AV)} {sz:Nat} {e:TypeId} (h:Zj b H t rows sz e) (x y:ABlk):Zj b ((H.push x).set H.n y) t rows sz e:=by
 rcases h with h | ⟨j,h1,h2,h3,h4,h5⟩
 · exact .inl h
 · exact .inr ⟨j,h1,h2,h3,by simp;omega,by rw [Heap.get_set,if_neg (by omega),Heap.get_push,if_neg (by omega)];exact h5⟩
theorem YR {b:Nat} {H:Heap} {t:Tok} {rows:List (List AV)} {sz lo:Nat} {e:TypeId} (h:Zj b H t rows sz e) (hb:b≤H.n) (hlo:lo≤b) {r:List AV} (h1:rows.length+1≤Z1) (h2:XV r=true) (h3:0 < sz) (h4:rows.all (fun r=>r.length=sz)=true) :
 ∃ t' H',Xn lo H sz e (.ps t rows) [r]=some (.ps t' (rows++[r.map AV.strip0]),H')∧Zj b H' t' (rows++[r.map AV.strip0]) sz e∧H.n≤H'.n∧Old b H H'∧(∀ i c u,i < H.n→H.get i=.cells c u→H'.get i=.cells c u):=by
 rcases h with ⟨rfl,rfl⟩ | ⟨j,rfl,h6,hj,h7,h8⟩
 · refine ⟨.tok H.n,H.push (.row [] sz e),Dk (by simp) (by show 1≤1073741824;decide) (by simp [h2]) h3,.inr ⟨H.n,rfl,by simp,hb,by simp,by rw [Heap.get_push,if_pos rfl]⟩,by simp,⟨by simp;omega,fun i hi=>by rw [Heap.get_push,if_neg (by omega)]⟩,fun i c u hi hc => ?_⟩;rw [Heap.get_push,if_neg (by omega)];exact hc
 · refine ⟨.tok H.n,(H.set j .dead).push (.row [] sz e),Dl (by simp) (by simpa using h1) (by simp [h2]) h3 h4 h8 (by omega) h6,.inr ⟨H.n,rfl,by simp,hb,by simp,by rw [Heap.get_push,if_pos (by simp)]⟩,by simp,⟨by simp;omega,fun i hi=>by rw [Heap.get_push,if_neg (by simp;omega),Heap.get_set,if_neg (by omega)]⟩,fun i c u hi hc => ?_⟩;rw [Heap.get_push,if_neg (by simp;omega),Heap.get_set,if_neg (fun he=>by rw [he,h8] at hc;cases hc)];exact hc
end Go.Sim

namespace Go.Sim
open Go Go.Proofs
open Go.Sim.Pos (Nm Trk Flt Trn Pos Mch Reg Ev)
set_option maxRecDepth 100000
set_option maxHeartbeats 1000000
noncomputable def PPF88:PF:=fun _=>none
theorem Z5u:PrimsOk NC PPF88:=ZA
abbrev Z5v (f:FuncId) (args:List AV) (v:AV):Prop:=∀ (lo:Nat) (H:Heap),Zc NC lo f args H v H
theorem Cn {P:PF} (hP:PrimsOk NC P) {f:FuncId} {fn:Func} {c:Code} {args:List AV} {v:AV} {rs:List ResultVar} (hf:NC.P.funcs[f]? = some fn) (hb:fn.body=some c) (hr:fn.results=rs.toArray) (h:W (NC.withPrims P) 0 f false c (Qc args 0 .leaf) .empty [] (UD (NC.withPrims P) rs fun v' _=>v'.strip=v)) (hg:NC.good f=true:=by kernel_rfl) (hp:X9 args=true:=by rfl) (hv:v.pure=true:=by first | rfl | (split<;>first | rfl | (split<;>rfl))):Z5v f args v :=
 contract JX hP hg hf hb hr hp hv h
theorem c88 (b:Bool) (e:Int):∀ lo H,Zc NC lo 88 [.bool b,i64 e] H (i64 (Z5 b e)) H:=by
 refine Cn Z5u Tryz.func88 rfl rfl ?_;cases b<;>simp (maxDischargeDepth:=12) only [go_sem,reduceEqDiff,reduceAdd,reduceCtorEq]<;>simp [Z5]
noncomputable def p88:List AV→Option AV:=Zy (α:=(Bool) × (Int)) (fun x=>[.bool x.1,i64 x.2]) (fun x=>True) (fun x=>i64 (Z5 x.1 x.2))
abbrev Pok (p:List AV→Option AV) (f:FuncId):Prop:=∀ args v,p args=some v → ∀ lo H,Zc NC lo f args H v H
theorem Vc:Pok p88 88:=by
 intro args v h;obtain ⟨x,rfl,hp,rfl⟩:=ZD h;exact c88 x.1 x.2
theorem UU (b:Bool) (e:Int):p88 [.bool b,.int .i64 e]=some (.int .i64 (Z5 b e)):=ZE (by intro x y h;(simp only [List.cons.injEq,AV.int.injEq,AV.bool.injEq,true_and,and_true] at h;first | simpa only [Prod.ext_iff] using h | simpa only [Prod.ext_iff,and_assoc] using h)) (b,e) trivial
attribute [go_sem] UU
def ZS (n a b:Int):Int:=Z5 (decide (n < a) || decide (b < n)) 3
noncomputable def Ii:PF:=Zd 88 p88 (fun _=>none)
theorem Pa {P:PF} {f:FuncId} {p:List AV→Option AV} (hP:PrimsOk NC P) (hok:∀ args v,p args=some v → ∀ lo H,Zc NC lo f args H v H) (h1:NC.mode f=.pure:=by kernel_rfl) (h2:NC.hprim f=none:=by kernel_rfl):PrimsOk NC (Zd f p P):=ZX hP h1 h2 hok
theorem Z5w:PrimsOk NC Ii:=Pa (ZA) Vc
/-- A function is known by a contract. -/
abbrev En (P:PF) (f:FuncId) (p:List AV→Option AV):Prop:=∀ {rec:Rec} {lo:Nat} {args:List AV} {H:Heap} {K:AV→Heap→Prop},VO (Z8 (NC.withPrims P) rec lo f args H) K=AO (p args) fun v=>K v H
theorem Z5x:En Ii 88 p88:=Ze (by rfl) (by kernel_rfl)
attribute [go_sem ↓] Z5x
theorem c125 (n a b:Int):∀ lo H,Zc NC lo 125 [i64 n,i64 a,i64 b] H (i64 (ZS n a b)) H:=by
 refine Cn Z5w Tryz.func125 rfl rfl ?_;by_cases h1:n < a<;>by_cases h2:b < n<;>simp (maxDischargeDepth:=12) only [go_sem,reduceEqDiff,reduceAdd,reduceCtorEq,h1,h2,UU]<;>simp [ZS,h1,h2]
noncomputable def KE:List AV→Option AV:=Zy (α:=(Int) × (Int) × (Int)) (fun x=>[i64 x.1,i64 x.2.1,i64 x.2.2]) (fun x=>True) (fun x=>i64 (ZS x.1 x.2.1 x.2.2))
theorem CV:Pok KE 125:=by
 intro args v h;obtain ⟨x,rfl,hp,rfl⟩:=ZD h;exact c125 x.1 x.2.1 x.2.2
theorem pe125 (n a b:Int):KE [.int .i64 n,.int .i64 a,.int .i64 b]=some (.int .i64 (ZS n a b)):=ZE (by intro x y h;(simp only [List.cons.injEq,AV.int.injEq,true_and,and_true] at h;first | simpa only [Prod.ext_iff] using h | simpa only [Prod.ext_iff,and_assoc] using h)) (n,a,b) trivial
attribute [go_sem] pe125
theorem Ij {l:List Int} {k:Nat} (h:∀ i x,i < k→l[i]? = some x→x=0) (hk:k≤l.length):Z9 l=Z9 (l.drop k):=by
 induction k generalizing l with
 | zero=>rfl
 | succ k ih =>
   cases l with
   | nil=>simp at hk
   | cons a r =>
     have h0:=h 0 a (by omega) rfl;subst h0;show Z9 r=Z9 (r.drop k);exact ih (fun i x hi hx=>h (i+1) x (by omega) (by simpa using hx)) (by simpa using hk)
noncomputable def PPF87:PF:=fun _=>none
theorem Z5y:PrimsOk NC PPF87:=ZA
theorem c87 (l:List Int) (hp:l.length≤Z1):∀ lo H,Zc NC lo 87 [.ps .unk (Z3 l)] H (i64 (Z9 l)) H:=by
 refine Cn Z5y Tryz.func87 rfl rfl ?_;simp (maxDischargeDepth:=12) only [go_sem,reduceCtorEq];refine ZK (fun k T H M=>M=[]∧Z2 T 5=.ps .unk (Z3 l)∧Z2 T 6=i64 (l.length:Nat)∧Z2 T 7=i64 k ∧ ∀ i x,i < k→l[i]? = some x→x=0) l.length ?_ ?_ ?_
 · simp (maxDischargeDepth:=12) only [go_sem,reduceEqDiff,reduceCtorEq,Y4];exact fun i x h=>by omega
 · rintro k T H M hk ⟨rfl,g5,g6,g7,hz⟩;obtain ⟨x,hx⟩:∃ x,l[k]? = some x:=⟨l[k],by simp⟩;have hr:=KD hx;have hw:=ZP hk hp;by_cases h0:x=0
   · subst h0;simp (maxDischargeDepth:=12) only [go_sem,reduceEqDiff,g5,g6,g7,hk,Y4,hr,hw];intro i y hi hy;by_cases he:i=k
     · subst he;rw [hx] at hy;cases hy;rfl
     · exact hz i y (by omega) hy
   · simp (maxDischargeDepth:=12) only [go_sem,reduceEqDiff,reduceCtorEq,g5,g6,g7,hk,Y4,hr,h0];rw [Ij hz (by omega),K9 hx];simp [Z9,h0]
 · rintro T H M ⟨rfl,g5,g6,g7,hz⟩;simp (maxDischargeDepth:=12) only [go_sem,reduceEqDiff,reduceCtorEq,g6,g7,Nat.lt_irrefl];rw [Ij hz (Nat.le_refl _),List.drop_length];rfl
noncomputable def p87:List AV→Option AV:=Zy (α:=(List Int)) (fun x=>[.ps .unk (Z3 x)]) (fun x=>x.length≤Z1) (fun x=>i64 (Z9 x))
theorem CW:Pok p87 87:=by
 intro args v h;obtain ⟨x,rfl,hp,rfl⟩:=ZD h;exact c87 x hp
theorem pe87 (l:List Int) (hp:l.length≤Z1):p87 [.ps .unk (Z3 l)]=some (.int .i64 (Z9 l)):=ZE (by intro x y h;(simp only [List.cons.injEq,AV.ps.injEq,K7,true_and,and_true] at h;first | simpa only [Prod.ext_iff] using h | simpa only [Prod.ext_iff,and_assoc] using h)) l hp
attribute [go_sem] pe87
theorem Z5z (a b:Int):p87 [.ps .unk [[.int .i64 a],[.int .i64 b]]]=some (.int .i64 (Z9 [a,b])):=pe87 [a,b] (by show 2≤1073741824;decide)
theorem Z5A (a b c:Int):p87 [.ps .unk [[.int .i64 a],[.int .i64 b],[.int .i64 c]]]=some (.int .i64 (Z9 [a,b,c])):=pe87 [a,b,c] (by show 3≤1073741824;decide)
theorem Z5B (a b c d:Int):p87 [.ps .unk [[.int .i64 a],[.int .i64 b],[.int .i64 c],[.int .i64 d]]]=some (.int .i64 (Z9 [a,b,c,d])):=pe87 [a,b,c,d] (by show 4≤1073741824;decide)
attribute [go_sem] Z5z Z5A Z5B
noncomputable def Z5C:PF:=fun _=>none
theorem Z5D:PrimsOk NC Z5C:=ZA
theorem c246 (x:Int):∀ lo H,Zc NC lo 246 [.int .i32 x] H (.bool (X5 x)) H:=by
 refine Cn Z5D Tryz.func246 rfl rfl ?_;by_cases h1:x < 65<;>by_cases h2:90 < x<;>by_cases h3:x < 97<;>by_cases h4:122 < x<;>simp (maxDischargeDepth:=12) only [go_sem,reduceEqDiff,reduceCtorEq,h1,h2,h3,h4]<;>simp [X5,h1,h2,h3,h4]
noncomputable def p246:List AV→Option AV:=Zy (α:=(Int)) (fun x=>[.int .i32 x]) (fun x=>True) (fun x=>.bool (X5 x))
theorem Z5E:Pok p246 246:=by
 intro args v h;obtain ⟨x,rfl,hp,rfl⟩:=ZD h;exact c246 x
theorem pe246 (x:Int):p246 [.int .i32 x]=some (.bool (X5 x)):=ZE (by intro x y h;(simp only [List.cons.injEq,AV.int.injEq,true_and,and_true] at h;first | simpa only [Prod.ext_iff] using h | simpa only [Prod.ext_iff,and_assoc] using h)) x trivial
attribute [go_sem] pe246
noncomputable def Z5F:PF:=fun _=>none
theorem Z5G:PrimsOk NC Z5F:=ZA
theorem c247 (x:Int):∀ lo H,Zc NC lo 247 [.int .i32 x] H (.bool (ZY x)) H:=by
 refine Cn Z5G Tryz.func247 rfl rfl ?_;by_cases h1:x < 48<;>by_cases h2:57 < x<;>simp (maxDischargeDepth:=12) only [go_sem,reduceEqDiff,reduceCtorEq,h1,h2]<;>simp [ZY,h1,h2]
noncomputable def p247:List AV→Option AV:=Zy (α:=(Int)) (fun x=>[.int .i32 x]) (fun x=>True) (fun x=>.bool (ZY x))
theorem Z5H:Pok p247 247:=by
 intro args v h;obtain ⟨x,rfl,hp,rfl⟩:=ZD h;exact c247 x
theorem pe247 (x:Int):p247 [.int .i32 x]=some (.bool (ZY x)):=ZE (by intro x y h;(simp only [List.cons.injEq,AV.int.injEq,true_and,and_true] at h;first | simpa only [Prod.ext_iff] using h | simpa only [Prod.ext_iff,and_assoc] using h)) x trivial
attribute [go_sem] pe247
noncomputable def Z5I:PF:=fun _=>none
theorem Z5J:PrimsOk NC Z5I:=ZA
theorem c245 (f:Flt):∀ lo H,Zc NC lo 245 [.agg f.row] H (.bool f.silent) H:=by
 refine Cn Z5J Tryz.func245 rfl rfl ?_;obtain ⟨nm,tr,a,b,v,an,re⟩:=f;simp only [Pos.Flt.row];cases an<;>cases re<;>simp (maxDischargeDepth:=12) only [go_sem,reduceEqDiff,reduceAdd,reduceLeDiff,reduceCtorEq]<;>simp [Pos.Flt.silent]
noncomputable def p245:List AV→Option AV:=Zy (α:=(Flt)) (fun x=>[.agg x.row]) (fun x=>True) (fun x=>.bool x.silent)
theorem Z5K:Pok p245 245:=by
 intro args v h;obtain ⟨x,rfl,hp,rfl⟩:=ZD h;exact c245 x
theorem Ik (f:Flt):p245 [.agg f.row]=some (.bool f.silent):=ZE (by intro x y h;(simp only [List.cons.injEq,AV.agg.injEq,Pos.Flt.row_inj,and_true] at h;first | simpa only [Prod.ext_iff] using h | simpa only [Prod.ext_iff,and_assoc] using h)) f trivial
attribute [go_sem] Ik
noncomputable def Z5L:PF:=fun _=>none
theorem Z5M:PrimsOk NC Z5L:=ZA
theorem c265 (x:Trk):∀ lo H,Zc NC lo 265 [.agg x.row] H (.str x.name) H:=by
 refine Cn Z5M Tryz.func265 rfl rfl ?_;simp (maxDischargeDepth:=12) only [go_sem,reduceAdd,reduceLeDiff,reduceCtorEq,Pos.Trk.row]
noncomputable def p265:List AV→Option AV:=Zy (α:=(Trk)) (fun x=>[.agg x.row]) (fun x=>True) (fun x=>.str x.name)
theorem Z5N:Pok p265 265:=by
 intro args v h;obtain ⟨x,rfl,hp,rfl⟩:=ZD h;exact c265 x
theorem Il (x:Trk):p265 [.agg x.row]=some (.str x.name):=ZE (by intro x y h;(simp only [List.cons.injEq,AV.agg.injEq,Pos.Trk.row_inj,and_true] at h;first | simpa only [Prod.ext_iff] using h | simpa only [Prod.ext_iff,and_assoc] using h)) x trivial
attribute [go_sem] Il
noncomputable def Z5O:PF:=fun _=>none
theorem Z5P:PrimsOk NC Z5O:=ZA
theorem c266 (x:Flt):∀ lo H,Zc NC lo 266 [.agg x.row] H (.str x.name) H:=by
 refine Cn Z5P Tryz.func266 rfl rfl ?_;simp (maxDischargeDepth:=12) only [go_sem,reduceAdd,reduceLeDiff,reduceCtorEq,Pos.Flt.row]
noncomputable def p266:List AV→Option AV:=Zy (α:=(Flt)) (fun x=>[.agg x.row]) (fun x=>True) (fun x=>.str x.name)
theorem Z5Q:Pok p266 266:=by
 intro args v h;obtain ⟨x,rfl,hp,rfl⟩:=ZD h;exact c266 x
theorem Im (x:Flt):p266 [.agg x.row]=some (.str x.name):=ZE (by intro x y h;(simp only [List.cons.injEq,AV.agg.injEq,Pos.Flt.row_inj,and_true] at h;first | simpa only [Prod.ext_iff] using h | simpa only [Prod.ext_iff,and_assoc] using h)) x trivial
attribute [go_sem] Im
noncomputable def Z5R:PF:=fun _=>none
theorem Z5S:PrimsOk NC Z5R:=ZA
theorem c267 (x:Trn):∀ lo H,Zc NC lo 267 [.agg x.row] H (.str x.name) H:=by
 refine Cn Z5S Tryz.func267 rfl rfl ?_;simp (maxDischargeDepth:=12) only [go_sem,reduceAdd,reduceLeDiff,reduceCtorEq,Pos.Trn.row]
noncomputable def p267:List AV→Option AV:=Zy (α:=(Trn)) (fun x=>[.agg x.row]) (fun x=>True) (fun x=>.str x.name)
theorem Z5T:Pok p267 267:=by
 intro args v h;obtain ⟨x,rfl,hp,rfl⟩:=ZD h;exact c267 x
theorem In (x:Trn):p267 [.agg x.row]=some (.str x.name):=ZE (by intro x y h;(simp only [List.cons.injEq,AV.agg.injEq,Pos.Trn.row_inj,and_true] at h;first | simpa only [Prod.ext_iff] using h | simpa only [Prod.ext_iff,and_assoc] using h)) x trivial
attribute [go_sem] In
noncomputable def Z5U:PF:=fun _=>none
theorem Z5V:PrimsOk NC Z5U:=ZA
theorem c268 (x:Pos):∀ lo H,Zc NC lo 268 [.agg x.row] H (.str x.name) H:=by
 refine Cn Z5V Tryz.func268 rfl rfl ?_;simp (maxDischargeDepth:=12) only [go_sem,reduceAdd,reduceLeDiff,reduceCtorEq,Pos.Pos.row]
noncomputable def p268:List AV→Option AV:=Zy (α:=(Pos)) (fun x=>[.agg x.row]) (fun x=>True) (fun x=>.str x.name)
theorem Z5W:Pok p268 268:=by
 intro args v h;obtain ⟨x,rfl,hp,rfl⟩:=ZD h;exact c268 x
theorem Io (x:Pos):p268 [.agg x.row]=some (.str x.name):=ZE (by intro x y h;(simp only [List.cons.injEq,AV.agg.injEq,Pos.Pos.row_inj,and_true] at h;first | simpa only [Prod.ext_iff] using h | simpa only [Prod.ext_iff,and_assoc] using h)) x trivial
attribute [go_sem] Io
noncomputable def Z5X:PF:=fun _=>none
theorem Z5Y:PrimsOk NC Z5X:=ZA
theorem c269 (x:Mch):∀ lo H,Zc NC lo 269 [.agg x.row] H (.str x.name) H:=by
 refine Cn Z5Y Tryz.func269 rfl rfl ?_;simp (maxDischargeDepth:=12) only [go_sem,reduceAdd,reduceLeDiff,reduceCtorEq,Pos.Mch.row]
noncomputable def p269:List AV→Option AV:=Zy (α:=(Mch)) (fun x=>[.agg x.row]) (fun x=>True) (fun x=>.str x.name)
theorem Z5Z:Pok p269 269:=by
 intro args v h;obtain ⟨x,rfl,hp,rfl⟩:=ZD h;exact c269 x
theorem Ip (x:Mch):p269 [.agg x.row]=some (.str x.name):=ZE (by intro x y h;(simp only [List.cons.injEq,AV.agg.injEq,Pos.Mch.row_inj,and_true] at h;first | simpa only [Prod.ext_iff] using h | simpa only [Prod.ext_iff,and_assoc] using h)) x trivial
attribute [go_sem] Ip
noncomputable def Z60:PF:=fun _=>none
theorem Z61:PrimsOk NC Z60:=ZA
theorem c198 (x:Mch):∀ lo H,Zc NC lo 198 [.agg x.row] H (.str x.name) H:=by
 refine Cn Z61 Tryz.func198 rfl rfl ?_;simp (maxDischargeDepth:=12) only [go_sem,reduceAdd,reduceLeDiff,reduceCtorEq,Pos.Mch.row]
noncomputable def p198:List AV→Option AV:=Zy (α:=(Mch)) (fun x=>[.agg x.row]) (fun x=>True) (fun x=>.str x.name)
theorem Z62:Pok p198 198:=by
 intro args v h;obtain ⟨x,rfl,hp,rfl⟩:=ZD h;exact c198 x
theorem Iq (x:Mch):p198 [.agg x.row]=some (.str x.name):=ZE (by intro x y h;(simp only [List.cons.injEq,AV.agg.injEq,Pos.Mch.row_inj,and_true] at h;first | simpa only [Prod.ext_iff] using h | simpa only [Prod.ext_iff,and_assoc] using h)) x trivial
attribute [go_sem] Iq
noncomputable def Z63:PF:=fun _=>none
theorem Z64:PrimsOk NC Z63:=ZA
theorem c123 (x:Flt):∀ lo H,Zc NC lo 123 [.agg x.row] H (.str x.name) H:=by
 refine Cn Z64 Tryz.func123 rfl rfl ?_;simp (maxDischargeDepth:=12) only [go_sem,reduceAdd,reduceLeDiff,reduceCtorEq,Pos.Flt.row]
noncomputable def p123:List AV→Option AV:=Zy (α:=(Flt)) (fun x=>[.agg x.row]) (fun x=>True) (fun x=>.str x.name)
theorem Z65:Pok p123 123:=by
 intro args v h;obtain ⟨x,rfl,hp,rfl⟩:=ZD h;exact c123 x
def Xj (x:Nm):List Nm→Int
 | []=>-1
 | a::l=>if a=x then 0 else if Xj x l = -1 then -1 else Xj x l+1
theorem CX {x:Nm}:∀ {l:List Nm},x ∉ l→Xj x l = -1
 | [],_=>rfl
 | a::l,h=>by
   have h1:¬ a=x:=fun e=>h (by simp [e])
   have h2:=CX (x:=x) (l:=l) fun hm=>h (by simp [hm])
   unfold Xj;rw [if_neg h1,if_pos h2]
theorem CY {x:Nm}:∀ {l:List Nm} {k:Nat},l[k]? = some x→x ∉ l.take k→Xj x l=(k:Int)
 | [],k,h,_=>by simp at h
 | a::l,0,h,_=>by
   have:a=x:=by simpa using h
   unfold Xj;rw [if_pos this];rfl
 | a::l,k+1,h,hn=>by
   rw [List.take_succ_cons] at hn;have h1:¬ a=x:=fun e=>hn (by simp [e])
   have h2:=CY (x:=x) (l:=l) (k:=k) (by simpa using h) fun hm=>hn (by simp [hm])
   unfold Xj;rw [if_neg h1,h2,if_neg (by omega)];omega
noncomputable def Z66:PF:=fun _=>none
theorem Z67:PrimsOk NC Z66:=ZA
theorem c153 (l:List Nm) (w:Nm) (hp:l.length≤Z1):∀ lo H,Zc NC lo 153 [.ps .unk (Z0 l),.str w] H (i64 (Xj w l)) H:=by
 refine Cn Z67 Tryz.func153 rfl rfl ?_;simp (maxDischargeDepth:=12) only [go_sem,reduceEqDiff,reduceAdd,reduceCtorEq];refine ZK (fun k T H M=>M=[]∧Z2 T 0=.ps .unk (Z0 l)∧Z2 T 1=.str w∧Z2 T 7=i64 (l.length:Nat)∧Z2 T 8=i64 k∧w ∉ l.take k) l.length ?_ ?_ ?_
 · simp (maxDischargeDepth:=12) only [go_sem,reduceEqDiff,reduceCtorEq,Zt];simp
 · rintro k T H M hk ⟨rfl,g0,g1,g7,g8,hz⟩;obtain ⟨y,hy⟩:∃ x,l[k]? = some x:=⟨l[k],by simp⟩;have hr:=K8 hy;have hw:=ZP hk hp;by_cases h0:y=w
   · subst h0;have hb:Z6 y y=true:=by rw [Yu];simp
     simp (maxDischargeDepth:=12) only [go_sem,reduceEqDiff,reduceCtorEq,g0,g1,g7,g8,hk,Zt,hr,hb];rw [CY hy hz]
   · have hb:Z6 w y=false:=by rw [Yu];simpa using fun e=>h0 e.symm
     simp (maxDischargeDepth:=12) only [go_sem,reduceEqDiff,reduceCtorEq,g0,g1,g7,g8,hk,Zt,hr,hw,hb];rw [List.take_add_one,hy];simp only [Option.toList,List.mem_append,List.mem_singleton];rintro (h | h)
     · exact hz h
     · exact h0 h.symm
 · rintro T H M ⟨rfl,g0,g1,g7,g8,hz⟩;rw [List.take_length] at hz;simp (maxDischargeDepth:=12) only [go_sem,reduceEqDiff,reduceCtorEq,g7,g8,Nat.lt_irrefl];rw [CX hz]
noncomputable def VQ:List AV→Option AV:=Zy (α:=(List Nm) × (Nm)) (fun x=>[.ps .unk (Z0 x.1),.str x.2]) (fun x=>x.1.length≤Z1) (fun x=>i64 (Xj x.2 x.1))
theorem Ir:Pok VQ 153:=by
 intro args v h;obtain ⟨x,rfl,hp,rfl⟩:=ZD h;exact c153 x.1 x.2 hp
theorem F3 (l:List Nm) (w:Nm) (hp:l.length≤Z1):VQ [.ps .unk (Z0 l),.str w]=some (.int .i64 (Xj w l)):=ZE (by intro x y h;(simp only [List.cons.injEq,AV.str.injEq,AV.ps.injEq,KC,true_and,and_true] at h;first | simpa only [Prod.ext_iff] using h | simpa only [Prod.ext_iff,and_assoc] using h)) (l,w) hp
attribute [go_sem] F3
theorem Z68 (x:Nm) (l:List Nm):(Xj x l < 0)=(x ∉ l):=by
 simp only [eq_iff_iff];by_cases h:x ∈ l
 · obtain ⟨k,hk⟩:=List.mem_iff_getElem?.1 h;have hex:∃ k,l[k]? = some x∧x ∉ l.take k:=by
    clear hk
    induction l with
    | nil=>simp at h
    | cons a r ih =>
      by_cases ha:a=x
      · exact ⟨0,by simp [ha],by simp⟩
      · have hr:x ∈ r:=by
         rcases List.mem_cons.1 h with e | e
         · exact absurd e.symm ha
         · exact e
        obtain ⟨k,h1,h2⟩:=ih hr;exact ⟨k+1,by simpa using h1,by rw [List.take_succ_cons];simp [h2,Ne.symm ha]⟩
   obtain ⟨k,h1,h2⟩:=hex;rw [CY h1 h2];constructor
   · intro h;omega
   · intro h';exact absurd h h'
 · rw [CX h];constructor
   · intro _;exact h
   · intro _;decide
noncomputable def Is:PF:=Zd 153 VQ (fun _=>none)
theorem Z69:PrimsOk NC Is:=Pa (ZA) Ir
theorem Z6a:En Is 153 VQ:=Ze (by rfl) (by kernel_rfl)
attribute [go_sem ↓] Z6a
theorem c150 (l:List Nm) (w:Nm) (hp:l.length≤Z1):∀ lo H,Zc NC lo 150 [.ps .unk (Z0 l),.str w] H (.bool (decide (w ∈ l))) H:=by
 refine Cn Z69 Tryz.func150 rfl rfl ?_;simp (maxDischargeDepth:=12) only [go_sem,reduceEqDiff,reduceAdd,reduceCtorEq,F3 l w hp,Z68];simp
noncomputable def p150:List AV→Option AV:=Zy (α:=(List Nm) × (Nm)) (fun x=>[.ps .unk (Z0 x.1),.str x.2]) (fun x=>x.1.length≤Z1) (fun x=>.bool (decide (x.2 ∈ x.1)))
theorem Z6b:Pok p150 150:=by
 intro args v h;obtain ⟨x,rfl,hp,rfl⟩:=ZD h;exact c150 x.1 x.2 hp
theorem CZ (l:List Nm) (w:Nm) (hp:l.length≤Z1):p150 [.ps .unk (Z0 l),.str w]=some (.bool (decide (w ∈ l))):=ZE (by intro x y h;(simp only [List.cons.injEq,AV.str.injEq,AV.ps.injEq,KC,true_and,and_true] at h;first | simpa only [Prod.ext_iff] using h | simpa only [Prod.ext_iff,and_assoc] using h)) (l,w) hp
attribute [go_sem] CZ
theorem A0 {s:List Nat} {k c:Nat} (h:s[k]? = some c) (hc:c < 128):XO s k=(c,1):=by
 unfold XO;have:s.getD (k+0) 0=c:=by simp [h]
 simp only [this];rw [if_pos hc]
theorem It {s:List Nat} {k c:Nat} (h:s[k]? = some c) (hc:¬ c < 128):128≤(XO s k).1:=by
 unfold XO;have h0:s.getD (k+0) 0=c:=by simp [h]
 simp only [h0];rw [if_neg hc];have he:(128:Nat)≤Utf8.runeError:=by decide
 split
 · split
   · rename_i h1;exact h1
   · exact he
 · split
   · split
     · rename_i h1;simp only [Bool.and_eq_true,decide_eq_true_eq] at h1;exact Nat.le_trans (by decide) h1.1
     · exact he
   · split
     · split
       · rename_i h1;simp only [Bool.and_eq_true,decide_eq_true_eq] at h1;exact Nat.le_trans (by decide) h1.1
       · exact he
     · exact he
theorem Iu {x:Nat} (h:128≤x):X5 x=false:=by
 have h1:¬ ((x:Int) < 65):=by omega
 have h2:(90:Int) < x:=by omega
 have h3:¬ ((x:Int) < 97):=by omega
 have h4:(122:Int) < x:=by omega
 simp [X5,h2,h4]
theorem A4 {x:Nat} (h:128≤x):ZY x=false:=by
 have h2:(57:Int) < x:=by omega
 simp [ZY,h2]
noncomputable def A5:PF:=Zd 247 p247 (Zd 246 p246 (fun _=>none))
theorem Z6c:PrimsOk NC A5:=Pa (Pa (ZA) Z5E) Z5H
theorem Z6d:En A5 246 p246:=Ze (by rfl) (by kernel_rfl)
theorem Z6e:En A5 247 p247:=Ze (by rfl) (by kernel_rfl)
attribute [go_sem ↓] Z6d Z6e
theorem c131 (s:Nm):∀ lo H,Zc NC lo 131 [.str s] H (.bool (Z7 s)) H:=by
 refine Cn Z6c Tryz.func131 rfl rfl ?_;simp (maxDischargeDepth:=12) only [go_sem,reduceCtorEq];refine ZK (fun k T H M=>M=[]∧Z2 T 0=.str s∧Z2 T 6=.ptr 0 0∧H.get 0=.sit s k∧(∀ c,0 < k→s[0]? = some c→X5 (c:Nat)=true) ∧ ∀ (i c:Nat),1≤i→i < k→s[i]? = some c→YN c=true) s.length ?_ ?_ ?_
 · simp (maxDischargeDepth:=12) only [go_sem,reduceEqDiff,reduceLT,reduceCtorEq];exact ⟨fun c h=>h.elim,fun i c h1 h2=>by omega⟩
 · rintro k T H M hk ⟨rfl,g0,g6,gH,hf0,hf⟩;obtain ⟨c,hc⟩:∃ c,s[k]? = some c:=⟨s[k],by simp⟩;by_cases hasc:c < 128
   · have hd:=A0 hc hasc;cases q1:X5 (c:Nat) with
     | true =>
       simp (maxDischargeDepth:=12) only [go_sem,reduceEqDiff,reduceCtorEq,g0,g6,gH,hk,hd,q1];refine ⟨fun d _ hd0 => ?_,fun i d hi hj hdi => ?_⟩
       · by_cases e:k=0
         · subst e;rw [hc] at hd0;cases hd0;exact q1
         · exact hf0 d (by omega) hd0
       · by_cases e:i=k
         · subst e;rw [hc] at hdi;cases hdi;simp [YN,q1]
         · exact hf i d hi (by omega) hdi
     | false =>
       by_cases e:k=0
       · subst e;simp (maxDischargeDepth:=12) only [go_sem,reduceEqDiff,reduceAdd,reduceCtorEq,g6,gH,hk,hd,q1];simp [HR hc q1]
       · have e':((k:Int)=0)=False:=by simp;omega
         cases q2:ZY (c:Nat) with
         | true =>
           simp (maxDischargeDepth:=12) only [go_sem,reduceEqDiff,reduceCtorEq,g0,g6,gH,hk,hd,q1,q2,e'];refine ⟨fun d _ hd0=>hf0 d (by omega) hd0,fun i d hi hj hdi => ?_⟩;by_cases e:i=k
           · subst e;rw [hc] at hdi;cases hdi;simp [YN,q2]
           · exact hf i d hi (by omega) hdi
         | false =>
           rcases Classical.propComplete (((c:Nat):Int)=95) with q3 | q3
           · simp (maxDischargeDepth:=12) only [go_sem,reduceEqDiff,reduceCtorEq,g0,g6,gH,hk,hd,q1,q2,q3,e'];refine ⟨fun d _ hd0=>hf0 d (by omega) hd0,fun i d hi hj hdi => ?_⟩;by_cases e:i=k
             · subst e;rw [hc] at hdi;cases hdi;simp [YN,q3]
             · exact hf i d hi (by omega) hdi
           · simp (maxDischargeDepth:=12) only [go_sem,reduceEqDiff,reduceCtorEq,g6,gH,hk,hd,q1,q2,q3,e'];simp [HS (by omega) hc (show YN (c:Nat)=false by simp [YN,q1,q2,q3])]
   · have hd:=It hc hasc;have q1:=Iu hd;have q2:=A4 hd;have q3:(((XO s k).1:Int)=95)=False:=by simp;omega
     have r1:X5 (c:Nat)=false:=Iu (by omega);have r2:ZY (c:Nat)=false:=A4 (by omega);have r3:¬ ((c:Int)=95):=by omega
     by_cases e:k=0
     · subst e;simp (maxDischargeDepth:=12) only [go_sem,reduceEqDiff,reduceAdd,reduceCtorEq,g6,gH,hk,q1];simp [HR hc r1]
     · have e':((k:Int)=0)=False:=by simp;omega
       simp (maxDischargeDepth:=12) only [go_sem,reduceEqDiff,reduceCtorEq,g6,gH,hk,q1,q2,q3,e'];simp [HS (by omega) hc (show YN (c:Nat)=false by simp [YN,r1,r2,r3])]
 · rintro T H M ⟨rfl,g0,g6,gH,hf0,hf⟩;rcases Classical.propComplete ((0:Int) < (s.length:Int)) with h1 | h1
   · rcases Classical.propComplete ((24:Int) < (s.length:Int)) with h2 | h2
     · simp (maxDischargeDepth:=12) only [go_sem,reduceEqDiff,reduceCtorEq,g0,g6,gH,Nat.lt_irrefl,h1,h2];have h2':=of_eq_true h2;cases s with
       | nil=>simp [Z7]
       | cons c r=>simp [Z7];intro h;simp at h2';omega
     · simp (maxDischargeDepth:=12) only [go_sem,reduceEqDiff,reduceCtorEq,g0,g6,gH,Nat.lt_irrefl,h1,h2];have h1':=of_eq_true h1;have h2':=of_eq_false h2;have:=Z52 (s:=s) (by intro e;rw [e] at h1';simp at h1') (by omega) (fun d hd=>hf0 d (by omega) hd) (fun i d hi hd=>hf i d hi (List.getElem?_eq_some_iff.1 hd).1 hd);simp [this]
   · simp (maxDischargeDepth:=12) only [go_sem,reduceEqDiff,reduceCtorEq,g0,g6,gH,Nat.lt_irrefl,h1];have h1':=of_eq_false h1;have:s=[]:=List.length_eq_zero_iff.1 (by omega);subst this;simp [Z7]
noncomputable def p131:List AV→Option AV:=Zy (α:=(Nm)) (fun x=>[.str x]) (fun x=>True) (fun x=>.bool (Z7 x))
theorem Z6f:Pok p131 131:=by
 intro args v h;obtain ⟨x,rfl,hp,rfl⟩:=ZD h;exact c131 x
theorem pe131 (s:Nm):p131 [.str s]=some (.bool (Z7 s)):=ZE (by intro x y h;(simp only [List.cons.injEq,AV.str.injEq,and_true] at h;first | simpa only [Prod.ext_iff] using h | simpa only [Prod.ext_iff,and_assoc] using h)) s trivial
attribute [go_sem] pe131
noncomputable def A6:PF:=Zd 88 p88 (Zd 131 p131 (fun _=>none))
theorem Z6g:PrimsOk NC A6:=Pa (Pa (ZA) Z6f) Vc
theorem Z6h:En A6 131 p131:=Ze (by rfl) (by kernel_rfl)
theorem Z6i:En A6 88 p88:=Ze (by rfl) (by kernel_rfl)
attribute [go_sem ↓] Z6h Z6i
theorem c130 (s:Nm):∀ lo H,Zc NC lo 130 [.str s] H (i64 (Z5 (!Z7 s) 8)) H:=by
 refine Cn Z6g Tryz.func130 rfl rfl ?_;simp (maxDischargeDepth:=12) only [go_sem,reduceEqDiff,reduceCtorEq]
noncomputable def p130:List AV→Option AV:=Zy (α:=(Nm)) (fun x=>[.str x]) (fun x=>True) (fun x=>i64 (Z5 (!Z7 x) 8))
theorem Z6j:Pok p130 130:=by
 intro args v h;obtain ⟨x,rfl,hp,rfl⟩:=ZD h;exact c130 x
theorem pe130 (s:Nm):p130 [.str s]=some (.int .i64 (Z5 (!Z7 s) 8)):=ZE (by intro x y h;(simp only [List.cons.injEq,AV.str.injEq,and_true] at h;first | simpa only [Prod.ext_iff] using h | simpa only [Prod.ext_iff,and_assoc] using h)) s trivial
attribute [go_sem] pe130
noncomputable def Iv:PF:=Zd 125 KE (fun _=>none)
theorem Z6k:PrimsOk NC Iv:=Pa (ZA) CV
theorem Z6l:En Iv 125 KE:=Ze (by rfl) (by kernel_rfl)
attribute [go_sem ↓] Z6l
theorem c133 (n:Int):∀ lo H,Zc NC lo 133 [i64 n] H (i64 (ZS n 0 999999999)) H:=by
 refine Cn Z6k Tryz.func133 rfl rfl ?_;simp (maxDischargeDepth:=12) only [go_sem,reduceEqDiff,reduceCtorEq]
noncomputable def p133:List AV→Option AV:=Zy (α:=(Int)) (fun x=>[i64 x]) (fun x=>True) (fun x=>i64 (ZS x 0 999999999))
theorem Z6m:Pok p133 133:=by
 intro args v h;obtain ⟨x,rfl,hp,rfl⟩:=ZD h;exact c133 x
theorem pe133 (n:Int):p133 [.int .i64 n]=some (.int .i64 (ZS n 0 999999999)):=ZE (by intro x y h;(simp only [List.cons.injEq,AV.int.injEq,true_and,and_true] at h;first | simpa only [Prod.ext_iff] using h | simpa only [Prod.ext_iff,and_assoc] using h)) n trivial
attribute [go_sem] pe133
def Qh (s:Nm):Int:=Z5 (!Z7 s) 8
def Qi (n:Int):Int:=ZS n 0 999999999
theorem Iw {α:Type} {u:α→Int} {l:List α} {k:Nat} {x:α} (h:l[k]? = some x):Z3 ((l.take (k+1)).map u)=Z3 ((l.take k).map u)++[[i64 (u x)]]:=by
 rw [F2 h];unfold Z3;rw [List.map_append];rfl
noncomputable def Ix:PF:=Zd 130 p130 (fun _=>none)
theorem Z6n:PrimsOk NC Ix:=Pa (ZA) Z6j
theorem Z6o:En Ix 130 p130:=Ze (by rfl) (by kernel_rfl)
attribute [go_sem ↓] Z6o
theorem c129 (l:List Nm) (hp:l.length≤Z1):∀ lo H,Zc NC lo 129 [.ps .unk (Z0 l),.fn 130 [] []] H (.ps .unk (Z3 (l.map Qh))) H:=by
 refine Cn Z6n Tryz.func129 rfl rfl ?_;simp (maxDischargeDepth:=12) only [go_sem,reduceEqDiff,reduceAdd,reduceCtorEq];refine ZK (fun k T H M=>M=[]∧Z2 T 1=.fn 130 [] []∧Z2 T 8=.ps .unk (Z0 l)∧Z2 T 9=i64 (l.length:Nat)∧Z2 T 10=i64 k ∧ ∃ t,Z2 T 5=.ps t (Z3 ((l.take k).map Qh))∧Zj 0 H t (Z3 ((l.take k).map Qh)) 1 25) l.length ?_ ?_ ?_
 · simp (maxDischargeDepth:=12) only [go_sem,reduceEqDiff,reduceCtorEq,Zt];exact ⟨.nil,rfl,.inl ⟨rfl,rfl⟩⟩
 · rintro k T H M hk ⟨rfl,g1,g8,g9,g10,t,g5,hA⟩;obtain ⟨x,hx⟩:∃ x,l[k]? = some x:=⟨l[k],by simp⟩;have hr:=K8 hx;have hw:=ZP hk hp;obtain ⟨t',H',ha,hA',_⟩:=YR (lo:=0) hA (Nat.zero_le _) (Nat.le_refl _) (r:=[i64 (Qh x)]) (by rw [Y4,List.length_map,List.length_take];omega) rfl (by decide) (CU _);have e1:[AV.int .i64 (Qh x)].map AV.strip0=[i64 (Qh x)]:=rfl;rw [e1,← Iw hx] at ha hA';have e2:Z5 (!Z7 x) 8=Qh x:=rfl;simp (maxDischargeDepth:=12) only [go_sem,reduceEqDiff,reduceMul,reduceLeDiff,g1,g5,g8,g9,g10,hk,Zt,hr,hw,e2,ZT,ha];exact ⟨t',rfl,hA'⟩
 · rintro T H M ⟨rfl,g1,g8,g9,g10,t,g5,hA⟩;rw [List.take_length] at g5;simp (maxDischargeDepth:=12) only [go_sem,reduceEqDiff,reduceCtorEq,g5,g9,g10,Nat.lt_irrefl]
noncomputable def p129:List AV→Option AV:=Zy (α:=(List Nm)) (fun x=>[.ps .unk (Z0 x),.fn 130 [] []]) (fun x=>x.length≤Z1) (fun x=>.ps .unk (Z3 (x.map Qh)))
theorem Z6p:Pok p129 129:=by
 intro args v h;obtain ⟨x,rfl,hp,rfl⟩:=ZD h;exact c129 x hp
theorem pe129 (l:List Nm) (hp:l.length≤Z1):p129 [.ps .unk (Z0 l),.fn 130 [] []]=some (.ps .unk (Z3 (l.map Qh))):=ZE (by intro x y h;(simp only [List.cons.injEq,AV.ps.injEq,KC,true_and,and_true] at h;first | simpa only [Prod.ext_iff] using h | simpa only [Prod.ext_iff,and_assoc] using h)) l hp
attribute [go_sem] pe129
noncomputable def Iy:PF:=Zd 133 p133 (fun _=>none)
theorem Z6q:PrimsOk NC Iy:=Pa (ZA) Z6m
theorem Z6r:En Iy 133 p133:=Ze (by rfl) (by kernel_rfl)
attribute [go_sem ↓] Z6r
theorem c132 (l:List Int) (hp:l.length≤Z1):∀ lo H,Zc NC lo 132 [.ps .unk (Z3 l),.fn 133 [] []] H (.ps .unk (Z3 (l.map Qi))) H:=by
 refine Cn Z6q Tryz.func132 rfl rfl ?_;simp (maxDischargeDepth:=12) only [go_sem,reduceEqDiff,reduceAdd,reduceCtorEq];refine ZK (fun k T H M=>M=[]∧Z2 T 1=.fn 133 [] []∧Z2 T 8=.ps .unk (Z3 l)∧Z2 T 9=i64 (l.length:Nat)∧Z2 T 10=i64 k ∧ ∃ t,Z2 T 5=.ps t (Z3 ((l.take k).map Qi))∧Zj 0 H t (Z3 ((l.take k).map Qi)) 1 25) l.length ?_ ?_ ?_
 · simp (maxDischargeDepth:=12) only [go_sem,reduceEqDiff,reduceCtorEq,Y4];exact ⟨.nil,rfl,.inl ⟨rfl,rfl⟩⟩
 · rintro k T H M hk ⟨rfl,g1,g8,g9,g10,t,g5,hA⟩;obtain ⟨x,hx⟩:∃ x,l[k]? = some x:=⟨l[k],by simp⟩;have hr:=KD hx;have hw:=ZP hk hp;obtain ⟨t',H',ha,hA',_⟩:=YR (lo:=0) hA (Nat.zero_le _) (Nat.le_refl _) (r:=[i64 (Qi x)]) (by rw [Y4,List.length_map,List.length_take];omega) rfl (by decide) (CU _);have e1:[AV.int .i64 (Qi x)].map AV.strip0=[i64 (Qi x)]:=rfl;rw [e1,← Iw hx] at ha hA';have e2:ZS x 0 999999999=Qi x:=rfl;simp (maxDischargeDepth:=12) only [go_sem,reduceEqDiff,reduceMul,reduceLeDiff,g1,g5,g8,g9,g10,hk,Y4,hr,hw,e2,ZT,ha];exact ⟨t',rfl,hA'⟩
 · rintro T H M ⟨rfl,g1,g8,g9,g10,t,g5,hA⟩;rw [List.take_length] at g5;simp (maxDischargeDepth:=12) only [go_sem,reduceEqDiff,reduceCtorEq,g5,g9,g10,Nat.lt_irrefl]
noncomputable def p132:List AV→Option AV:=Zy (α:=(List Int)) (fun x=>[.ps .unk (Z3 x),.fn 133 [] []]) (fun x=>x.length≤Z1) (fun x=>.ps .unk (Z3 (x.map Qi)))
theorem Z6s:Pok p132 132:=by
 intro args v h;obtain ⟨x,rfl,hp,rfl⟩:=ZD h;exact c132 x hp
theorem pe132 (l:List Int) (hp:l.length≤Z1):p132 [.ps .unk (Z3 l),.fn 133 [] []]=some (.ps .unk (Z3 (l.map Qi))):=ZE (by intro x y h;(simp only [List.cons.injEq,AV.ps.injEq,K7,true_and,and_true] at h;first | simpa only [Prod.ext_iff] using h | simpa only [Prod.ext_iff,and_assoc] using h)) l hp
attribute [go_sem] pe132
def Vd (s:Nm):List (AV × AV)→Option Bool
 | []=>some false
 | (.str k,_)::r=>cond (Z6 s k) (some true) (Vd s r)
 | _=>none
def lkS (s:Nm):List (AV × AV)→Option AV
 | []=>none
 | (.str k,v)::r=>if s=k then some v else lkS s r
 | _=>none
theorem keyS (s:Nm):Vt NC.P 9 (.str s)=true:=by
 unfold Vt;have h1:QA NC.P 100 9=true:=by kernel_rfl
 have h2:Y2 NC.P 100 9 (.str s) (.str s)=some (Z6 s s):=by
  unfold Y2;rw [V8]
 rw [h1,h2,Yu];simp
theorem A7 (s:Nm):∀ (es:List (AV × AV)) (i:Nat),(Vd s es=some false→Xc NC.P 9 (.str s) es i=some none)
 | [],i,_=>rfl
 | (k,v)::r,i,h=>by
   unfold Vd at h;split at h
   · rename_i h1;cases h1
   · rename_i k' v' r' h1
     cases h1;have hu:Xc NC.P 9 (.str s) ((.str k',v)::r) i=match Y2 NC.P 100 9 (.str s) (.str k') with
      | some true=>some (some (i,.str k',v))
      | some false=>Xc NC.P 9 (.str s) r (i+1)
      | none=>none:=rfl
     have h2:Y2 NC.P 100 9 (.str s) (.str k')=some (Z6 s k'):=by
      unfold Y2;rw [V8]
     rw [hu,h2];cases hb:Z6 s k' with
     | true=>rw [hb] at h;cases h
     | false =>
       rw [hb] at h;exact A7 s r (i+1) h
   · cases h
theorem A8 (s:Nm):∀ (es:List (AV × AV)) (i:Nat),(∀ x ∈ es,∃ k,x.1=.str k)→(lkS s es=none→Xc NC.P 9 (.str s) es i=some none) ∧ ∀ v,lkS s es=some v → ∃ j k,Xc NC.P 9 (.str s) es i=some (some (j,k,v))
 | [],i,_=>⟨fun _=>rfl,fun v h=>by cases h⟩
 | (k,v)::r,i,hk=>by
   obtain ⟨k',rfl⟩:∃ k',k=.str k':=hk (k,v) (by simp);have ih:=A8 s r (i+1) fun x hx=>hk x (by simp [hx])
   have hu:Xc NC.P 9 (.str s) ((.str k',v)::r) i=match Y2 NC.P 100 9 (.str s) (.str k') with
    | some true=>some (some (i,.str k',v))
    | some false=>Xc NC.P 9 (.str s) r (i+1)
    | none=>none:=rfl
   have h2:Y2 NC.P 100 9 (.str s) (.str k')=some (Z6 s k'):=by
    unfold Y2;rw [V8]
   have hl:lkS s ((.str k',v)::r)=if s=k' then some v else lkS s r:=rfl
   rw [hu,h2,hl,Yu];by_cases h:s=k'
   · rw [if_pos h];simp only [h,decide_true];exact ⟨fun h=>(by cases h),fun v' h=>by cases h;exact ⟨_,_,rfl⟩⟩
   · rw [if_neg h];simp only [h,decide_false];exact ih
def Iz:=@Qb
def insF (f:Option Bool) (H:Heap) (m:Nat) (es:List (AV × AV)) (s:Nm) (v:AV) (alt:Prop) (K:Heap→Prop) (_t:Tag K:=⟨⟩):Prop:=match f with
 | some false=>K (H.set m (.map (es++[(.str s,v)])))
 | _=>alt
theorem Z6t (H:Heap) (m:Nat) (es:List (AV × AV)) (s:Nm) (v:AV) (alt:Prop) (K:Heap→Prop):insF (some false) H m es s v alt K=K (H.set m (.map (es++[(.str s,v)]))):=rfl
def UV (b:ABlk) (H:Heap) (m:Nat) (s:Nm) (v:AV) (alt:Prop) (K:Heap→Prop) (_t:Tag K:=⟨⟩):Prop:=match b with
 | .map es=>insF (Vd s es) H m es s v alt K
 | _=>alt
theorem Z6u (es:List (AV × AV)) (H:Heap) (m:Nat) (s:Nm) (v:AV) (alt:Prop) (K:Heap→Prop):UV (.map es) H m s v alt K=insF (Vd s es) H m es s v alt K:=rfl
def VR (le:Prop) [Decidable le] (H:Heap) (m:Nat) (s:Nm) (v:AV) (alt:Prop) (K:Heap→Prop) (_t:Tag K:=⟨⟩):Prop:=if le then UV (H.get m) H m s v alt K else alt
theorem Z6v (H:Heap) (m:Nat) (s:Nm) (v:AV) (alt:Prop) (K:Heap→Prop):VR True H m s v alt K=UV (H.get m) H m s v alt K:=by unfold VR;rw [if_pos trivial]
theorem ins_S (lo:Nat) (H:Heap) (m:Nat) (s:Nm) (v:AV) (K:Heap→Prop):AO (Qb NC.P lo H 176 (.map m) (.str s) v) K=VR (lo≤m) H m s v.strip (AO (Iz NC.P lo H 176 (.map m) (.str s) v) K) K:=by
 unfold VR;split
 · rename_i hlo
   unfold UV;split
   · rename_i es hg
     unfold insF;split
     · rename_i hf
       have e:Qb NC.P lo H 176 (.map m) (.str s) v=some (H.set m (.map (es++[(.str s,v.strip)]))):=by
        unfold Qb;rw [CL];simp only [keyS,hlo,decide_true,Bool.and_true,if_true,hg,A7 s es 0 hf]
       rw [e];rfl
     · rfl
   · rfl
 · rfl
theorem Z6w {C:Cfg} {rec:Rec} {fid lo:Nat} {T:TT AV} {H:Heap} {K:AV→Heap→Prop} {d:Option Tmp} {t:TypeId} {p:String} {af:Array Edge} {gd:Option (Nat × Bool)} (t':TypeId) (m k x:Operand):VO (aop C rec fid lo ⟨d,.insert t' m k x,t,p,af,gd⟩ T H) K=AO (Z4 C T m) fun m=>AO (Z4 C T k) fun k=>AO (Z4 C T x) fun x=>AO (Qb C.P lo H t' m k x) fun H=>K Y9 H :=
 EB (C:=C) (rec:=rec) (fid:=fid) (lo:=lo) (T:=T) (H:=H) (K:=K) (d:=d) (t:=t) (p:=p) (af:=af) (gd:=gd) t' m k x
attribute [go_sem ↓] ins_S Z6v Z6u Z6t Z6w
theorem KF {H:Heap} {m:Nat} {es:List (AV × AV)} (hg:H.get m=.map es) (hk:∀ x ∈ es,∃ k,x.1=.str k) (s:Nm):QC NC.P H 176 (.map m) (.str s) true=some (match lkS s es with
 | some v=>.tup [v,.bool true]
 | none=>.tup [.agg [.str [],i64 0,.nilf,.nilf],.bool false])∧QC NC.P H 176 (.map m) (.str s) false=some (match lkS s es with
 | some v=>v
 | none=>.agg [.str [],i64 0,.nilf,.nilf]):=by
 have hl:=A8 s es 0 hk;have hz:ZJ NC.P 175=some (.agg [.str [],i64 0,.nilf,.nilf]):=by kernel_rfl
 have hm:Vu H (.map m)=some es:=by unfold Vu;simp only [hg]
 unfold QC;rw [CL];simp only [keyS,if_true,hz,hm];cases hv:lkS s es with
 | none =>
   rw [hl.1 hv];exact ⟨rfl,rfl⟩
 | some v =>
   obtain ⟨j,k,e⟩:=hl.2 v hv;rw [e];exact ⟨rfl,rfl⟩
end Go.Sim

namespace Go.Sim
open Go Go.Proofs
open Go.Sim.Pos (Nm Trk Flt Trn Pos Mch Reg Ev)
set_option maxRecDepth 100000
set_option maxHeartbeats 4000000
abbrev Q5 (f:FuncId):Prop:=∀ {P:PF} (_hP:P f=none) {lo:Nat} {args:List AV} {H:Heap} {K:AV→Heap→Prop},VO (Z8 (NC.withPrims P) (R (NC.withPrims P)) lo f args H) K=AO (R (NC.withPrims P) (.call H.n f args H)) fun o=>K o.val o.s.H
theorem Qj {f:FuncId} (h1:NC.prim f=none:=by kernel_rfl) (h2:NC.hprim f=none:=by kernel_rfl) (h3:NC.twice f=false:=by kernel_rfl) (h4:NC.mode f=.fresh:=by kernel_rfl):Q5 f:=by
 intro P hP lo args H K;refine Z0i rfl ?_ h2 h3 h4;show (match NC.prim f with | some p=>some p | none=>P f)=none
 rw [h1];exact hP
theorem Xk:Q5 77:=Qj
theorem en171:Q5 171:=Qj
theorem en173:Q5 173:=Qj
section
variable {P:PF} {lo:Nat} {H:Heap}
theorem Z6x (g:FuncId):R (NC.withPrims P) (.call lo 171 [.fn g [] []] H)=some (.ofVal (.fn 273 [] [.ptr H.n 0]) (H.push (.cells [.fn g [] []] 272))):=by
 obtain ⟨v,H',h1,rfl,rfl⟩:=Za (C:=NC.withPrims P) (f:=171) (lo:=lo) (args:=[.fn g [] []]) (H:=H) (fn:=Tryz.f171) (Q:=fun v H'=>v=.fn 273 [] [.ptr H.n 0]∧H'=H.push (.cells [.fn g [] []] 272)) (by kernel_rfl) Tryz.func171 rfl rfl (by
  simp (maxDischargeDepth:=12) only [go_sem,reduceCtorEq])
 exact h1
theorem Z6y (g:FuncId):R (NC.withPrims P) (.call lo 173 [.fn g [] []] H)=some (.ofVal (.fn 274 [] [.ptr H.n 0]) (H.push (.cells [.fn g [] []] 274))):=by
 obtain ⟨v,H',h1,rfl,rfl⟩:=Za (C:=NC.withPrims P) (f:=173) (lo:=lo) (args:=[.fn g [] []]) (H:=H) (fn:=Tryz.f173) (Q:=fun v H'=>v=.fn 274 [] [.ptr H.n 0]∧H'=H.push (.cells [.fn g [] []] 274)) (by kernel_rfl) Tryz.func173 rfl rfl (by
  simp (maxDischargeDepth:=12) only [go_sem,reduceCtorEq])
 exact h1
end
def Ji (n:Nat):List (AV × AV):=[
 (.str Pos.XR,.agg [.str [84],i64 2,.fn 154 [] [],.fn 155 [] []]),
 (.str Pos.XI,.agg [.str [70,116],i64 4,.fn 156 [] [],.fn 158 [] []]),
 (.str Pos.Xg,.agg [.str [102],i64 1,.fn 159 [] [],.fn 160 [] []]),
 (.str Pos.X6,.agg [.str [102,112],i64 1,.fn 161 [] [],.fn 162 [] []]),
 (.str Pos.Yo,.agg [.str [82,116],i64 2,.fn 163 [] [],.fn 164 [] []]),
 (.str Pos.YW,.agg [.str [114],i64 1,.fn 165 [] [],.fn 166 [] []]),
 (.str Pos.Xr,.agg [.str [80,116],i64 3,.fn 169 [] [],.fn 170 [] []]),
 (.str Pos.YA,.agg [.str [112],i64 1,.fn 273 [] [.ptr (n+1) 0],.fn 274 [] [.ptr (n+2) 0]]),
 (.str Pos.YB,.agg [.str [112],i64 1,.fn 273 [] [.ptr (n+3) 0],.fn 274 [] [.ptr (n+4) 0]]),
 (.str Pos.kIn,.agg [.str [77,112],i64 1,.fn 273 [] [.ptr (n+5) 0],.fn 178 [] []]),
 (.str Pos.YC,.agg [.str [109],i64 1,.fn 165 [] [],.fn 179 [] []]),
 (.str Pos.YD,.agg [.str [112],i64 2,.fn 273 [] [.ptr (n+6) 0],.fn 274 [] [.ptr (n+7) 0]]),
 (.str Pos.YE,.agg [.str [112],i64 2,.fn 273 [] [.ptr (n+8) 0],.fn 274 [] [.ptr (n+9) 0]]),
 (.str Pos.YF,.agg [.str [112],i64 1,.fn 273 [] [.ptr (n+10) 0],.fn 274 [] [.ptr (n+11) 0]]),
 (.str Pos.YG,.agg [.str [112],i64 2,.fn 273 [] [.ptr (n+12) 0],.fn 274 [] [.ptr (n+13) 0]]),
 (.str Pos.Y7,.agg [.str [112],i64 1,.fn 273 [] [.ptr (n+14) 0],.fn 274 [] [.ptr (n+15) 0]]),
 (.str Pos.YH,.agg [.str [112],i64 2,.fn 192 [] [],.fn 274 [] [.ptr (n+16) 0]]),
 (.str Pos.ZN,.agg [.str [],i64 0,.fn 165 [] [],.fn 194 [] []])]
def boxM (j:Nat):ABlk:=match j with
 | 1=>.cells [.fn 172 [] []] 272
 | 2=>.cells [.fn 174 [] []] 274
 | 3=>.cells [.fn 175 [] []] 272
 | 4=>.cells [.fn 176 [] []] 274
 | 5=>.cells [.fn 177 [] []] 272
 | 6=>.cells [.fn 182 [] []] 272
 | 7=>.cells [.fn 183 [] []] 274
 | 8=>.cells [.fn 184 [] []] 272
 | 9=>.cells [.fn 185 [] []] 274
 | 10=>.cells [.fn 186 [] []] 272
 | 11=>.cells [.fn 187 [] []] 274
 | 12=>.cells [.fn 188 [] []] 272
 | 13=>.cells [.fn 189 [] []] 274
 | 14=>.cells [.fn 190 [] []] 272
 | 15=>.cells [.fn 191 [] []] 274
 | 16=>.cells [.fn 193 [] []] 274
 | _=>.dead
structure FormsAt (n:Nat) (H:Heap):Prop where
 map:H.get n=.map (Ji n)
 box:∀ j,1≤j→j≤16→H.get (n+j)=boxM j
theorem Ve {P:PF} (h1:P 171=none) (h2:P 173=none) (lo:Nat) (H:Heap) (hlo:lo≤H.n):∃ H',R (NC.withPrims P) (.call lo 77 [] H)=some (.ofVal (.map H.n) H')∧H'.n=H.n+17∧(∀ i,i < H.n→H'.get i=H.get i)∧FormsAt H.n H':=by
 obtain ⟨v,H',h1,rfl,h2⟩:=Za (C:=NC.withPrims P) (f:=77) (lo:=lo) (args:=[]) (H:=H) (fn:=Tryz.f77) (Q:=fun v H'=>v=.map H.n∧H'.n=H.n+17∧(∀ i,i < H.n→H'.get i=H.get i)∧FormsAt H.n H') (by kernel_rfl) Tryz.func77 rfl rfl (by
  have hl:=eq_true hlo;simp (maxDischargeDepth:=12) only [go_sem,reduceEqDiff,reduceAdd,reduceLeDiff,reduceCtorEq,en171 h1,en173 h2,Z6x,Z6y,hl,Vd,Yu,List.cons.injEq,false_and,and_false,decide_false,cond_false,Nat.add_assoc,reduceAdd,Dp];refine ⟨fun i hi => ?_, ?_,fun j h1 h2 => ?_⟩
  · have e0:(i=H.n)=False:=by simp only [eq_iff_iff,iff_false];omega
    have e1:∀ k,(i=H.n+k)=False:=fun k=>by simp only [eq_iff_iff,iff_false];omega
    simp only [e0,e1,if_false]
  · simp only [Heap.get_set,Heap.get_push,Dm,Do,Nat.add_assoc,reduceAdd,Dp,reduceEqDiff,if_true,if_false];rfl
  · have hj:j=1∨j=2∨j=3∨j=4∨j=5∨j=6∨j=7∨j=8∨j=9∨j=10∨j=11∨j=12∨j=13∨j=14∨j=15∨j=16:=by omega
    rcases hj with rfl | rfl | rfl | rfl | rfl | rfl | rfl | rfl | rfl | rfl | rfl | rfl | rfl | rfl | rfl | rfl
    all_goals
     simp only [Heap.get_set,Heap.get_push,Dm,Do,Nat.add_assoc,reduceAdd,EP,Nat.add_left_cancel_iff,reduceEqDiff,if_true,if_false];rfl)
 exact ⟨H',h1,h2⟩
theorem Z6z (k:Nm) (n:Nat):(Pos.YO k=none∧lkS k (Ji n)=none) ∨ ∃ a b nm f1 l1 f2 l2,Pos.YO k=some (a,b)∧lkS k (Ji n)=some (.agg [.str nm,i64 (b:Nat),.fn f1 [] l1,.fn f2 [] l2])∧nm.length=a:=by
 by_cases h0:k=Pos.XR
 · subst h0;exact .inr ⟨_,_,_,_,_,_,_,rfl,rfl,rfl⟩
 by_cases h1:k=Pos.XI
 · subst h1;exact .inr ⟨_,_,_,_,_,_,_,rfl,rfl,rfl⟩
 by_cases h2:k=Pos.Xg
 · subst h2;exact .inr ⟨_,_,_,_,_,_,_,rfl,rfl,rfl⟩
 by_cases h3:k=Pos.X6
 · subst h3;exact .inr ⟨_,_,_,_,_,_,_,rfl,rfl,rfl⟩
 by_cases h4:k=Pos.Yo
 · subst h4;exact .inr ⟨_,_,_,_,_,_,_,rfl,rfl,rfl⟩
 by_cases h5:k=Pos.YW
 · subst h5;exact .inr ⟨_,_,_,_,_,_,_,rfl,rfl,rfl⟩
 by_cases h6:k=Pos.Xr
 · subst h6;exact .inr ⟨_,_,_,_,_,_,_,rfl,rfl,rfl⟩
 by_cases h7:k=Pos.YA
 · subst h7;exact .inr ⟨_,_,_,_,_,_,_,rfl,rfl,rfl⟩
 by_cases h8:k=Pos.YB
 · subst h8;exact .inr ⟨_,_,_,_,_,_,_,rfl,rfl,rfl⟩
 by_cases h9:k=Pos.kIn
 · subst h9;exact .inr ⟨_,_,_,_,_,_,_,rfl,rfl,rfl⟩
 by_cases h10:k=Pos.YC
 · subst h10;exact .inr ⟨_,_,_,_,_,_,_,rfl,rfl,rfl⟩
 by_cases h11:k=Pos.YD
 · subst h11;exact .inr ⟨_,_,_,_,_,_,_,rfl,rfl,rfl⟩
 by_cases h12:k=Pos.YE
 · subst h12;exact .inr ⟨_,_,_,_,_,_,_,rfl,rfl,rfl⟩
 by_cases h13:k=Pos.YF
 · subst h13;exact .inr ⟨_,_,_,_,_,_,_,rfl,rfl,rfl⟩
 by_cases h14:k=Pos.YG
 · subst h14;exact .inr ⟨_,_,_,_,_,_,_,rfl,rfl,rfl⟩
 by_cases h15:k=Pos.Y7
 · subst h15;exact .inr ⟨_,_,_,_,_,_,_,rfl,rfl,rfl⟩
 by_cases h16:k=Pos.YH
 · subst h16;exact .inr ⟨_,_,_,_,_,_,_,rfl,rfl,rfl⟩
 by_cases h17:k=Pos.ZN
 · subst h17;exact .inr ⟨_,_,_,_,_,_,_,rfl,rfl,rfl⟩
 refine .inl ⟨?_, ?_⟩
 · unfold Pos.YO;simp only [h0,h1,h2,h3,h4,h5,h6,h7,h8,h9,h10,h11,h12,h13,h14,h15,h16,h17,if_false]
 · unfold Ji;simp only [lkS,h0,h1,h2,h3,h4,h5,h6,h7,h8,h9,h10,h11,h12,h13,h14,h15,h16,h17,if_false]
theorem KG (n:Nat):∀ x ∈ Ji n,∃ k,x.1=.str k:=by
 intro x hx;unfold Ji at hx;simp only [List.mem_cons,List.not_mem_nil,or_false] at hx;rcases hx with h | h | h | h | h | h | h | h | h | h | h | h | h | h | h | h | h | h<;>subst h<;>exact ⟨_,rfl⟩
theorem Z6A (l:List Nm):Z9 (l.map Qh)=if l.all Z7=false then 8 else 0:=by
 induction l with
 | nil=>rfl
 | cons a r ih =>
   rw [List.map_cons,List.all_cons];show (if Qh a=0 then Z9 (r.map Qh) else Qh a)=_
   rw [ih];cases h:Z7 a<;>simp [Qh,Z5,h]
theorem Z6B (l:List Int):Z9 (l.map Qi)=if l.any (fun v=>decide (v < 0) || decide (999999999 < v))=true then 3 else 0:=by
 induction l with
 | nil=>rfl
 | cons a r ih =>
   rw [List.map_cons,List.any_cons];show (if Qi a=0 then Z9 (r.map Qi) else Qi a)=_
   rw [ih];cases h:(decide (a < 0) || decide (999999999 < a))<;>simp [Qi,ZS,Z5,h]
def chkA (e:Ev):Int:=Z9 [ZS e.num 1 1000,Z5 (Pos.YO e.kind).isNone 13,match Pos.YO e.kind with
 | none=>0
 | some (a,b)=>Z5 (decide (e.names.length ≠ a) || decide (e.vals.length ≠ b)) 2]
def chkB (e:Ev):Int:=Z9 [Z9 (e.names.map Qh),Z9 (e.vals.map Qi),Z5 (!decide (e.text=[])) 1]
theorem Z6C (e:Ev):Pos.Zp Z7 e=if chkA e=0 then chkB e else chkA e:=by
 unfold Pos.Zp chkA chkB;rw [Z6A,Z6B];by_cases h1:e.num < 1∨1000 < e.num
 · rw [if_pos h1];have:ZS e.num 1 1000=3:=by
    unfold ZS Z5;rcases h1 with h | h<;>simp [h]
   simp [this,Z9]
 rw [if_neg h1];have h1:ZS e.num 1 1000=0:=by
  unfold ZS Z5;simp;omega
 rw [h1];cases hf:Pos.YO e.kind with
 | none=>simp [Z9,Z5]
 | some x =>
   obtain ⟨a,b⟩:=x;simp only [Option.isNone_some];by_cases h2:e.names.length ≠ a∨e.vals.length ≠ b
   · rw [if_pos h2];have:(decide (e.names.length ≠ a) || decide (e.vals.length ≠ b))=true:=by
      rw [Bool.or_eq_true,decide_eq_true_eq,decide_eq_true_eq];exact h2
     rw [this];simp [Z9,Z5]
   · rw [if_neg h2];have:(decide (e.names.length ≠ a) || decide (e.vals.length ≠ b))=false:=by simpa using h2
     simp only [Z9,Z5,this];by_cases h3:e.names.all Z7=false<;>by_cases h4:(e.vals.any fun v=>decide (v < 0) || decide (999999999 < v))=true<;>by_cases h5:e.text=[]<;>simp [h3,h4,h5]
noncomputable def JG:PF:=Zd 132 p132 (Zd 129 p129 (Zd 87 p87 (Zd 88 p88 (Zd 125 KE (fun _=>none)))))
theorem Z6D:PrimsOk NC JG:=ZX (ZX (Pa (Pa (Pa (ZA) CV) Vc) CW) (by kernel_rfl) (by kernel_rfl) Z6p) (by kernel_rfl) (by kernel_rfl) Z6s
theorem Z6E:En JG 125 KE:=Ze (by rfl) (by kernel_rfl)
theorem Z6F:En JG 88 p88:=Ze (by rfl) (by kernel_rfl)
theorem Z6G:En JG 87 p87:=Ze (by rfl) (by kernel_rfl)
theorem Z6H:En JG 129 p129:=Ze (by rfl) (by kernel_rfl)
theorem Z6I:En JG 132 p132:=Ze (by rfl) (by kernel_rfl)
attribute [go_sem ↓] Z6E Z6F Z6G Z6H Z6I
theorem c57 (e:Ev) (hp:e.names.length≤Z1∧e.vals.length≤Z1):∀ lo H,Zc NC lo 57 [.agg e.row] H (i64 (Pos.Zp Z7 e)) H:=by
 refine Cn Z6D Tryz.func57 rfl rfl ?_;obtain ⟨hn,hv⟩:=hp;obtain ⟨num,kind,names,vals,text⟩:=e;obtain ⟨H',hr,hn',hk,hF⟩:=Ve (P:=JG) (by rfl) (by rfl) 1 (Heap.empty.push (.cells (Pos.Ev.row ⟨num,kind,names,vals,text⟩) 53)) (Nat.le_refl _);have hlk:=(KF hF.map (KG _) kind).1;have hb:H'.get 0=.cells (Pos.Ev.row ⟨num,kind,names,vals,text⟩) 53:=by rw [hk 0 (by show 0 < 1;decide),Heap.get_push];exact if_pos rfl
 have hn1:(Heap.empty.push (.cells (Pos.Ev.row ⟨num,kind,names,vals,text⟩) 53)).n=1:=rfl;rw [hn1] at hr hn' hlk;have hn2:H'.n=18:=hn';simp only [Pos.Ev.row] at hr hb;simp only at hn hv;have hlen:∀ a b:Nat,((a:Int)=(b:Int))=(a=b):=fun a b=>by simp only [eq_iff_iff];omega
 have hspec:=Z6C ⟨num,kind,names,vals,text⟩;unfold chkA chkB at hspec;simp only at hspec;rcases Z6z kind 1 with ⟨hf,hl⟩ | ⟨a,b,nm,f1,l1,f2,l2,hf,hl,rfl⟩
 · rw [hl] at hlk;simp only [hf,Option.isNone_none] at hspec;rw [hspec];have hz:Z9 [ZS num 1 1000,Z5 true 13,0] ≠ 0:=by
    unfold Z9;split
    · decide
    · assumption
   have hz':∀ x,Z9 [ZS num 1 1000,Z5 true 13,x]=Z9 [ZS num 1 1000,Z5 true 13,0]:=fun x=>by
    unfold Z9;split
    · rfl
    · rfl
   rw [if_neg hz];rcases Classical.propComplete ((names.length:Int)=0) with c1 | c1<;>rcases Classical.propComplete ((vals.length:Int)=0) with c2 | c2
   all_goals
    simp (maxDischargeDepth:=12) only [go_sem,reduceEqDiff,reduceAdd,reduceMul,reduceSub,reduceLeDiff,reduceLT,reduceCtorEq,Xk (P:=JG) rfl,Pos.Ev.row,hr,hb,hlk,hn2,Zt,Y4,hz',hz,c1,c2]
 · rw [hl] at hlk;simp only [hf,Option.isNone_some] at hspec;obtain ⟨G,hG⟩:∃ G,Z9 [ZS num 1 1000,Z5 false 13,Z5 (decide (names.length ≠ nm.length) || decide (vals.length ≠ b)) 2]=G:=⟨_,rfl⟩;rw [hG] at hspec;rcases Classical.propComplete (names.length=nm.length) with c1 | c1<;>rcases Classical.propComplete (vals.length=b) with c2 | c2
   all_goals
    simp only [c1,c2,ne_eq,not_true_eq_false,not_false_eq_true,decide_true,decide_false,Bool.or_true,Bool.or_false] at hG;by_cases h0:G=0
    · rw [if_pos h0] at hspec;rw [hspec];subst h0;simp (maxDischargeDepth:=12) only [go_sem,reduceEqDiff,reduceAdd,reduceMul,reduceSub,reduceLeDiff,reduceLT,reduceCtorEq,Xk (P:=JG) rfl,Pos.Ev.row,hr,hb,hlk,hn2,Zt,Y4,List.length_map,hlen,hn,hv,hG,c1,c2,Yu]
    · rw [if_neg h0] at hspec;rw [hspec];simp (maxDischargeDepth:=12) only [go_sem,reduceEqDiff,reduceAdd,reduceMul,reduceSub,reduceLeDiff,reduceLT,reduceCtorEq,Xk (P:=JG) rfl,Pos.Ev.row,hr,hb,hlk,hn2,Zt,Y4,hlen,hG,h0,c1,c2]
noncomputable def p57:List AV→Option AV:=Zy (α:=(Ev)) (fun x=>[.agg x.row]) (fun x=>x.names.length≤Z1∧x.vals.length≤Z1) (fun x=>i64 (Pos.Zp Z7 x))
theorem A9:Pok p57 57:=by
 intro args v h;obtain ⟨x,rfl,hp,rfl⟩:=ZD h;exact c57 x hp
theorem UW (e:Ev) (hp:e.names.length≤Z1∧e.vals.length≤Z1):p57 [.agg e.row]=some (.int .i64 (Pos.Zp Z7 e)):=ZE (by intro x y h;(simp only [List.cons.injEq,AV.agg.injEq,Pos.Ev.row_inj,and_true] at h;first | simpa only [Prod.ext_iff] using h | simpa only [Prod.ext_iff,and_assoc] using h)) e hp
attribute [go_sem] UW
end Go.Sim

namespace Go.Sim
open Go Go.Proofs
open Go.Sim.Pos (Nm Trk Flt Trn Pos Mch Reg Ev Len ZW Yd Y8)
set_option maxRecDepth 100000
set_option maxHeartbeats 4000000
section
variable {C:Cfg} {rec:Rec} {fid lo:Nat} {T:TT AV} {H:Heap} {K:AV→Heap→Prop} {d:Option Tmp} {t:TypeId} {p:String} {af:Array Edge} {gd:Option (Nat × Bool)}
theorem Z6J (t':TypeId) (l c:Operand) :
 VO (aop C rec fid lo ⟨d,.makeSlice t' l c,t,p,af,gd⟩ T H) K=AO (Z4 C T l) fun x=>AO (Z4 C T c) fun y=>VO (J1 C.P H t' x y) K:=by
 simp only [aop];cases Z4 C T l with
 | none=>rfl
 | some x=>cases Z4 C T c<;>rfl
theorem Z6K (a b:Operand) (ts tx:TypeId) :
 VO (aop C rec fid lo ⟨d,.call ⟨.builtin .copy,#[a,b],#[ts,tx]⟩,t,p,af,gd⟩ T H) K=AO (Z4 C T a) fun x=>AO (Z4 C T b) fun y=>VO (Ju C.P lo H ts x y) K:=by
 simp only [aop,X3,ZZ];cases Z4 C T a with
 | none=>rfl
 | some x=>cases Z4 C T b<;>rfl
end
attribute [go_sem ↓] Z6J Z6K
theorem Aa {H:Heap} {t e:TypeId} {z:AV} {sz b N:Nat} (hel:Yy NC.P t=some e) (hsz:Zh NC.P e=some sz) (hby:XL NC.P e=some b) (hz:ZJ NC.P e=some z) (hzl:z.cells.length=sz) (hb:b≤131072) (h0:0 < sz) (h:N≤Z1) :
 J1 NC.P H t (.int .i64 (N:Nat)) (.int .i64 (N:Nat))=some (.rs H.n 0 N sz (some N),H.push (.cells (List.replicate N z.cells).flatten e)):=by
 have h1:b * N≤140737488355328:=Nat.le_trans (Nat.mul_le_mul hb h) (by unfold Z1;decide);unfold J1;have e1:∀ x:Nat,(AV.int .i64 (x:Int))=AV.int .i64 (.ofNat x):=fun _=>rfl
 simp only [hel,hsz,hby,hz,e1,Nat.le_refl,h1,h,h0,hzl,decide_true,Bool.and_self,if_true]
theorem Z6L {cs vs:List AV} (h:cs.length=vs.length):over cs 0 vs=vs:=by
 unfold over;rw [List.take_zero,List.nil_append,Nat.zero_add,List.drop_of_length_le (by omega),List.append_nil]
theorem Z6M {sz:Nat} {rows:List (List AV)} (h:Len sz rows):rows.all (fun r=>decide (r.length=sz))=true:=by
 rw [List.all_eq_true];intro r hr;simp [h r hr]
theorem IA {lo:Nat} {H:Heap} {t e e':TypeId} {sz id N:Nat} {cap:Option Nat} {tok:Tok} {rows:List (List AV)} {cs:List AV} (hel:Yy NC.P t=some e) (hsz:Zh NC.P e=some sz) (hg:H.get id=.cells cs e') (hc:cs.length=N * sz) (hN:rows.length=N) (hr:Len sz rows) (ho:rows.flatten.all AV.one=true) (hlo:lo≤id) :
 Ju NC.P lo H t (.rs id 0 N sz cap) (.ps tok rows)=some (.int .i64 (N:Nat),H.set id (.cells rows.flatten e')):=by
 have hf:=ZW hr;have hle:0+rows.flatten.length≤cs.length:=by rw [hf,hN,hc];omega
 have hov:=Z6L (cs:=cs) (vs:=rows.flatten) (by rw [hf,hN,hc]);unfold Ju;simp only [hel,hsz,J0,Z6M hr,if_true,hlo,decide_true,hN,Nat.le_refl,ho,Bool.and_self,hg,Qn,hle,hov]
theorem IB {sz:Nat}:∀ {rows:List (List AV)} (cs:List AV),Len sz rows→Qq sz rows.length (rows.flatten++cs)=some rows
 | [],_,_=>rfl
 | r::l,cs,h=>by
   have hr:=h r (by simp);have ih:=IB (rows:=l) cs fun x hx=>h x (by simp [hx])
   rw [List.length_cons,List.flatten_cons,List.append_assoc];unfold Qq;rw [if_pos (by rw [List.length_append];omega),List.drop_left' hr,ih,List.take_left' hr]
theorem IC {lo:Nat} {H:Heap} {id sz:Nat} {cap:Option Nat} {rows:List (List AV)} {cs:List AV} {b:ABlk} (hb:b=H.get id) (hc:XM b=some (rows.flatten++cs)) (hr:Len sz rows) (hp:rows.all XV=true) (hs:rows.map (List.map AV.strip0)=rows) (hlo:lo≤id) :
 QM lo H (.rs id 0 rows.length sz cap)=some (.ps .unk rows,H.set id .dead):=by
 have hf:=ZW hr;have hrd:YT H (.ptr id 0) (rows.length * sz)=some rows.flatten:=by
  unfold YT;simp only;rw [← hb,hc];unfold Yp;simp only;rw [if_pos (by rw [List.length_append,hf];omega),List.drop_zero,← hf,List.take_left' rfl]
 have hch:Qq sz rows.length rows.flatten=some rows:=by
  have:=IB (rows:=rows) [] hr
  rwa [List.append_nil] at this
 unfold QM;simp only [hlo,decide_true,if_true,hrd,hch,hp,hs]
theorem ID (l:List Nm):Len 1 (Z0 l):=fun r hr=>by
 obtain ⟨x,_,rfl⟩:=List.mem_map.1 hr;rfl
theorem IE (l:List Int):Len 1 (Z3 l):=fun r hr=>by
 obtain ⟨x,_,rfl⟩:=List.mem_map.1 hr;rfl
theorem Z6N (l:List Nm):(Z0 l).all XV=true:=by
 rw [List.all_eq_true];intro r hr;obtain ⟨x,_,rfl⟩:=List.mem_map.1 hr;rfl
theorem Z6O (l:List Int):(Z3 l).all XV=true:=by
 rw [List.all_eq_true];intro r hr;obtain ⟨x,_,rfl⟩:=List.mem_map.1 hr;rfl
theorem Z6P (l:List Nm):(Z0 l).map (List.map AV.strip0)=Z0 l:=by
 unfold Z0;rw [List.map_map];rfl
theorem Z6Q (l:List Int):(Z3 l).map (List.map AV.strip0)=Z3 l:=by
 unfold Z3;rw [List.map_map];rfl
theorem Z6R (l:List Nm):(Z0 l).flatten.all AV.one=true:=by
 rw [List.all_eq_true];intro x hx;obtain ⟨r,hr,hx⟩:=List.mem_flatten.1 hx;obtain ⟨y,_,rfl⟩:=List.mem_map.1 hr;rw [List.mem_singleton.1 hx];rfl
theorem Z6S (l:List Int):(Z3 l).flatten.all AV.one=true:=by
 rw [List.all_eq_true];intro x hx;obtain ⟨r,hr,hx⟩:=List.mem_flatten.1 hx;obtain ⟨y,_,rfl⟩:=List.mem_map.1 hr;rw [List.mem_singleton.1 hx];rfl
end Go.Sim

namespace Go.Sim
open Go Go.Proofs
open Go.Sim.Pos (Nm Trk Flt Trn Pos Mch Reg Ev)
set_option maxRecDepth 100000
set_option maxHeartbeats 4000000
theorem mkS {H:Heap} {N:Nat} (h:N≤Z1):J1 NC.P H 50 (.int .i64 (N:Nat)) (.int .i64 (N:Nat))=some (.rs H.n 0 N 1 (some N),H.push (.cells (List.replicate N [AV.str []]).flatten 9)) :=
 Aa (b:=16) (z:=.str []) (by kernel_rfl) (by kernel_rfl) (by kernel_rfl) (by kernel_rfl) rfl (by decide) (by decide) h
theorem mkI {H:Heap} {N:Nat} (h:N≤Z1):J1 NC.P H 51 (.int .i64 (N:Nat)) (.int .i64 (N:Nat))=some (.rs H.n 0 N 1 (some N),H.push (.cells (List.replicate N [AV.int .i64 0]).flatten 3)) :=
 Aa (b:=8) (z:=.int .i64 0) (by kernel_rfl) (by kernel_rfl) (by kernel_rfl) (by kernel_rfl) rfl (by decide) (by decide) h
theorem rep_len (n:Nat) (v:AV):(List.replicate n [v]).flatten.length=n * 1:=by simp
theorem cpS {lo:Nat} {H:Heap} {id:Nat} {l:List Nm} {cap:Option Nat} (hg:H.get id=.cells (List.replicate l.length [AV.str []]).flatten 9) (hlo:lo≤id):Ju NC.P lo H 50 (.rs id 0 l.length 1 cap) (.ps .unk (Z0 l))=some (.int .i64 (l.length:Nat),H.set id (.cells (Z0 l).flatten 9)) :=
 IA (e:=9) (by kernel_rfl) (by kernel_rfl) hg (rep_len _ _) (Zt l) (ID l) (Z6R l) hlo
theorem cpI {lo:Nat} {H:Heap} {id:Nat} {l:List Int} {cap:Option Nat} (hg:H.get id=.cells (List.replicate l.length [AV.int .i64 0]).flatten 3) (hlo:lo≤id):Ju NC.P lo H 51 (.rs id 0 l.length 1 cap) (.ps .unk (Z3 l))=some (.int .i64 (l.length:Nat),H.set id (.cells (Z3 l).flatten 3)) :=
 IA (e:=3) (by kernel_rfl) (by kernel_rfl) hg (rep_len _ _) (Y4 l) (IE l) (Z6S l) hlo
theorem Z6T (lo:Nat) (H:Heap) (k:IntKind) (n:Int):QM lo H (.int k n)=some (.int k n,H):=rfl
theorem Z6U (lo:Nat) (H:Heap) (s:List Nat):QM lo H (.str s)=some (.str s,H):=rfl
theorem frzS {lo id:Nat} {H:Heap} {cap:Option Nat} {l:List Nm} (hc:XM (H.get id)=some (Z0 l).flatten) (hlo:lo≤id):QM lo H (.rs id 0 l.length 1 cap)=some (.ps .unk (Z0 l),H.set id .dead):=by
 have:=IC (lo:=lo) (H:=H) (id:=id) (cap:=cap) (cs:=[]) rfl (by rw [List.append_nil];exact hc) (ID l) (Z6N l) (Z6P l) hlo
 rwa [Zt] at this
theorem frzI {lo id:Nat} {H:Heap} {cap:Option Nat} {l:List Int} (hc:XM (H.get id)=some (Z3 l).flatten) (hlo:lo≤id):QM lo H (.rs id 0 l.length 1 cap)=some (.ps .unk (Z3 l),H.set id .dead):=by
 have:=IC (lo:=lo) (H:=H) (id:=id) (cap:=cap) (cs:=[]) rfl (by rw [List.append_nil];exact hc) (IE l) (Z6O l) (Z6Q l) hlo
 rwa [Y4] at this
noncomputable def PPF76:PF:=fun _=>none
theorem Z6V:PrimsOk NC PPF76:=ZA
theorem c76 (e:Ev) (hp:e.names.length≤Z1∧e.vals.length≤Z1):∀ lo H,Zc NC lo 76 [.agg e.row] H (.agg e.row) H:=by
 refine HQ JX Z6V (fn:=Tryz.f76) (by kernel_rfl) Tryz.func76 rfl rfl (by rfl) (by first | rfl | (split<;>first | rfl | (split<;>rfl))) ?_;obtain ⟨hn,hv⟩:=hp;obtain ⟨num,kind,names,vals,text⟩:=e;simp only at hn hv;have m1:=fun (H:Heap)=>mkS (H:=H) hn
 have m2:=fun (H:Heap)=>mkI (H:=H) hv
 have c1:∀ {H:Heap},H.get 2=.cells (List.replicate names.length [AV.str []]).flatten 9→Ju NC.P 0 H 50 (.rs 2 0 names.length 1 (some names.length)) (.ps .unk (Z0 names))=some (.int .i64 (names.length:Nat),H.set 2 (.cells (Z0 names).flatten 9)):=fun hg=>cpS hg (Nat.zero_le _)
 have c2:∀ {H:Heap},H.get 3=.cells (List.replicate vals.length [AV.int .i64 0]).flatten 3→Ju NC.P 0 H 51 (.rs 3 0 vals.length 1 (some vals.length)) (.ps .unk (Z3 vals))=some (.int .i64 (vals.length:Nat),H.set 3 (.cells (Z3 vals).flatten 3)):=fun hg=>cpI hg (Nat.zero_le _)
 simp (maxDischargeDepth:=12) only [go_sem,reduceEqDiff,reduceAdd,reduceSub,reduceLeDiff,reduceCtorEq,Pos.Ev.row,Zt,Y4,m1,m2,c1,c2];simp (maxDischargeDepth:=12) only [go_sem,reduceAdd,Ku,VL,VK,Z6T,Z6U,frzS,frzI];exact ⟨_,_,rfl,rfl⟩
noncomputable def p76:List AV→Option AV:=Zy (α:=(Ev)) (fun x=>[.agg x.row]) (fun x=>x.names.length≤Z1∧x.vals.length≤Z1) (fun x=>.agg x.row)
theorem pok76:Pok p76 76:=by
 intro args v h;obtain ⟨x,rfl,hp,rfl⟩:=ZD h;exact c76 x hp
theorem UX (e:Ev) (hp:e.names.length≤Z1∧e.vals.length≤Z1):p76 [.agg e.row]=some (.agg e.row):=ZE (by intro x y h;(simp only [List.cons.injEq,AV.agg.injEq,Pos.Ev.row_inj,and_true] at h;first | simpa only [Prod.ext_iff] using h | simpa only [Prod.ext_iff,and_assoc] using h)) e hp
attribute [go_sem] UX
def Pos.spanI (a b:Int):Int:=Z5 (!decide (a < b) || decide (100000000 < b)) 14
noncomputable def IF:PF:=Zd 88 p88 (fun _=>none)
theorem Z6W:PrimsOk NC IF:=Pa (ZA) Vc
theorem Z6X:En IF 88 p88:=Ze (by rfl) (by kernel_rfl)
attribute [go_sem ↓] Z6X
theorem c157 (e:Ev) (hp:3≤e.vals.length):∀ lo H,Zc NC lo 157 [.agg e.row] H (.tup [.agg [i64 (e.vals.getD 1 0),i64 (e.vals.getD 2 0)],i64 (Pos.spanI (e.vals.getD 1 0) (e.vals.getD 2 0))]) H:=by
 refine Cn Z6W Tryz.func157 rfl rfl ?_;obtain ⟨num,kind,names,vals,text⟩:=e
 match vals,hp with
 | tk::a::b::r,_ =>
   have e1:(Z3 (tk::a::b::r))[1]? = some [.int .i64 a]:=rfl;have e2:(Z3 (tk::a::b::r))[2]? = some [.int .i64 b]:=rfl;have e3:(1 < (Z3 (tk::a::b::r)).length)=True:=by simp [Z3]
   have e4:(2 < (Z3 (tk::a::b::r)).length)=True:=by simp [Z3]
   have e5:X2 (Z3 (tk::a::b::r)).length (.int .i64 2)=some 2:=by
    have:X2 (Z3 (tk::a::b::r)).length (.int .i64 2)=if 2 < (Z3 (tk::a::b::r)).length then some 2 else none:=rfl
    rw [this,if_pos (of_eq_true e4)]
   by_cases h1:a < b<;>by_cases h2:100000000 < b
   all_goals
    simp (maxDischargeDepth:=12) only [go_sem,reduceEqDiff,reduceAdd,reduceSub,reduceLeDiff,reduceCtorEq,Pos.Ev.row,e1,e2,e3,e5,h1,h2];simp [Pos.spanI,h1,h2]
noncomputable def p157:List AV→Option AV:=Zy (α:=(Ev)) (fun x=>[.agg x.row]) (fun x=>3≤x.vals.length) (fun x=>.tup [.agg [i64 (x.vals.getD 1 0),i64 (x.vals.getD 2 0)],i64 (Pos.spanI (x.vals.getD 1 0) (x.vals.getD 2 0))])
theorem Z6Y:Pok p157 157:=by
 intro args v h;obtain ⟨x,rfl,hp,rfl⟩:=ZD h;exact c157 x hp
theorem UY (e:Ev) (hp:3≤e.vals.length):p157 [.agg e.row]=some (.tup [.agg [.int .i64 (e.vals.getD 1 0),.int .i64 (e.vals.getD 2 0)],.int .i64 (Pos.spanI (e.vals.getD 1 0) (e.vals.getD 2 0))]):=ZE (by intro x y h;(simp only [List.cons.injEq,AV.agg.injEq,Pos.Ev.row_inj,and_true] at h;first | simpa only [Prod.ext_iff] using h | simpa only [Prod.ext_iff,and_assoc] using h)) e hp
attribute [go_sem] UY
end Go.Sim

namespace Go.Sim
open Go Go.Proofs Go.Shelf Go.RowKit
theorem IG (a b:UInt8):(a == b)=decide (a.toNat=b.toNat):=by
 rw [Bool.eq_iff_iff,beq_iff_eq,decide_eq_true_eq];exact UInt8.toNat_inj.symm
theorem Ab (c:UInt8):∀ l:List UInt8,Lib.indexByte l c=Q0 c.toNat (Xf l)
 | []=>rfl
 | b::l=>by
   have ih:=Ab c l;have hn:Xf (b::l)=b.toNat::Xf l:=rfl;unfold Lib.indexByte;rw [hn];unfold Q0;rw [ih,IG];by_cases h:b.toNat=c.toNat
   · simp [h]
   · by_cases h2:Q0 c.toNat (Xf l) = -1<;>simp [h,h2]
theorem IH (c:UInt8):∀ l:List UInt8,Lib.countByte l c=ZB c.toNat (Xf l)
 | []=>rfl
 | b::l=>by
   have ih:=IH c l;have hn:Xf (b::l)=b.toNat::Xf l:=rfl;rw [hn];unfold Lib.countByte at ih ⊢;unfold ZB;rw [List.count_cons,ih,IG];by_cases h:b.toNat=c.toNat<;>simp [h]<;>omega
theorem Ac {b:ByteArray} {c:Nat} (h:b.data.toList.map UInt8.toNat=[c]):∃ u:UInt8,b=⟨#[u]⟩∧u.toNat=c:=by
 obtain ⟨⟨l⟩⟩:=b
 match l,h with
 | [u],h=>exact ⟨u,rfl,by simpa using h⟩
def UZ:List AV→Option AV
 | [.str s,.str [c]]=>some (.int .i64 (Q0 c s))
 | _=>none
theorem Z6Z:Pok UZ 250:=by
 intro args v h lo H;unfold UZ at h;split at h
 · rename_i s c
   simp at h;subst h;refine ⟨⟨Tryz.f250,Tryz.func250,rfl,by kernel_rfl⟩,fun g w cargs hR ha => ?_⟩;obtain ⟨x,y,rfl,hx,hy⟩:=UH ha;cases hx with
   | str hx =>
   cases hy with
   | str hy =>
   obtain ⟨u,rfl,rfl⟩:=Ac hy;show CallsIn Fence.wide 0 Tryz.prog 250 _ w _;rw [callsIn_wide];refine (Tryz.strings_Index_one _ u w).mono ?_;rintro e w' ⟨rfl,rfl⟩;refine ZL.same hR ?_;rw [Ab];subst hx;exact .int _ _
 · cases h
theorem pe250 (s:List Nat) (c:Nat):UZ [.str s,.str [c]]=some (.int .i64 (Q0 c s)):=rfl
attribute [go_sem] pe250
def G2:List AV→Option AV
 | [.str s,.str [c]]=>some (.int .i64 (Q0 c s))
 | _=>none
theorem Z70:Pok G2 280:=by
 intro args v h lo H;unfold G2 at h;split at h
 · rename_i s c
   simp at h;subst h;refine ⟨⟨Tryz.f280,Tryz.func280,rfl,by kernel_rfl⟩,fun g w cargs hR ha => ?_⟩;obtain ⟨x,y,rfl,hx,hy⟩:=UH ha;cases hx with
   | str hx =>
   cases hy with
   | str hy =>
   obtain ⟨u,rfl,rfl⟩:=Ac hy;show CallsIn Fence.wide 0 Tryz.prog 280 _ w _;rw [callsIn_wide];refine (Tryz.stringslite_Index_one _ u w).mono ?_;rintro e w' ⟨rfl,rfl⟩;refine ZL.same hR ?_;rw [Ab];subst hx;exact .int _ _
 · cases h
theorem pe280 (s:List Nat) (c:Nat):G2 [.str s,.str [c]]=some (.int .i64 (Q0 c s)):=rfl
attribute [go_sem] pe280
def G3:List AV→Option AV
 | [.str s,.str [c]]=>some (.int .i64 (((ZB c s:Nat):Int)))
 | _=>none
theorem Z71:Pok G3 249:=by
 intro args v h lo H;unfold G3 at h;split at h
 · rename_i s c
   simp at h;subst h;refine ⟨⟨Tryz.f249,Tryz.func249,rfl,by kernel_rfl⟩,fun g w cargs hR ha => ?_⟩;obtain ⟨x,y,rfl,hx,hy⟩:=UH ha;cases hx with
   | str hx =>
   cases hy with
   | str hy =>
   obtain ⟨u,rfl,rfl⟩:=Ac hy;show CallsIn Fence.wide 0 Tryz.prog 249 _ w _;rw [callsIn_wide];refine (Tryz.strings_Count_one _ u w).mono ?_;rintro e w' ⟨rfl,rfl⟩;refine ZL.same hR ?_;rw [IH];subst hx;exact .int _ _
 · cases h
theorem pe249 (s:List Nat) (c:Nat):G3 [.str s,.str [c]]=some (.int .i64 (((ZB c s:Nat):Int))):=rfl
attribute [go_sem] pe249
end Go.Sim

namespace Go.Sim
open Go
variable {C:Cfg} {lo:Nat} {fid:FuncId} {rnd:Bool}
theorem Ae {b:Code} {Q:AExit→TT AV→Heap→List Nat→Prop} (I:Nat→TT AV→Heap→List Nat→Prop)
 (step:∀ k T H M,I k T H M→W C lo fid rnd b T H M fun e T H M=>next e (∃ m,m < k∧I m T H M) (Q e T H M)) :
 ∀ (n:Nat) (T:TT AV) (H:Heap) (M:List Nat),I n T H M→W C lo fid rnd (.loop b) T H M Q:=by
 intro n
 induction n using Nat.strongRecOn with
 | _ n ih =>
   intro T H M h0;rw [Dg];refine UB (step n T H M h0) fun e T H M h => ?_
   cases e with
   | nrm =>
     obtain ⟨m,hm,hI⟩:=h;exact ih m hm T H M hI
   | _=>exact h
def dig:List Nat→Code→Code
 | [],c=>c
 | n::p,.seq a b=>match n with
   | 0=>dig p a
   | _=>dig p b
 | _::p,.loop b=>dig p b
 | _::p,.block _ b=>dig p b
 | n::p,.cond _ a b=>match n with
   | 0=>dig p a
   | _=>dig p b
 | _::p,.scope b=>dig p b
 | _,c=>c
end Go.Sim

namespace Go.Sim
open Go Go.Proofs
open Go.Sim.Pos (Nm Len ZW Yd Y8 Ye)
set_option maxRecDepth 100000
set_option maxHeartbeats 8000000
theorem Vf {s:List Nat} {i:Nat} (hi:i≤s.length):Ys NC.P 9 (.str s) (some (.int .i64 (i:Int))) none none=some (.str (s.drop i)):=by
 unfold Ys;simp only [V8,Yx,Kp];rw [if_pos (by omega)];simp
theorem F4 {s:List Nat} {i:Nat} (hi:i≤s.length):Ys NC.P 9 (.str s) none (some (.int .i64 (i:Int))) none=some (.str (s.take i)):=by
 unfold Ys;simp only [V8,Yx,Kp];rw [if_pos (by omega)];simp
theorem Af {s:List Nat} {i j:Nat} (hi:i≤j) (hj:j≤s.length):Ys NC.P 9 (.str s) (some (.int .i64 (i:Int))) (some (.int .i64 (j:Int))) none=some (.str ((s.take j).drop i)):=by
 unfold Ys;simp only [V8,Yx,Kp];rw [if_pos (by omega)];simp only;rw [if_pos (by omega)]
theorem kLF:Ks #[10] [10]:=rfl
theorem kSP:Ks #[32] [32]:=rfl
attribute [go_sem] kLF kSP
theorem Z72 {C:Cfg} {rec:Rec} {fid lo:Nat} {T:TT AV} {H:Heap} {K:AV→Heap→Prop} {d:Option Tmp} {t:TypeId} {p:String} {af:Array Edge} {gd:Option (Nat × Bool)} (t':TypeId) (l c:Operand) :
 VO (aop C rec fid lo ⟨d,.makeSlice t' l c,t,p,af,gd⟩ T H) K=AO (Z4 C T l) fun x=>AO (Z4 C T c) fun y=>VO (J1 C.P H t' x y) K:=by
 simp only [aop];cases Z4 C T l with
 | none=>rfl
 | some x=>cases Z4 C T c<;>rfl
attribute [go_sem ↓] Z72
theorem Ag {n:Int} (h0:0≤n) (h1:n≤9223372036854775807):IntKind.wrap .i64 n=n:=by
 have:=Qx (x:=n) (by omega) h1;unfold IntKind.wrap;have h64:((2:Int) ^ (IntKind.bits .i64))=18446744073709551616:=by decide
 have h63:((2:Int) ^ (IntKind.bits .i64 - 1))=9223372036854775808:=by decide
 simp only [h64,h63];have e:n % 18446744073709551616=n:=by omega
 rw [e];have:¬ (n ≥ 9223372036854775808):=by omega
 simp [this]
theorem Z73 {x:Int} (h1:0≤x) (h2:x≤2147483647):Zk .i32 x=x:=by
 have:inK .i32 x=true:=by
  cases x with
  | ofNat n=>simp only [inK,QJ,Nat.ble_eq];simp at h2;omega
  | negSucc n=>omega
 unfold Zk;rw [this];rfl
theorem Z74 {x:Int} (h1:0≤x) (h2:x≤255):Zk .u8 x=x:=by
 have:inK .u8 x=true:=by
  cases x with
  | ofNat n=>simp only [inK,QJ,Nat.ble_eq];simp at h2;omega
  | negSucc n=>omega
 unfold Zk;rw [this];rfl
theorem Z75 {n:Int} (h0:0≤n) (h1:n≤2147483647):QB NC.P 21 3 (.int .i32 n)=some (.int .i64 n):=by
 have e:QB NC.P 21 3 (.int .i32 n)=some (.int .i64 (IntKind.wrap .i64 n)):=by kernel_rfl
 rw [e,Ag h0 (by omega)]
theorem Ah {s:List Nat} {k c:Nat} (h:s[k]? = some c):Yc (s.take (k+1))=(Yc (s.take k) && ZY (c:Int)):=by
 rw [List.take_add_one,h];exact CP _ _
theorem II {s:List Nat} {k c:Nat} (h:s[k]? = some c):Yj (s.take (k+1)) 0=10 * Yj (s.take k) 0+((c:Int) - 48):=by
 rw [List.take_add_one,h];exact GT _ _ _
theorem G4 {s:List Nat} {k c:Nat} (h:s[k]? = some c) (hd:ZY (c:Int)=false):Yc s=false:=by
 unfold Yc;rw [List.all_eq_false];exact ⟨c,List.mem_of_getElem? h,by simp [hd]⟩
theorem IJ {s:List Nat} {k:Nat} (hd:Yc (s.take k)=true) (hk:k≤9):0≤Yj (s.take k) 0∧Yj (s.take k) 0 < 1000000000:=by
 have:=CO (s.take k) 0 0 hd (Int.le_refl _) (by simp);refine ⟨this.1,Int.lt_of_lt_of_le this.2 ?_⟩;have hl:(s.take k).length≤9:=by rw [List.length_take];omega
 have:(10:Int) ^ (0+(s.take k).length)≤10 ^ 9:=by
  have h1:(10:Nat) ^ (0+(s.take k).length)≤10 ^ 9:=Nat.pow_le_pow_right (by decide) (by omega)
  exact_mod_cast h1
 omega
noncomputable def Z76:PF:=fun _=>none
theorem Z77:PrimsOk NC Z76:=ZA
theorem c204 (s:List Nat) (hp:s.length≤Z1):∀ lo H,Zc NC lo 204 [.str s] H (.tup [i64 (Y0 s).1,.bool (Y0 s).2]) H:=by
 refine Cn Z77 Tryz.func204 rfl rfl ?_;rcases Classical.propComplete ((9:Int) < s.length) with q9 | q9
 · have hq:=of_eq_true q9;have hI:Y0 s=(0,false):=by
    unfold Y0;rw [if_neg];intro h;omega
   rw [hI];simp only [go_sem,reduceEqDiff,reduceCtorEq];refine ZK (fun k T H M=>k=0∧M=[]∧Z2 T 0=.str s∧Z2 T 8=.ptr 0 0∧H.get 0=.sit s k) s.length ?_ ?_ ?_
   · simp only [go_sem,reduceEqDiff,reduceCtorEq]
   · rintro k T H M hk ⟨rfl,rfl,g0,g8,gH⟩;rcases Classical.propComplete (((XO s 0).1:Int) < 48) with r1 | r1<;>rcases Classical.propComplete ((57:Int) < (XO s 0).1) with r2 | r2<;>simp only [go_sem,reduceEqDiff,reduceAdd,reduceCtorEq,g0,g8,gH,hk,r1,r2,q9]
   · rintro T H M ⟨h,_⟩;omega
 have hq:s.length≤9:=by
  have:¬ ((9:Int) < s.length):=by rw [q9];exact id
  omega
 simp only [go_sem,reduceEqDiff,reduceCtorEq];refine ZK (fun k T H M=>M=[]∧Z2 T 0=.str s∧Z2 T 8=.ptr 0 0∧H.get 0=.sit s k∧Z2 T 4=.int .i64 (Yj (s.take k) 0)∧Yc (s.take k)=true) s.length ?_ ?_ ?_
 · simp only [go_sem,reduceEqDiff,reduceCtorEq];exact ⟨rfl,rfl⟩
 · rintro k T H M hk ⟨rfl,g0,g8,gH,g4,hd⟩;obtain ⟨c,hc⟩:∃ c,s[k]? = some c:=⟨s[k],by simp⟩;have hdt:=Ah hc;have hnt:=II hc;have hns:=IJ hd (by omega);rw [hd] at hdt;rw [hnt,hdt];generalize Yj (s.take k) 0=N at g4 hns ⊢;have no:ZY (c:Int)=false→Y0 s=(0,false):=fun h=>by
    unfold Y0;rw [if_neg];intro h';rw [G4 hc h] at h';cases h'.1
   by_cases hasc:c < 128
   · have hde:=A0 hc hasc;rcases Classical.propComplete ((c:Int) < 48) with r1 | r1
     · rw [no (by unfold ZY;simp [r1])];simp only [go_sem,reduceEqDiff,reduceCtorEq,g8,gH,hk,hde,r1]
     rcases Classical.propComplete ((57:Int) < (c:Int)) with r2 | r2
     · rw [no (by unfold ZY;simp [r2])];simp only [go_sem,reduceEqDiff,reduceCtorEq,g8,gH,hk,hde,r1,r2]
     have hdg:ZY (c:Int)=true:=by unfold ZY;simp [r1,r2]
     have hb:=(JY _).1 hdg;have w1:Zk .i64 (Int.mul 10 N)=10 * N:=Qx (by show _≤10 * N;omega) (by show 10 * N≤_;omega);have w2:Zk .i32 (Int.sub (c:Int) 48)=(c:Int) - 48:=Z73 (by show _≤(c:Int) - 48;omega) (by show (c:Int) - 48≤_;omega);have w3:=Z75 (n:=(c:Int) - 48) (by omega) (by omega);have w4:Zk .i64 (Int.add (10 * N) ((c:Int) - 48))=10 * N+((c:Int) - 48):=Qx (by show _≤10 * N+((c:Int) - 48);omega) (by show 10 * N+((c:Int) - 48)≤_;omega);simp only [go_sem,reduceEqDiff,reduceCtorEq,g0,g4,g8,gH,hk,hde,r1,r2,q9,w1,w2,w3,w4,hdg]
   · have hde:=It hc hasc;have r1:(((XO s k).1:Int) < 48)=False:=by simp only [eq_iff_iff,iff_false];omega
     have r2:((57:Int) < ((XO s k).1:Int))=True:=by simp only [eq_iff_iff,iff_true];omega
     rw [no (A4 (by omega))];simp only [go_sem,reduceEqDiff,reduceCtorEq,g8,gH,hk,r1,r2]
 · rintro T H M ⟨rfl,g0,g8,gH,g4,hd⟩;rw [List.take_length] at g4 hd;have hI:Y0 s=(Yj s 0,decide (s ≠ []) && (decide (s.length=1) || decide (s[0]? ≠ some 48))):=by unfold Y0;rw [if_pos ⟨hd,hq⟩]
   rw [hI];clear hI hd q9;generalize Yj s 0=N at g4 ⊢;by_cases hs0:s=[]
   · subst hs0;have h1:Z6 ([]:List Nat) []=true:=rfl;simp only [go_sem,reduceEqDiff,reduceAdd,reduceSub,reduceCtorEq,g0,g8,gH,g4,Nat.lt_irrefl,h1];simp
   · have h1:Z6 s []=false:=by rw [YV];simpa using hs0
     have hp':0 < s.length:=List.length_pos_iff.2 hs0;obtain ⟨c,hc⟩:∃ c,s[0]? = some c:=⟨s[0],by simp⟩;rcases Classical.propComplete ((s.length:Int)=1) with q1 | q1
     · have e1:s.length=1:=by have:=of_eq_true q1;omega
       simp only [go_sem,reduceEqDiff,reduceAdd,reduceSub,reduceCtorEq,g0,g8,gH,g4,Nat.lt_irrefl,h1,q1];simp [hs0,e1]
     · have e1:¬ (s.length=1):=by intro h;rw [h] at q1;simp at q1
       rcases Classical.propComplete ((c:Int)=48) with q2 | q2
       · have hc48:c=48:=by have:=of_eq_true q2;omega
         simp only [go_sem,reduceEqDiff,reduceAdd,reduceSub,reduceCtorEq,g0,g8,gH,g4,Nat.lt_irrefl,h1,q1,hp',hc,q2];simp [hs0,e1,hc48]
       · have hc48:c ≠ 48:=by intro h;rw [h] at q2;simp at q2
         simp only [go_sem,reduceEqDiff,reduceAdd,reduceSub,reduceCtorEq,g0,g8,gH,g4,Nat.lt_irrefl,h1,q1,hp',hc,q2];simp [hs0,e1,hc48]
noncomputable def Vg:List AV→Option AV:=Zy (α:=(List Nat)) (fun x=>[.str x]) (fun x=>x.length≤Z1) (fun x=>.tup [i64 (Y0 x).1,.bool (Y0 x).2])
theorem IK:Pok Vg 204:=by
 intro args v h;obtain ⟨x,rfl,hp,rfl⟩:=ZD h;exact c204 x hp
theorem Ai (s:List Nat) (hp:s.length≤Z1):Vg [.str s]=some (.tup [.int .i64 (Y0 s).1,.bool (Y0 s).2]):=ZE (by intro x y h;(simp only [List.cons.injEq,AV.str.injEq,and_true] at h;first | simpa only [Prod.ext_iff] using h | simpa only [Prod.ext_iff,and_assoc] using h)) s hp
attribute [go_sem] Ai
def Xs (l:List (List Nat)):List AV:=l.map AV.str
theorem Z78 (l:List (List Nat)):(Z0 l).flatten=Xs l:=by
 unfold Z0
 induction l with
 | nil=>rfl
 | cons a r ih=>simp only [List.map_cons,List.flatten_cons,ih];rfl
theorem Z79 (n:Nat):(List.replicate n [AV.str []]).flatten=Xs (List.replicate n []):=by
 unfold Xs
 induction n with
 | zero=>rfl
 | succ n ih=>simp only [List.replicate_succ,List.flatten_cons,List.map_cons,ih];rfl
theorem IL {l:List (List Nat)} {k:Nat} (w:List Nat) (hk:k < l.length):over (Xs l) k [.str w]=Xs (l.set k w):=by
 unfold over Xs;rw [List.map_set];have:k < (l.map AV.str).length:=by simpa using hk
 rw [List.set_eq_take_append_cons_drop,if_pos this];simp
noncomputable def Aj:PF:=Zd 250 UZ (Zd 249 G3 (fun _=>none))
theorem Z7a:PrimsOk NC Aj:=Pa (Pa (ZA) Z71) Z6Z
theorem Z7b:En Aj 249 G3:=Ze (by rfl) (by kernel_rfl)
theorem Z7c:En Aj 250 UZ:=Ze (by rfl) (by kernel_rfl)
attribute [go_sem ↓] Z7b Z7c
theorem c134 (s:Nm) (c:Nat) (hp:s.length+1≤Z1):∀ lo H,Zc NC lo 134 [.str s,.str [c],.int .i64 0,.int .i64 (-1)] H (.ps .unk (Z0 (Zu c s))) H:=by
 refine HQ JX Z7a (fn:=Tryz.f134) (by kernel_rfl) Tryz.func134 rfl rfl (by rfl) (by first | rfl | (split<;>first | rfl | (split<;>rfl))) ?_;have hl:=hp;have hcl:=CN c s;have z1:((-1:Int)=0)=False:=by simp
 have z2:((-1:Int) < 0)=True:=by simp
 have hne:Z6 [c] []=false:=rfl;have hN:Zk .i64 (Int.add ((ZB c s:Nat):Int) 1)=((ZB c s+1:Nat):Int):=Ym (n:=ZB c s+1) (by unfold Z1 at hl;omega);have hL:Zk .i64 (Int.add ((s.length:Nat):Int) 1)=((s.length+1:Nat):Int):=Ym (n:=s.length+1) (by unfold Z1 at hl;omega);have hmin:minI ((ZB c s+1:Nat):Int) ((s.length+1:Nat):Int)=((ZB c s+1:Nat):Int):=by unfold minI;rw [if_neg (by omega)]
 have hmk:=fun (H:Heap)=>mkS (H:=H) (N:=ZB c s+1) (by omega)
 simp only [Z79] at hmk;have hP:Zk .i64 (Int.sub ((ZB c s+1:Nat):Int) 1)=((ZB c s:Nat):Int):=by
  have:=Dq (k:=ZB c s+1) (n:=Z1) (by omega) (by omega) (Nat.le_refl _);simpa using this
 simp (maxDischargeDepth:=12) only [go_sem,reduceEqDiff,reduceAdd,reduceCtorEq,z1,z2,hne,hN,hL,hmin,hmk,hP];refine ZK (fun k T H M=>M=[]∧Z2 T 1=.str [c]∧Z2 T 2=.int .i64 0∧Z2 T 3=i64 (ZB c s:Nat)∧Z2 T 9=.rs 0 0 (ZB c s+1) 1 (some (ZB c s+1))∧Z2 T 10=i64 k∧0 < H.n ∧
  ∃ (done:List (List Nat)) (rest:List Nat),Z2 T 0=.str rest∧done.length=k∧Zu c s=done++Zu c rest∧rest.length≤s.length∧H.get 0=.cells (Xs (done++List.replicate (ZB c s+1 - k) [])) 9) (ZB c s) ?_ ?_ ?_
 · simp (maxDischargeDepth:=12) only [go_sem,reduceEqDiff,reduceCtorEq];exact ⟨[],s,rfl,rfl,rfl,Nat.le_refl _,rfl⟩
 · rintro k T H M hk ⟨rfl,g1,g2,g3,g9,g10,hn,done,rest,g0,hd,hs,hr,h0⟩;have hcr:ZB c rest=ZB c s - k:=by
    have h1:=Jc c s;rw [hs,List.length_append,hd,Jc] at h1;omega
   rcases VM c rest with ⟨h1,h2⟩ | ⟨m,h1,h2,h3,h4⟩
   · rw [Z53 h2] at hcr;omega
   have hmn:((m:Int) < 0)=False:=by simp
   have hw:=ZP (k:=k) (n:=ZB c s) hk (by omega);have w0:Zk .i64 (Int.add (m:Int) 0)=(m:Int):=by
    have:Int.add (m:Int) 0=((m:Nat):Int):=Int.add_zero _;rw [this];exact Ym (by unfold Z1 at hl;omega)
   have w1:Zk .i64 (Int.add (m:Int) ((1:Nat):Int))=((m+1:Nat):Int):=Ym (n:=m+1) (by unfold Z1 at hl;omega);have sl1:=F4 (s:=rest) (i:=m) (by omega);have sl2:=Vf (s:=rest) (i:=m+1) (by omega);have c1:(k < ZB c s+1)=True:=by simp only [eq_iff_iff,iff_true];omega
   have hlen:(Xs (done++List.replicate (ZB c s+1 - k) [])).length=ZB c s+1:=by unfold Xs;simp;omega
   have c2:(k+1≤(Xs (done++List.replicate (ZB c s+1 - k) [])).length)=True:=by rw [hlen];simp only [eq_iff_iff,iff_true];omega
   have hov:over (Xs (done++List.replicate (ZB c s+1 - k) [])) k [.str (rest.take m)]=Xs ((done++[rest.take m])++List.replicate (ZB c s+1 - (k+1)) []):=by
    rw [IL _ (by simp;omega)];have e:ZB c s+1 - k=ZB c s+1 - (k+1)+1:=by omega
    rw [e,List.replicate_succ,← hd];simp
   generalize hCE:Xs (done++List.replicate (ZB c s+1 - k) [])=CE at h0 c2 hov;unfold over at hov;simp only [List.length_cons,List.length_nil] at hov;simp (maxDischargeDepth:=12) only [go_sem,reduceEqDiff,reduceCtorEq,g0,g1,g2,g3,g9,g10,hk,h1,hmn,hw,w0,w1,sl1,sl2,c1,h0,c2,hov,Nat.mul_one];refine ⟨hn,done++[rest.take m],rest.drop (m+1),rfl,by simp [hd], ?_,by simp;omega,rfl⟩;rw [hs,GR h3 h4];simp
 · rintro T H M ⟨rfl,g1,g2,g3,g9,g10,hn,done,rest,g0,hd,hs,hr,h0⟩;have hcr:ZB c rest=0:=by
    have h1:=Jc c s;rw [hs,List.length_append,hd,Jc] at h1;omega
   have hrest:Zu c rest=[rest]:=by
    rcases VM c rest with ⟨h1,h2⟩ | ⟨m,h1,h2,h3,h4⟩
    · exact GQ h2
    · rw [Z54 h3 h4] at hcr;omega
   have hlen:(Xs (done++List.replicate (ZB c s+1 - ZB c s) [])).length=ZB c s+1:=by unfold Xs;simp;omega
   have c1:(ZB c s < ZB c s+1)=True:=by simp
   have c2:(ZB c s+1≤(Xs (done++List.replicate (ZB c s+1 - ZB c s) [])).length)=True:=by rw [hlen];simp
   have hov:over (Xs (done++List.replicate (ZB c s+1 - ZB c s) [])) (ZB c s) [.str rest]=Xs (Zu c s):=by
    rw [IL _ (by simp;omega),hs,hrest];have e:ZB c s+1 - ZB c s=0+1:=by omega
    rw [e,List.replicate_succ,← hd];simp
   have hw:Zk .i64 (Int.add ((ZB c s:Nat):Int) 1)=((ZB c s+1:Nat):Int):=hN;have hsl:Ys NC.P 50 (.rs 0 0 (ZB c s+1) 1 (some (ZB c s+1))) none (some (.int .i64 ((ZB c s+1:Nat):Int))) none=some (.rs 0 0 (ZB c s+1) 1 (some (ZB c s+1))):=by
    have u1:NC.P.underlying 50=some (.slice 9):=by kernel_rfl
    have u2:Zh NC.P 9=some 1:=by kernel_rfl
    unfold Ys;simp only [u1,u2,Yx,Kp];simp
   generalize hCE:Xs (done++List.replicate (ZB c s+1 - ZB c s) [])=CE at h0 c2 hov;unfold over at hov;simp only [List.length_cons,List.length_nil] at hov;simp (maxDischargeDepth:=12) only [go_sem,reduceEqDiff,reduceCtorEq,g0,g3,g9,g10,Nat.lt_irrefl,c1,h0,c2,hov,hw,hsl,Nat.mul_one];have hfr:=frzS (lo:=0) (H:=H.set 0 (.cells (Xs (Zu c s)) 9)) (id:=0) (cap:=some (ZB c s+1)) (l:=Zu c s) (by rw [Heap.get_set,if_pos rfl,Z78];rfl) (Nat.le_refl _);rw [Jc] at hfr;simp (maxDischargeDepth:=12) only [go_sem,Ku,VL,hfr];exact ⟨_,_,rfl,rfl⟩
noncomputable def p134:List AV→Option AV:=Zy (α:=(Nm) × (Nat)) (fun x=>[.str x.1,.str [x.2],.int .i64 0,.int .i64 (-1)]) (fun x=>x.1.length+1≤Z1) (fun x=>.ps .unk (Z0 (Zu x.2 x.1)))
theorem Z7d:Pok p134 134:=by
 intro args v h;obtain ⟨x,rfl,hp,rfl⟩:=ZD h;exact c134 x.1 x.2 hp
theorem IM (s:Nm) (c:Nat) (hp:s.length+1≤Z1):p134 [.str s,.str [c],.int .i64 0,.int .i64 (-1)]=some (.ps .unk (Z0 (Zu c s))):=ZE (by intro x y h;(simp only [List.cons.injEq,AV.str.injEq,and_true] at h;first | simpa only [Prod.ext_iff] using h | simpa only [Prod.ext_iff,and_assoc] using h)) (s,c) hp
attribute [go_sem] IM
noncomputable def IN:PF:=Zd 134 p134 (fun _=>none)
theorem Z7e:PrimsOk NC IN:=Pa (ZA) Z7d
theorem Z7f:En IN 134 p134:=Ze (by rfl) (by kernel_rfl)
attribute [go_sem ↓] Z7f
theorem c59 (s:Nm) (c:Nat) (hp:s.length+1≤Z1):∀ lo H,Zc NC lo 59 [.str s,.str [c]] H (.ps .unk (Z0 (Zu c s))) H:=by
 refine Cn Z7e Tryz.func59 rfl rfl ?_;have e:=IM s c hp;simp (maxDischargeDepth:=12) only [go_sem,reduceEqDiff,reduceAdd,reduceCtorEq,e]
noncomputable def p59:List AV→Option AV:=Zy (α:=(Nm) × (Nat)) (fun x=>[.str x.1,.str [x.2]]) (fun x=>x.1.length+1≤Z1) (fun x=>.ps .unk (Z0 (Zu x.2 x.1)))
theorem IP:Pok p59 59:=by
 intro args v h;obtain ⟨x,rfl,hp,rfl⟩:=ZD h;exact c59 x.1 x.2 hp
theorem pe59 (s:Nm) (c:Nat) (hp:s.length+1≤Z1):p59 [.str s,.str [c]]=some (.ps .unk (Z0 (Zu c s))):=ZE (by intro x y h;(simp only [List.cons.injEq,AV.str.injEq,and_true] at h;first | simpa only [Prod.ext_iff] using h | simpa only [Prod.ext_iff,and_assoc] using h)) (s,c) hp
attribute [go_sem] pe59
def Jj (s:Nm):AV:=if Q0 10 s = -1 then .tup [.str s,.str [],.bool false] else .tup [.str (s.take (Q0 10 s).toNat),.str (s.drop ((Q0 10 s).toNat+1)),.bool true]
noncomputable def IQ:PF:=Zd 280 G2 (fun _=>none)
theorem Z7g:PrimsOk NC IQ:=Pa (ZA) Z70
theorem Z7h:En IQ 280 G2:=Ze (by rfl) (by kernel_rfl)
attribute [go_sem ↓] Z7h
theorem c202 (s:Nm) (hp:s.length+1≤Z1):∀ lo H,Zc NC lo 202 [.str s,.str [10]] H (Jj s) H:=by
 refine contract JX Z7g (fn:=Tryz.f202) (by kernel_rfl) Tryz.func202 rfl rfl (by rfl) (by unfold Jj;split<;>rfl) ?_;unfold Jj;rcases VM 10 s with ⟨h1,h2⟩ | ⟨m,h1,h2,h3,h4⟩
 · have z1:((-1:Int) < 0)=True:=by simp
   rw [if_pos h1];simp (maxDischargeDepth:=12) only [go_sem,reduceEqDiff,reduceAdd,reduceCtorEq,h1,z1]
 · have z1:((m:Int) < 0)=False:=by simp
   have z2:((m:Int).toNat)=m:=rfl;have w1:Zk .i64 (Int.add (m:Int) ((1:Nat):Int))=((m+1:Nat):Int):=Ym (n:=m+1) (by unfold Z1 at hp;omega);have sl1:=F4 (s:=s) (i:=m) (by omega);have sl2:=Vf (s:=s) (i:=m+1) (by omega);rw [if_neg (by rw [h1];omega)];simp (maxDischargeDepth:=12) only [go_sem,reduceEqDiff,reduceAdd,reduceCtorEq,h1,z1,z2,w1,sl1,sl2]
noncomputable def p202:List AV→Option AV:=Zy (α:=(Nm)) (fun x=>[.str x,.str [10]]) (fun x=>x.length+1≤Z1) (fun x=>Jj x)
theorem Z7i:Pok p202 202:=by
 intro args v h;obtain ⟨x,rfl,hp,rfl⟩:=ZD h;exact c202 x hp
theorem IR (s:Nm) (hp:s.length+1≤Z1):p202 [.str s,.str [10]]=some (Jj s):=ZE (by intro x y h;(simp only [List.cons.injEq,AV.str.injEq,and_true] at h;first | simpa only [Prod.ext_iff] using h | simpa only [Prod.ext_iff,and_assoc] using h)) s hp
attribute [go_sem] IR
noncomputable def IS:PF:=Zd 202 p202 (fun _=>none)
theorem Z7j:PrimsOk NC IS:=Pa (ZA) Z7i
theorem Z7k:En IS 202 p202:=Ze (by rfl) (by kernel_rfl)
attribute [go_sem ↓] Z7k
theorem c90 (s:Nm) (hp:s.length+1≤Z1):∀ lo H,Zc NC lo 90 [.str s,.str [10]] H (Jj s) H:=by
 refine contract JX Z7j (fn:=Tryz.f90) (by kernel_rfl) Tryz.func90 rfl rfl (by rfl) (by unfold Jj;split<;>rfl) ?_;have e:=IR s hp;unfold Jj at e ⊢;by_cases h:Q0 10 s = -1
 · rw [if_pos h] at e ⊢;simp (maxDischargeDepth:=12) only [go_sem,reduceEqDiff,reduceAdd,reduceCtorEq,e]
 · rw [if_neg h] at e ⊢;simp (maxDischargeDepth:=12) only [go_sem,reduceEqDiff,reduceAdd,reduceCtorEq,e]
noncomputable def p90:List AV→Option AV:=Zy (α:=(Nm)) (fun x=>[.str x,.str [10]]) (fun x=>x.length+1≤Z1) (fun x=>Jj x)
theorem pok90:Pok p90 90:=by
 intro args v h;obtain ⟨x,rfl,hp,rfl⟩:=ZD h;exact c90 x hp
theorem pe90 (s:Nm) (hp:s.length+1≤Z1):p90 [.str s,.str [10]]=some (Jj s):=ZE (by intro x y h;(simp only [List.cons.injEq,AV.str.injEq,and_true] at h;first | simpa only [Prod.ext_iff] using h | simpa only [Prod.ext_iff,and_assoc] using h)) s hp
attribute [go_sem] pe90
end Go.Sim
