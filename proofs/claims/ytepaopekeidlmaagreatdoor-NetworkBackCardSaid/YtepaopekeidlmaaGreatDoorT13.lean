/-
The parts NetLay, NetSane, NetFacts, NetData, NetView of one proof, joined: each begins with a remark that says what it shows.
-/
import Derived.Test.YtepaopekeidlmaaGreatDoorT12
import Derived.Shelf.Strings.Builder1
import Derived.Shelf.Strings.OnBuilder
import Derived.Shelf.Small.Strs
import Derived.Shelf.Strconv.Itoa0
import Derived.Shelf.Strconv.Itoa1
import Derived.Shelf.LaysM
import Derived.Shelf.Strconv.Itoa2
import Derived.Shelf.Strconv.Itoa3
import Derived.Test.YtepaopekeidlmaaGreatDoorProg
set_option linter.unusedSimpArgs false
set_option linter.unusedVariables false

/-
  DERIVED: THE SHELF's CONTRACTS AT THIS DUMP, IN PLAIN WORDS (tools/lay-plain.mjs out of 'NetShelf.lean', which tools/lay-shelf.mjs wrote): THE SAME DECLARATIONS UNDER THE SAME NAMES: 'import', 'namespace', 'open', 'def', 'theorem' AND NOTHING ELSE: no command of the shelf's: FOR A HAND-IN. Each laying: the table of numbers ('.._ren') and one theorem, a field a fact of the dump's own or the kernel's comparison; each contract: ONE APPLICATION.
-/
namespace Go.Proofs
open Go.Shelf
def Tryz.lays156_ren:Go.Shelf.Ren:=⟨fun | 156=>160 | 165=>210 | 166=>159 | 169=>163 | 240=>209 | 241=>251 | 276=>250 | 277=>275 | n=>n,fun | 31=>160 | 9=>9 | 3=>3 | 4=>4 | 0=>0 | 20=>20 | 72=>272 | 76=>275 | 70=>269 | 37=>270 | 75=>274 | 127=>340 | 164=>371 | 5=>5 | 80=>282 | n=>n,fun | n=>n⟩
theorem Tryz.lays156:Go.Proofs.Lays.n156 Tryz.prog Tryz.lays156_ren:={
 mixed:=by kernel_rfl
 f156:=Tryz.func160.trans (congrArg some (by kernel_rfl))
 f165:=Tryz.func210.trans (congrArg some (by kernel_rfl))
 f166:=Tryz.func159.trans (congrArg some (by kernel_rfl))
 f169:=Tryz.func163.trans (congrArg some (by kernel_rfl))
 f240:=Tryz.func209.trans (congrArg some (by kernel_rfl))
 f241:=Tryz.func251.trans (congrArg some (by kernel_rfl))
 f276:=Tryz.func250.trans (congrArg some (by kernel_rfl))
 f277:=Tryz.func275.trans (congrArg some (by kernel_rfl))
 t0:=Tryz.underlying0
 a0:=Tryz.isAgg0
 z0:=Tryz.sizeOf0
 v0:=Tryz.zeroValue0
 t3:=Tryz.underlying3
 a3:=Tryz.isAgg3
 z3:=Tryz.sizeOf3
 v3:=Tryz.zeroValue3
 t4:=Tryz.underlying4
 a4:=Tryz.isAgg4
 z4:=Tryz.sizeOf4
 v4:=Tryz.zeroValue4
 t9:=Tryz.underlying9
 a9:=Tryz.isAgg9
 z9:=Tryz.sizeOf9
 v9:=Tryz.zeroValue9
 t20:=Tryz.underlying20
 a20:=Tryz.isAgg20
 z20:=Tryz.sizeOf20
 v20:=Tryz.zeroValue20
 t31:=Tryz.underlying160
 a31:=Tryz.isAgg160
 z31:=Tryz.sizeOf160
 v31:=Tryz.zeroValue160
 t37:=Tryz.underlying270
 a37:=Tryz.isAgg270
 z37:=Tryz.sizeOf270
 v37:=Tryz.zeroValue270
 t70:=Tryz.underlying269
 a70:=Tryz.isAgg269
 z70:=Tryz.sizeOf269
 v70:=Tryz.zeroValue269
 t72:=Tryz.underlying272
 a72:=Tryz.isAgg272
 z72:=Tryz.sizeOf272
 v72:=Tryz.zeroValue272
 t75:=Tryz.underlying274
 a75:=Tryz.isAgg274
 z75:=Tryz.sizeOf274
 v75:=Tryz.zeroValue274
 t76:=Tryz.underlying275
 a76:=Tryz.isAgg275
 z76:=Tryz.sizeOf275
 v76:=Tryz.zeroValue275
 t127:=Tryz.underlying340
 a127:=Tryz.isAgg340
 z127:=Tryz.sizeOf340
 v127:=Tryz.zeroValue340
 t164:=Tryz.underlying371
 a164:=Tryz.isAgg371
 z164:=Tryz.sizeOf371
 v164:=Tryz.zeroValue371 }
theorem Tryz.Builder_Extra_156:Builder.Extra Tryz.prog Tryz.lays156_ren:={
 sizeBuilder:=by kernel_rfl
 liesBuilder:=by kernel_rfl
 t5:=Tryz.underlying5
 a5:=Tryz.isAgg5
 z5:=Tryz.sizeOf5
 v5:=Tryz.zeroValue5
 infoByte:=by kernel_rfl
 cellsByte:=by kernel_rfl
 sizeByte:=by kernel_rfl
 neB5:=by decide }
def Tryz.lays106_ren:Go.Shelf.Ren:=⟨fun | 106=>242 | 213=>272 | 265=>289 | n=>n,fun | 9=>9 | 3=>3 | n=>n,fun | n=>n⟩
theorem Tryz.lays106:Go.Proofs.Lays.n106 Tryz.prog Tryz.lays106_ren:={
 mixed:=by kernel_rfl
 f106:=Tryz.func242.trans (congrArg some (by kernel_rfl))
 f213:=Tryz.func272.trans (congrArg some (by kernel_rfl))
 f265:=Tryz.func289.trans (congrArg some (by kernel_rfl))
 t3:=Tryz.underlying3
 a3:=Tryz.isAgg3
 z3:=Tryz.sizeOf3
 v3:=Tryz.zeroValue3
 t9:=Tryz.underlying9
 a9:=Tryz.isAgg9
 z9:=Tryz.sizeOf9
 v9:=Tryz.zeroValue9 }
def Tryz.laysM171_ren:Go.Shelf.Ren:=⟨fun | 171=>161 | 243=>211 | 246=>252 | 283=>276 | 284=>277 | 285=>278 | 286=>279 | 129=>239 | 317=>291 | 318=>292 | 319=>293 | 320=>294 | 337=>300 | 338=>301 | n=>n,fun | 3=>3 | 9=>9 | 2=>2 | 4=>4 | 171=>388 | 0=>0 | 53=>361 | 37=>270 | 5=>5 | 173=>390 | 212=>399 | 51=>359 | 20=>20 | 213=>400 | 46=>320 | 232=>408 | 233=>409 | n=>n,fun | 17=>3 | 18=>6 | 19=>7 | n=>n⟩
theorem Tryz.laysM171:Go.Proofs.LaysM.n171 Tryz.prog Tryz.laysM171_ren:={
 mixed:=by kernel_rfl
 f129:=Tryz.func239.trans (congrArg some (by kernel_rfl))
 f171:=Tryz.func161.trans (congrArg some (by kernel_rfl))
 f243:=Tryz.func211.trans (congrArg some (by kernel_rfl))
 f246:=Tryz.func252.trans (congrArg some (by kernel_rfl))
 f283:=Tryz.func276.trans (congrArg some (by kernel_rfl))
 f284:=Tryz.func277.trans (congrArg some (by kernel_rfl))
 f285:=Tryz.func278.trans (congrArg some (by kernel_rfl))
 f286:=Tryz.func279.trans (congrArg some (by kernel_rfl))
 f317:=Tryz.func291.trans (congrArg some (by kernel_rfl))
 f318:=Tryz.func292.trans (congrArg some (by kernel_rfl))
 f319:=Tryz.func293.trans (congrArg some (by kernel_rfl))
 f320:=Tryz.func294.trans (congrArg some (by kernel_rfl))
 f337:=Tryz.func300.trans (congrArg some (by kernel_rfl))
 f338:=Tryz.func301.trans (congrArg some (by kernel_rfl))
 t0:=Tryz.underlying0
 a0:=Tryz.isAgg0
 z0:=Tryz.sizeOf0
 v0:=Tryz.zeroValue0
 t2:=Tryz.underlying2
 a2:=Tryz.isAgg2
 z2:=Tryz.sizeOf2
 v2:=Tryz.zeroValue2
 t3:=Tryz.underlying3
 a3:=Tryz.isAgg3
 z3:=Tryz.sizeOf3
 v3:=Tryz.zeroValue3
 t4:=Tryz.underlying4
 a4:=Tryz.isAgg4
 z4:=Tryz.sizeOf4
 v4:=Tryz.zeroValue4
 t5:=Tryz.underlying5
 a5:=Tryz.isAgg5
 z5:=Tryz.sizeOf5
 v5:=Tryz.zeroValue5
 t9:=Tryz.underlying9
 a9:=Tryz.isAgg9
 z9:=Tryz.sizeOf9
 v9:=Tryz.zeroValue9
 t20:=Tryz.underlying20
 a20:=Tryz.isAgg20
 z20:=Tryz.sizeOf20
 v20:=Tryz.zeroValue20
 t37:=Tryz.underlying270
 a37:=Tryz.isAgg270
 z37:=Tryz.sizeOf270
 v37:=Tryz.zeroValue270
 t46:=Tryz.underlying320
 a46:=Tryz.isAgg320
 z46:=Tryz.sizeOf320
 v46:=Tryz.zeroValue320
 t51:=Tryz.underlying359
 a51:=Tryz.isAgg359
 z51:=Tryz.sizeOf359
 v51:=Tryz.zeroValue359
 t53:=Tryz.underlying361
 a53:=Tryz.isAgg361
 z53:=Tryz.sizeOf361
 v53:=Tryz.zeroValue361
 t171:=Tryz.underlying388
 a171:=Tryz.isAgg388
 z171:=Tryz.sizeOf388
 v171:=Tryz.zeroValue388
 t173:=Tryz.underlying390
 a173:=Tryz.isAgg390
 z173:=Tryz.sizeOf390
 v173:=Tryz.zeroValue390
 t212:=Tryz.underlying399
 a212:=Tryz.isAgg399
 z212:=Tryz.sizeOf399
 v212:=Tryz.zeroValue399
 t213:=Tryz.underlying400
 a213:=Tryz.isAgg400
 z213:=Tryz.sizeOf400
 t232:=Tryz.underlying408
 a232:=Tryz.isAgg408
 z232:=Tryz.sizeOf408
 v232:=Tryz.zeroValue408
 t233:=Tryz.underlying409
 a233:=Tryz.isAgg409
 z233:=Tryz.sizeOf409
 v233:=Tryz.zeroValue409
 g17:=by kernel_rfl
 g18:=by kernel_rfl
 g19:=by kernel_rfl
 i0:=by kernel_rfl
 i2:=by kernel_rfl
 i3:=by kernel_rfl
 i4:=by kernel_rfl
 i5:=by kernel_rfl
 i9:=by kernel_rfl
 i20:=by kernel_rfl
 i37:=by kernel_rfl
 i46:=by kernel_rfl
 i51:=by kernel_rfl
 i53:=by kernel_rfl
 i171:=by kernel_rfl
 i173:=by kernel_rfl
 i212:=by kernel_rfl
 i232:=by kernel_rfl
 i233:=by kernel_rfl
 m17:=by kernel_rfl
 m18:=by kernel_rfl
 m19:=by kernel_rfl }
end Go.Proofs

/-
The tables of this program are what the abstract interpreter asks for.
-/
namespace Go.Sim
open Go Go.Proofs
noncomputable def okF (f:Nat):Bool:=match NC.P.funcs[f]? with
 | some fn=>match fn.body with
   | some c=>!(fn.name == "runtime.NumGoroutine") && codeOk NC f fn.ntmps c
   | none=>false
 | none=>false
noncomputable def okChunk:Nat→Nat→Bool
 | _,0=>true
 | a,n+1=>(!goodM.testBit a || okF a) && okChunk (a+1) n
theorem okChunk_at:∀ {a n f:Nat},okChunk a n=true→a≤f→f < a+n→goodM.testBit f=true→okF f=true
 | a,0,f,_,h1,h2,_=>by omega
 | a,n+1,f,h,h1,h2,hg=>by
   unfold okChunk at h
   simp only [Bool.and_eq_true] at h
   by_cases e:f=a
   · subst e
     have:=h.1
     rw [hg] at this
     simpa using this
   · exact okChunk_at h.2 (by omega) (by omega) hg
theorem ok0:okChunk 0 20=true:=by kernel_rfl
theorem ok20:okChunk 20 20=true:=by kernel_rfl
theorem ok40:okChunk 40 20=true:=by kernel_rfl
theorem ok60:okChunk 60 20=true:=by kernel_rfl
theorem ok80:okChunk 80 20=true:=by kernel_rfl
theorem ok100:okChunk 100 20=true:=by kernel_rfl
theorem ok120:okChunk 120 20=true:=by kernel_rfl
theorem ok140:okChunk 140 20=true:=by kernel_rfl
theorem ok160:okChunk 160 20=true:=by kernel_rfl
theorem ok180:okChunk 180 20=true:=by kernel_rfl
theorem ok200:okChunk 200 20=true:=by kernel_rfl
theorem ok220:okChunk 220 20=true:=by kernel_rfl
theorem ok240:okChunk 240 20=true:=by kernel_rfl
theorem ok260:okChunk 260 20=true:=by kernel_rfl
theorem ok280:okChunk 280 20=true:=by kernel_rfl
theorem ok300:okChunk 300 20=true:=by kernel_rfl
theorem ok320:okChunk 320 20=true:=by kernel_rfl
theorem testBit_big {g a f:Nat} (h:g < 2 ^ a * 2 ^ a) (hf:a+a≤f):g.testBit f=false :=
 Nat.testBit_lt_two_pow (Nat.lt_of_lt_of_le h (by rw [← Nat.pow_add];exact Nat.pow_le_pow_right (by omega) hf))
theorem goodM_lt:goodM < 2 ^ 170 * 2 ^ 170:=by decide +kernel
theorem okAll (f:Nat) (hg:goodM.testBit f=true):okF f=true:=by
 have hlt:f < 340:=by
  rcases Nat.lt_or_ge f 340 with h | h
  · exact h
  · have:goodM.testBit f=false:=testBit_big goodM_lt h
    rw [this] at hg;cases hg
 by_cases h0:f < 20
 · exact okChunk_at ok0 (by omega) (by omega) hg
 by_cases h20:f < 40
 · exact okChunk_at ok20 (by omega) (by omega) hg
 by_cases h40:f < 60
 · exact okChunk_at ok40 (by omega) (by omega) hg
 by_cases h60:f < 80
 · exact okChunk_at ok60 (by omega) (by omega) hg
 by_cases h80:f < 100
 · exact okChunk_at ok80 (by omega) (by omega) hg
 by_cases h100:f < 120
 · exact okChunk_at ok100 (by omega) (by omega) hg
 by_cases h120:f < 140
 · exact okChunk_at ok120 (by omega) (by omega) hg
 by_cases h140:f < 160
 · exact okChunk_at ok140 (by omega) (by omega) hg
 by_cases h160:f < 180
 · exact okChunk_at ok160 (by omega) (by omega) hg
 by_cases h180:f < 200
 · exact okChunk_at ok180 (by omega) (by omega) hg
 by_cases h200:f < 220
 · exact okChunk_at ok200 (by omega) (by omega) hg
 by_cases h220:f < 240
 · exact okChunk_at ok220 (by omega) (by omega) hg
 by_cases h240:f < 260
 · exact okChunk_at ok240 (by omega) (by omega) hg
 by_cases h260:f < 280
 · exact okChunk_at ok260 (by omega) (by omega) hg
 by_cases h280:f < 300
 · exact okChunk_at ok280 (by omega) (by omega) hg
 by_cases h300:f < 320
 · exact okChunk_at ok300 (by omega) (by omega) hg
 by_cases h320:f < 340
 · exact okChunk_at ok320 (by omega) (by omega) hg
 omega
theorem callable {f:Nat} {fn:Func} (h:Tryz.prog.funcs[f]? = some fn) (hb:fn.body.isSome=true) (hn:(fn.name == "runtime.NumGoroutine")=false):Callable Tryz.prog f:=⟨fn,h,hb,hn⟩
theorem saneNC:Sane NC where
 depth:=by decide +kernel
 orders:=by kernel_rfl
 good:=fun f hf=>by
  have h:=okAll f hf
  unfold okF at h
  split at h
  · rename_i fn hfn
    split at h
    · rename_i c hc
      simp only [Bool.and_eq_true,Bool.not_eq_true'] at h
      exact ⟨fn,c,hfn,hc,h.1,h.2⟩
    · cases h
  · cases h
 memo:=fun f args v h=>by cases h
 prim:=fun f p args v hp h lo H=>by
  unfold NC at hp
  simp only [] at hp
  cases h1:Nat.beq f 242 with
  | true =>
    rw [h1] at hp;simp at hp;subst hp
    have:=Nat.eq_of_beq_eq_true h1;subst this
    exact compare_ok (C:=NC) rfl Tryz.lays106 (callable Tryz.func242 (by kernel_rfl) (by kernel_rfl)) h lo H
  | false =>
    rw [h1] at hp
    cases h2:Nat.beq f 161 with
    | true =>
      rw [h2] at hp;simp at hp;subst hp
      have:=Nat.eq_of_beq_eq_true h2;subst this
      exact itoa_ok (C:=NC) (x:=3) rfl Tryz.laysM171 (callable Tryz.func161 (by kernel_rfl) (by kernel_rfl)) rfl (by kernel_rfl) h lo H
    | false =>
      rw [h2] at hp
      cases h3:Nat.beq f 160 with
      | true =>
        rw [h3] at hp;simp at hp;subst hp
        have:=Nat.eq_of_beq_eq_true h3;subst this
        exact join_ok (C:=NC) rfl Tryz.lays156 Tryz.Builder_Extra_156 (callable Tryz.func160 (by kernel_rfl) (by kernel_rfl)) h lo H
      | false=>rw [h3] at hp;simp at hp
 hprim:=fun f p lo args H v H' hp h hl=>by
  unfold NC at hp
  simp only [] at hp
  cases h1:Nat.beq f 209 with
  | true =>
    rw [h1] at hp;simp at hp;subst hp
    have:=Nat.eq_of_beq_eq_true h1;subst this
    exact copyCheck_ok (C:=NC) (ρ:=Tryz.lays156_ren) rfl { Tryz.lays156 with } Tryz.Builder_Extra_156.toX72 (callable Tryz.func209 (by kernel_rfl) (by kernel_rfl)) h
  | false =>
    rw [h1] at hp
    cases h2:Nat.beq f 163 with
    | true =>
      rw [h2] at hp;simp at hp;subst hp
      have:=Nat.eq_of_beq_eq_true h2;subst this
      exact string_ok (C:=NC) (ρ:=Tryz.lays156_ren) rfl { Tryz.lays156 with } Tryz.Builder_Extra_156 (callable Tryz.func163 (by kernel_rfl) (by kernel_rfl)) h
    | false=>rw [h2] at hp;simp at hp
end Go.Sim

/-
Facts on the types and the regions of this program.
-/
namespace Go.Sim
open Go Go.Proofs
theorem rfP {P:FuncId→Option (List AV→Option AV)} {f:FuncId} {t:TypeId} (h:refM.testBit f=false):(NC.withPrims P).refApp f t=false:=by show (refM.testBit f && refT.testBit t)=false;rw [h];rfl
noncomputable def fplace (t i:Nat):Option (Nat × Nat):=match NC.P.underlying t with
 | some (.struct fs)=>fieldPlaces NC.P fs i
 | _=>none
theorem sz_26:szOf NC.P 26=some 3:=by kernel_rfl
theorem ag_26:aggOf NC.P 26=some true:=by kernel_rfl
theorem sz_9:szOf NC.P 9=some 1:=by kernel_rfl
theorem ag_9:aggOf NC.P 9=some false:=by kernel_rfl
theorem un_9:NC.P.underlying 9=some (.string):=by kernel_rfl
theorem sz_28:szOf NC.P 28=some 2:=by kernel_rfl
theorem ag_28:aggOf NC.P 28=some true:=by kernel_rfl
theorem ze_42:zeroOf NC.P 42=some (.agg [.str [],.int .i64 0,.int .i64 0]):=by kernel_rfl
theorem sz_42:szOf NC.P 42=some 3:=by kernel_rfl
theorem sz_30:szOf NC.P 30=some 3:=by kernel_rfl
theorem ag_30:aggOf NC.P 30=some true:=by kernel_rfl
theorem ze_45:zeroOf NC.P 45=some (.agg [.str [],.int .i64 0]):=by kernel_rfl
theorem sz_45:szOf NC.P 45=some 2:=by kernel_rfl
theorem ze_30:zeroOf NC.P 30=some (.agg [.str [],.int .i64 0,.int .i64 0]):=by kernel_rfl
theorem ze_28:zeroOf NC.P 28=some (.agg [.str [],.int .i64 0]):=by kernel_rfl
theorem sz_22:szOf NC.P 22=some 1:=by kernel_rfl
theorem ag_22:aggOf NC.P 22=some false:=by kernel_rfl
theorem un_22:NC.P.underlying 22=some (.slice 56):=by kernel_rfl
theorem sz_56:szOf NC.P 56=some 2:=by kernel_rfl
theorem ag_56:aggOf NC.P 56=some true:=by kernel_rfl
theorem un_3:NC.P.underlying 3=some (.int .i64):=by kernel_rfl
theorem un_33:NC.P.underlying 33=some (.int .i64):=by kernel_rfl
theorem ag_42:aggOf NC.P 42=some true:=by kernel_rfl
theorem ag_45:aggOf NC.P 45=some true:=by kernel_rfl
theorem sz_3:szOf NC.P 3=some 1:=by kernel_rfl
theorem ag_3:aggOf NC.P 3=some false:=by kernel_rfl
theorem el_70:elemOf NC.P 70=some 3:=by kernel_rfl
theorem ze_3:zeroOf NC.P 3=some (.int .i64 0):=by kernel_rfl
theorem un_70:NC.P.underlying 70=some (.slice 3):=by kernel_rfl
theorem un_63:NC.P.underlying 63=some (.slice 224):=by kernel_rfl
theorem un_72:NC.P.underlying 72=some (.slice 185):=by kernel_rfl
theorem un_79:NC.P.underlying 79=some (.slice 128):=by kernel_rfl
theorem un_80:NC.P.underlying 80=some (.array 2 26):=by kernel_rfl
theorem un_83:NC.P.underlying 83=some (.slice 130):=by kernel_rfl
theorem un_4:NC.P.underlying 4=some (.bool):=by kernel_rfl
theorem ze_56:zeroOf NC.P 56=some (.agg [.str [],.ps .nil []]):=by kernel_rfl
theorem bs_45 (parts:List (Nat × AV)):abuild NC.P 45 parts=match afill (fun i=>fplace 45 i) [.str [],.int .i64 0] parts with
 | some cs=>some (.agg cs)
 | none=>none:=by kernel_rfl
theorem fp_45_0:fplace 45 0=some (0,1):=by kernel_rfl
theorem fp_45_1:fplace 45 1=some (1,1):=by kernel_rfl
theorem un_95:NC.P.underlying 95=some (.map 42 4):=by kernel_rfl
theorem ze_4:zeroOf NC.P 4=some (.bool false):=by kernel_rfl
theorem sz_54:szOf NC.P 54=some 1:=by kernel_rfl
theorem ag_54:aggOf NC.P 54=some false:=by kernel_rfl
theorem un_54:NC.P.underlying 54=some (.slice 97):=by kernel_rfl
theorem sz_97:szOf NC.P 97=some 3:=by kernel_rfl
theorem sz_4:szOf NC.P 4=some 1:=by kernel_rfl
theorem ag_4:aggOf NC.P 4=some false:=by kernel_rfl
theorem un_94:NC.P.underlying 94=some (.int .u16):=by kernel_rfl
theorem un_98:NC.P.underlying 98=some (.slice 42):=by kernel_rfl
theorem un_107:NC.P.underlying 107=some (.slice 137):=by kernel_rfl
theorem un_113:NC.P.underlying 113=some (.slice 135):=by kernel_rfl
theorem un_114:NC.P.underlying 114=some (.array 2 3):=by kernel_rfl
theorem un_117:NC.P.underlying 117=some (.slice 188):=by kernel_rfl
theorem sz_128:szOf NC.P 128=some 6:=by kernel_rfl
theorem ag_128:aggOf NC.P 128=some true:=by kernel_rfl
theorem ze_128:zeroOf NC.P 128=some (.agg [.str [],.int .i64 0,.int .i64 0,.str [],.int .i64 0,.bool false]):=by kernel_rfl
theorem el_129:elemOf NC.P 129=some 83:=by kernel_rfl
theorem sz_83:szOf NC.P 83=some 1:=by kernel_rfl
theorem ze_83:zeroOf NC.P 83=some (.ps .nil []):=by kernel_rfl
theorem un_129:NC.P.underlying 129=some (.slice 83):=by kernel_rfl
theorem ag_83:aggOf NC.P 83=some false:=by kernel_rfl
theorem sz_130:szOf NC.P 130=some 6:=by kernel_rfl
theorem ag_130:aggOf NC.P 130=some true:=by kernel_rfl
theorem ze_130:zeroOf NC.P 130=some (.agg [.str [],.int .i64 0,.int .i64 0,.str [],.int .i64 0,.bool false]):=by kernel_rfl
theorem ze_133:zeroOf NC.P 133=some (.agg [.int .i64 0,.int .i64 0,.int .i64 0]):=by kernel_rfl
theorem un_131:NC.P.underlying 131=some (.array 3 5):=by kernel_rfl
theorem sz_5:szOf NC.P 5=some 1:=by kernel_rfl
theorem ag_5:aggOf NC.P 5=some false:=by kernel_rfl
theorem un_5:NC.P.underlying 5=some (.int .u8):=by kernel_rfl
theorem un_133:NC.P.underlying 133=some (.array 3 3):=by kernel_rfl
theorem sz_135:szOf NC.P 135=some 5:=by kernel_rfl
theorem un_132:NC.P.underlying 132=some (.array 2 5):=by kernel_rfl
theorem sz_137:szOf NC.P 137=some 4:=by kernel_rfl
theorem ag_137:aggOf NC.P 137=some true:=by kernel_rfl
theorem un_137:NC.P.underlying 137=some (.array 2 28):=by kernel_rfl
theorem un_138:NC.P.underlying 138=some (.slice 141):=by kernel_rfl
theorem sz_141:szOf NC.P 141=some 3:=by kernel_rfl
theorem ag_141:aggOf NC.P 141=some true:=by kernel_rfl
theorem ze_141:zeroOf NC.P 141=some (.agg [.str [],.int .i64 0,.int .i64 0]):=by kernel_rfl
theorem un_142:NC.P.underlying 142=some (.slice 157):=by kernel_rfl
theorem ze_156:zeroOf NC.P 156=some (.agg [.str [],.int .i64 0,.str [],.int .i64 0,.str [],.int .i64 0]):=by kernel_rfl
theorem un_155:NC.P.underlying 155=some (.array 3 132):=by kernel_rfl
theorem sz_132:szOf NC.P 132=some 2:=by kernel_rfl
theorem un_156:NC.P.underlying 156=some (.array 3 45):=by kernel_rfl
theorem sz_157:szOf NC.P 157=some 3:=by kernel_rfl
theorem ag_157:aggOf NC.P 157=some true:=by kernel_rfl
theorem ze_157:zeroOf NC.P 157=some (.agg [.str [],.int .i64 0,.int .i64 0]):=by kernel_rfl
theorem bs_157 (parts:List (Nat × AV)):abuild NC.P 157 parts=match afill (fun i=>fplace 157 i) [.str [],.int .i64 0,.int .i64 0] parts with
 | some cs=>some (.agg cs)
 | none=>none:=by kernel_rfl
theorem fp_157_0:fplace 157 0=some (0,1):=by kernel_rfl
theorem fp_157_1:fplace 157 1=some (1,1):=by kernel_rfl
theorem fp_157_2:fplace 157 2=some (2,1):=by kernel_rfl
theorem el_142:elemOf NC.P 142=some 157:=by kernel_rfl
theorem by_157:bytesOf NC.P 157=some 32:=by kernel_rfl
theorem un_163:NC.P.underlying 163=some (.slice 30):=by kernel_rfl
theorem un_160:NC.P.underlying 160=some (.slice 9):=by kernel_rfl
theorem ze_40:zeroOf NC.P 40=some (.agg [.ps .nil [],.ps .nil [],.ps .nil []]):=by kernel_rfl
theorem sz_40:szOf NC.P 40=some 3:=by kernel_rfl
theorem ze_26:zeroOf NC.P 26=some (.agg [.ps .nil [],.ps .nil [],.ps .nil []]):=by kernel_rfl
theorem ag_40:aggOf NC.P 40=some true:=by kernel_rfl
theorem sz_23:szOf NC.P 23=some 1:=by kernel_rfl
theorem ag_23:aggOf NC.P 23=some false:=by kernel_rfl
theorem un_23:NC.P.underlying 23=some (.slice 191):=by kernel_rfl
theorem sz_24:szOf NC.P 24=some 1:=by kernel_rfl
theorem ag_24:aggOf NC.P 24=some false:=by kernel_rfl
theorem un_24:NC.P.underlying 24=some (.slice 193):=by kernel_rfl
theorem bs_42 (parts:List (Nat × AV)):abuild NC.P 42 parts=match afill (fun i=>fplace 42 i) [.str [],.int .i64 0,.int .i64 0] parts with
 | some cs=>some (.agg cs)
 | none=>none:=by kernel_rfl
theorem fp_42_0:fplace 42 0=some (0,1):=by kernel_rfl
theorem fp_42_1:fplace 42 1=some (1,1):=by kernel_rfl
theorem fp_42_2:fplace 42 2=some (2,1):=by kernel_rfl
theorem bs_30 (parts:List (Nat × AV)):abuild NC.P 30 parts=match afill (fun i=>fplace 30 i) [.str [],.int .i64 0,.int .i64 0] parts with
 | some cs=>some (.agg cs)
 | none=>none:=by kernel_rfl
theorem fp_30_0:fplace 30 0=some (0,1):=by kernel_rfl
theorem fp_30_1:fplace 30 1=some (1,1):=by kernel_rfl
theorem fp_30_2:fplace 30 2=some (2,1):=by kernel_rfl
theorem el_163:elemOf NC.P 163=some 30:=by kernel_rfl
theorem bs_141 (parts:List (Nat × AV)):abuild NC.P 141 parts=match afill (fun i=>fplace 141 i) [.str [],.int .i64 0,.int .i64 0] parts with
 | some cs=>some (.agg cs)
 | none=>none:=by kernel_rfl
theorem fp_141_0:fplace 141 0=some (0,1):=by kernel_rfl
theorem fp_141_1:fplace 141 1=some (1,1):=by kernel_rfl
theorem fp_141_2:fplace 141 2=some (2,1):=by kernel_rfl
theorem el_138:elemOf NC.P 138=some 141:=by kernel_rfl
theorem ze_183:zeroOf NC.P 183=some (.agg [.int .i64 0,.int .i64 0]):=by kernel_rfl
theorem bs_183 (parts:List (Nat × AV)):abuild NC.P 183 parts=match afill (fun i=>fplace 183 i) [.int .i64 0,.int .i64 0] parts with
 | some cs=>some (.agg cs)
 | none=>none:=by kernel_rfl
theorem fp_183_0:fplace 183 0=some (0,1):=by kernel_rfl
theorem fp_183_1:fplace 183 1=some (1,1):=by kernel_rfl
theorem ze_185:zeroOf NC.P 185=some (.agg [.str [],.int .i64 0,.int .i64 0]):=by kernel_rfl
theorem bs_185 (parts:List (Nat × AV)):abuild NC.P 185 parts=match afill (fun i=>fplace 185 i) [.str [],.int .i64 0,.int .i64 0] parts with
 | some cs=>some (.agg cs)
 | none=>none:=by kernel_rfl
theorem fp_185_0:fplace 185 0=some (0,1):=by kernel_rfl
theorem fp_185_1:fplace 185 1=some (1,2):=by kernel_rfl
theorem el_72:elemOf NC.P 72=some 185:=by kernel_rfl
theorem sz_185:szOf NC.P 185=some 3:=by kernel_rfl
theorem bs_130 (parts:List (Nat × AV)):abuild NC.P 130 parts=match afill (fun i=>fplace 130 i) [.str [],.int .i64 0,.int .i64 0,.str [],.int .i64 0,.bool false] parts with
 | some cs=>some (.agg cs)
 | none=>none:=by kernel_rfl
theorem fp_130_0:fplace 130 0=some (0,1):=by kernel_rfl
theorem fp_130_1:fplace 130 1=some (1,1):=by kernel_rfl
theorem fp_130_2:fplace 130 2=some (2,1):=by kernel_rfl
theorem fp_130_3:fplace 130 3=some (3,1):=by kernel_rfl
theorem fp_130_4:fplace 130 4=some (4,1):=by kernel_rfl
theorem fp_130_5:fplace 130 5=some (5,1):=by kernel_rfl
theorem el_83:elemOf NC.P 83=some 130:=by kernel_rfl
theorem ze_188:zeroOf NC.P 188=some (.agg [.int .i64 0,.ps .nil [],.ps .nil [],.ps .nil [],.ps .nil []]):=by kernel_rfl
theorem bs_188 (parts:List (Nat × AV)):abuild NC.P 188 parts=match afill (fun i=>fplace 188 i) [.int .i64 0,.ps .nil [],.ps .nil [],.ps .nil [],.ps .nil []] parts with
 | some cs=>some (.agg cs)
 | none=>none:=by kernel_rfl
theorem fp_188_0:fplace 188 0=some (0,1):=by kernel_rfl
theorem fp_188_1:fplace 188 1=some (1,3):=by kernel_rfl
theorem fp_188_2:fplace 188 2=some (4,1):=by kernel_rfl
theorem el_117:elemOf NC.P 117=some 188:=by kernel_rfl
theorem sz_188:szOf NC.P 188=some 5:=by kernel_rfl
theorem bs_128 (parts:List (Nat × AV)):abuild NC.P 128 parts=match afill (fun i=>fplace 128 i) [.str [],.int .i64 0,.int .i64 0,.str [],.int .i64 0,.bool false] parts with
 | some cs=>some (.agg cs)
 | none=>none:=by kernel_rfl
theorem fp_128_0:fplace 128 0=some (0,1):=by kernel_rfl
theorem fp_128_1:fplace 128 1=some (1,1):=by kernel_rfl
theorem fp_128_2:fplace 128 2=some (2,1):=by kernel_rfl
theorem fp_128_3:fplace 128 3=some (3,1):=by kernel_rfl
theorem fp_128_4:fplace 128 4=some (4,1):=by kernel_rfl
theorem fp_128_5:fplace 128 5=some (5,1):=by kernel_rfl
theorem el_79:elemOf NC.P 79=some 128:=by kernel_rfl
theorem sz_191:szOf NC.P 191=some 5:=by kernel_rfl
theorem ag_191:aggOf NC.P 191=some true:=by kernel_rfl
theorem ze_191:zeroOf NC.P 191=some (.agg [.str [],.str [],.int .i64 0,.str [],.bool false]):=by kernel_rfl
theorem sz_193:szOf NC.P 193=some 5:=by kernel_rfl
theorem ag_193:aggOf NC.P 193=some true:=by kernel_rfl
theorem ze_193:zeroOf NC.P 193=some (.agg [.str [],.str [],.str [],.int .i64 0,.int .i64 0]):=by kernel_rfl
theorem ze_196:zeroOf NC.P 196=some (.agg [.str [],.ps .nil []]):=by kernel_rfl
theorem sz_196:szOf NC.P 196=some 2:=by kernel_rfl
theorem ag_196:aggOf NC.P 196=some true:=by kernel_rfl
theorem bs_196 (parts:List (Nat × AV)):abuild NC.P 196 parts=match afill (fun i=>fplace 196 i) [.str [],.ps .nil []] parts with
 | some cs=>some (.agg cs)
 | none=>none:=by kernel_rfl
theorem fp_196_0:fplace 196 0=some (0,1):=by kernel_rfl
theorem fp_196_1:fplace 196 1=some (1,1):=by kernel_rfl
theorem ag_97:aggOf NC.P 97=some true:=by kernel_rfl
theorem ze_97:zeroOf NC.P 97=some (.agg [.int .i64 0,.int .i64 0,.bool false]):=by kernel_rfl
theorem sz_194:szOf NC.P 194=some 1:=by kernel_rfl
theorem ag_194:aggOf NC.P 194=some false:=by kernel_rfl
theorem el_194:elemOf NC.P 194=some 200:=by kernel_rfl
theorem sz_200:szOf NC.P 200=some 3:=by kernel_rfl
theorem ze_200:zeroOf NC.P 200=some (.agg [.int .i64 0,.int .i64 0,.bool false]):=by kernel_rfl
theorem un_194:NC.P.underlying 194=some (.slice 200):=by kernel_rfl
theorem by_200:bytesOf NC.P 200=some 24:=by kernel_rfl
theorem sz_36:szOf NC.P 36=some 1:=by kernel_rfl
theorem ag_36:aggOf NC.P 36=some false:=by kernel_rfl
theorem el_36:elemOf NC.P 36=some 196:=by kernel_rfl
theorem un_36:NC.P.underlying 36=some (.slice 196):=by kernel_rfl
theorem by_196:bytesOf NC.P 196=some 40:=by kernel_rfl
theorem sz_37:szOf NC.P 37=some 1:=by kernel_rfl
theorem ag_37:aggOf NC.P 37=some false:=by kernel_rfl
theorem el_37:elemOf NC.P 37=some 201:=by kernel_rfl
theorem sz_201:szOf NC.P 201=some 5:=by kernel_rfl
theorem ze_201:zeroOf NC.P 201=some (.agg [.str [],.str [],.int .i64 0,.str [],.bool false]):=by kernel_rfl
theorem un_37:NC.P.underlying 37=some (.slice 201):=by kernel_rfl
theorem by_201:bytesOf NC.P 201=some 64:=by kernel_rfl
theorem sz_38:szOf NC.P 38=some 1:=by kernel_rfl
theorem ag_38:aggOf NC.P 38=some false:=by kernel_rfl
theorem el_38:elemOf NC.P 38=some 202:=by kernel_rfl
theorem sz_202:szOf NC.P 202=some 5:=by kernel_rfl
theorem ze_202:zeroOf NC.P 202=some (.agg [.str [],.str [],.str [],.int .i64 0,.int .i64 0]):=by kernel_rfl
theorem un_38:NC.P.underlying 38=some (.slice 202):=by kernel_rfl
theorem by_202:bytesOf NC.P 202=some 64:=by kernel_rfl
theorem bs_28 (parts:List (Nat × AV)):abuild NC.P 28 parts=match afill (fun i=>fplace 28 i) [.str [],.int .i64 0] parts with
 | some cs=>some (.agg cs)
 | none=>none:=by kernel_rfl
theorem fp_28_0:fplace 28 0=some (0,1):=by kernel_rfl
theorem fp_28_1:fplace 28 1=some (1,1):=by kernel_rfl
theorem el_234:elemOf NC.P 234=some 33:=by kernel_rfl
theorem sz_33:szOf NC.P 33=some 1:=by kernel_rfl
theorem ze_33:zeroOf NC.P 33=some (.int .i64 0):=by kernel_rfl
theorem un_234:NC.P.underlying 234=some (.slice 33):=by kernel_rfl
theorem el_314:elemOf NC.P 314=some 45:=by kernel_rfl
theorem un_314:NC.P.underlying 314=some (.slice 45):=by kernel_rfl
theorem un_216:NC.P.underlying 216=some (.slice 220):=by kernel_rfl
theorem sz_220:szOf NC.P 220=some 3:=by kernel_rfl
theorem ag_220:aggOf NC.P 220=some true:=by kernel_rfl
theorem ze_220:zeroOf NC.P 220=some (.agg [.str [],.int .i64 0,.int .i64 0]):=by kernel_rfl
theorem el_218:elemOf NC.P 218=some 183:=by kernel_rfl
theorem sz_183:szOf NC.P 183=some 2:=by kernel_rfl
theorem un_218:NC.P.underlying 218=some (.slice 183):=by kernel_rfl
theorem by_183:bytesOf NC.P 183=some 16:=by kernel_rfl
theorem ag_183:aggOf NC.P 183=some true:=by kernel_rfl
theorem sz_224:szOf NC.P 224=some 3:=by kernel_rfl
theorem ze_224:zeroOf NC.P 224=some (.agg [.str [],.int .i64 0,.int .i64 0]):=by kernel_rfl
theorem bs_224 (parts:List (Nat × AV)):abuild NC.P 224 parts=match afill (fun i=>fplace 224 i) [.str [],.int .i64 0,.int .i64 0] parts with
 | some cs=>some (.agg cs)
 | none=>none:=by kernel_rfl
theorem fp_224_0:fplace 224 0=some (0,1):=by kernel_rfl
theorem fp_224_1:fplace 224 1=some (1,2):=by kernel_rfl
theorem el_63:elemOf NC.P 63=some 224:=by kernel_rfl
theorem by_224:bytesOf NC.P 224=some 32:=by kernel_rfl
theorem ag_202:aggOf NC.P 202=some true:=by kernel_rfl
theorem by_185:bytesOf NC.P 185=some 32:=by kernel_rfl
theorem ag_185:aggOf NC.P 185=some true:=by kernel_rfl
theorem ag_224:aggOf NC.P 224=some true:=by kernel_rfl
theorem by_130:bytesOf NC.P 130=some 64:=by kernel_rfl
theorem ag_200:aggOf NC.P 200=some true:=by kernel_rfl
theorem el_98:elemOf NC.P 98=some 42:=by kernel_rfl
theorem by_42:bytesOf NC.P 42=some 32:=by kernel_rfl
theorem by_128:bytesOf NC.P 128=some 64:=by kernel_rfl
theorem ze_137:zeroOf NC.P 137=some (.agg [.str [],.int .i64 0,.str [],.int .i64 0]):=by kernel_rfl
theorem el_107:elemOf NC.P 107=some 137:=by kernel_rfl
theorem by_137:bytesOf NC.P 137=some 48:=by kernel_rfl
theorem sz_79:szOf NC.P 79=some 1:=by kernel_rfl
theorem ag_79:aggOf NC.P 79=some false:=by kernel_rfl
theorem ag_135:aggOf NC.P 135=some true:=by kernel_rfl
theorem ze_135:zeroOf NC.P 135=some (.agg [.int .i64 0,.ps .nil [],.ps .nil [],.ps .nil [],.ps .nil []]):=by kernel_rfl
theorem by_188:bytesOf NC.P 188=some 104:=by kernel_rfl
theorem ag_188:aggOf NC.P 188=some true:=by kernel_rfl
theorem ze_246:zeroOf NC.P 246=some (.agg [.ps .nil [],.int .i64 0]):=by kernel_rfl
theorem sz_246:szOf NC.P 246=some 2:=by kernel_rfl
theorem sz_142:szOf NC.P 142=some 1:=by kernel_rfl
theorem ag_142:aggOf NC.P 142=some false:=by kernel_rfl
theorem un_254:NC.P.underlying 254=some (.slice 4):=by kernel_rfl
theorem un_252:NC.P.underlying 252=some (.slice 138):=by kernel_rfl
theorem sz_138:szOf NC.P 138=some 1:=by kernel_rfl
theorem ag_138:aggOf NC.P 138=some false:=by kernel_rfl
theorem by_141:bytesOf NC.P 141=some 32:=by kernel_rfl
theorem ag_201:aggOf NC.P 201=some true:=by kernel_rfl
theorem un_259:NC.P.underlying 259=some (.array 2 45):=by kernel_rfl
theorem ze_262:zeroOf NC.P 262=some (.agg [.str [],.str [],.int .i64 0,.str [],.bool false,.int .i64 0]):=by kernel_rfl
theorem bs_262 (parts:List (Nat × AV)):abuild NC.P 262 parts=match afill (fun i=>fplace 262 i) [.str [],.str [],.int .i64 0,.str [],.bool false,.int .i64 0] parts with
 | some cs=>some (.agg cs)
 | none=>none:=by kernel_rfl
theorem fp_262_0:fplace 262 0=some (0,5):=by kernel_rfl
theorem fp_262_1:fplace 262 1=some (5,1):=by kernel_rfl
theorem el_258:elemOf NC.P 258=some 262:=by kernel_rfl
theorem sz_262:szOf NC.P 262=some 6:=by kernel_rfl
theorem un_258:NC.P.underlying 258=some (.slice 262):=by kernel_rfl
theorem by_262:bytesOf NC.P 262=some 72:=by kernel_rfl
theorem by_30:bytesOf NC.P 30=some 32:=by kernel_rfl
theorem el_160:elemOf NC.P 160=some 9:=by kernel_rfl
theorem ze_9:zeroOf NC.P 9=some (.str []):=by kernel_rfl
theorem by_9:bytesOf NC.P 9=some 16:=by kernel_rfl
theorem ze_272:zeroOf NC.P 272=some (.agg [.nilp,.ps .nil []]):=by kernel_rfl
theorem sz_281:szOf NC.P 281=some 2:=by kernel_rfl
theorem ag_281:aggOf NC.P 281=some true:=by kernel_rfl
theorem un_281:NC.P.underlying 281=some (.array 2 9):=by kernel_rfl
theorem bs_40 (parts:List (Nat × AV)):abuild NC.P 40 parts=match afill (fun i=>fplace 40 i) [.ps .nil [],.ps .nil [],.ps .nil []] parts with
 | some cs=>some (.agg cs)
 | none=>none:=by kernel_rfl
theorem fp_40_0:fplace 40 0=some (0,1):=by kernel_rfl
theorem fp_40_1:fplace 40 1=some (1,1):=by kernel_rfl
theorem fp_40_2:fplace 40 2=some (2,1):=by kernel_rfl
theorem ze_291:zeroOf NC.P 291=some (.agg [.ps .nil [],.bool false]):=by kernel_rfl
theorem bs_291 (parts:List (Nat × AV)):abuild NC.P 291 parts=match afill (fun i=>fplace 291 i) [.ps .nil [],.bool false] parts with
 | some cs=>some (.agg cs)
 | none=>none:=by kernel_rfl
theorem fp_291_0:fplace 291 0=some (0,1):=by kernel_rfl
theorem fp_291_1:fplace 291 1=some (1,1):=by kernel_rfl
theorem un_293:NC.P.underlying 293=some (.slice 296):=by kernel_rfl
theorem sz_296:szOf NC.P 296=some 3:=by kernel_rfl
theorem sz_294:szOf NC.P 294=some 1:=by kernel_rfl
theorem ag_294:aggOf NC.P 294=some false:=by kernel_rfl
theorem sz_160:szOf NC.P 160=some 1:=by kernel_rfl
theorem ag_160:aggOf NC.P 160=some false:=by kernel_rfl
theorem bs_56 (parts:List (Nat × AV)):abuild NC.P 56 parts=match afill (fun i=>fplace 56 i) [.str [],.ps .nil []] parts with
 | some cs=>some (.agg cs)
 | none=>none:=by kernel_rfl
theorem fp_56_0:fplace 56 0=some (0,1):=by kernel_rfl
theorem fp_56_1:fplace 56 1=some (1,1):=by kernel_rfl
theorem el_54:elemOf NC.P 54=some 97:=by kernel_rfl
theorem by_97:bytesOf NC.P 97=some 24:=by kernel_rfl
theorem el_22:elemOf NC.P 22=some 56:=by kernel_rfl
theorem by_56:bytesOf NC.P 56=some 40:=by kernel_rfl
theorem el_23:elemOf NC.P 23=some 191:=by kernel_rfl
theorem by_191:bytesOf NC.P 191=some 64:=by kernel_rfl
theorem el_24:elemOf NC.P 24=some 193:=by kernel_rfl
theorem by_193:bytesOf NC.P 193=some 64:=by kernel_rfl
theorem bs_200 (parts:List (Nat × AV)):abuild NC.P 200 parts=match afill (fun i=>fplace 200 i) [.int .i64 0,.int .i64 0,.bool false] parts with
 | some cs=>some (.agg cs)
 | none=>none:=by kernel_rfl
theorem fp_200_0:fplace 200 0=some (0,1):=by kernel_rfl
theorem fp_200_1:fplace 200 1=some (1,1):=by kernel_rfl
theorem fp_200_2:fplace 200 2=some (2,1):=by kernel_rfl
theorem bs_201 (parts:List (Nat × AV)):abuild NC.P 201 parts=match afill (fun i=>fplace 201 i) [.str [],.str [],.int .i64 0,.str [],.bool false] parts with
 | some cs=>some (.agg cs)
 | none=>none:=by kernel_rfl
theorem fp_201_0:fplace 201 0=some (0,1):=by kernel_rfl
theorem fp_201_1:fplace 201 1=some (1,1):=by kernel_rfl
theorem fp_201_2:fplace 201 2=some (2,1):=by kernel_rfl
theorem fp_201_3:fplace 201 3=some (3,1):=by kernel_rfl
theorem fp_201_4:fplace 201 4=some (4,1):=by kernel_rfl
theorem bs_202 (parts:List (Nat × AV)):abuild NC.P 202 parts=match afill (fun i=>fplace 202 i) [.str [],.str [],.str [],.int .i64 0,.int .i64 0] parts with
 | some cs=>some (.agg cs)
 | none=>none:=by kernel_rfl
theorem fp_202_0:fplace 202 0=some (0,1):=by kernel_rfl
theorem fp_202_1:fplace 202 1=some (1,1):=by kernel_rfl
theorem fp_202_2:fplace 202 2=some (2,1):=by kernel_rfl
theorem fp_202_3:fplace 202 3=some (3,2):=by kernel_rfl
theorem un_310:NC.P.underlying 310=some (.map 9 4):=by kernel_rfl
theorem ag_33:aggOf NC.P 33=some false:=by kernel_rfl
theorem bs_220 (parts:List (Nat × AV)):abuild NC.P 220 parts=match afill (fun i=>fplace 220 i) [.str [],.int .i64 0,.int .i64 0] parts with
 | some cs=>some (.agg cs)
 | none=>none:=by kernel_rfl
theorem fp_220_0:fplace 220 0=some (0,2):=by kernel_rfl
theorem fp_220_1:fplace 220 1=some (2,1):=by kernel_rfl
theorem el_216:elemOf NC.P 216=some 220:=by kernel_rfl
theorem ze_259:zeroOf NC.P 259=some (.agg [.str [],.int .i64 0,.str [],.int .i64 0]):=by kernel_rfl
theorem sz_259:szOf NC.P 259=some 4:=by kernel_rfl
theorem un_316:NC.P.underlying 316=some (.map 45 246):=by kernel_rfl
theorem by_220:bytesOf NC.P 220=some 32:=by kernel_rfl
theorem un_320:NC.P.underlying 320=some (.int .u64):=by kernel_rfl
theorem by_3:bytesOf NC.P 3=some 8:=by kernel_rfl
theorem by_33:bytesOf NC.P 33=some 8:=by kernel_rfl
theorem bs_246 (parts:List (Nat × AV)):abuild NC.P 246 parts=match afill (fun i=>fplace 246 i) [.ps .nil [],.int .i64 0] parts with
 | some cs=>some (.agg cs)
 | none=>none:=by kernel_rfl
theorem fp_246_0:fplace 246 0=some (0,1):=by kernel_rfl
theorem fp_246_1:fplace 246 1=some (1,1):=by kernel_rfl
theorem ag_259:aggOf NC.P 259=some true:=by kernel_rfl
theorem ze_334:zeroOf NC.P 334=some (.agg [.str [],.int .i64 0,.str [],.int .i64 0,.str [],.int .i64 0,.str [],.int .i64 0]):=by kernel_rfl
theorem un_334:NC.P.underlying 334=some (.array 2 259):=by kernel_rfl
theorem ag_246:aggOf NC.P 246=some true:=by kernel_rfl
theorem el_252:elemOf NC.P 252=some 138:=by kernel_rfl
theorem ze_138:zeroOf NC.P 138=some (.ps .nil []):=by kernel_rfl
theorem by_138:bytesOf NC.P 138=some 24:=by kernel_rfl
theorem el_254:elemOf NC.P 254=some 4:=by kernel_rfl
theorem by_4:bytesOf NC.P 4=some 1:=by kernel_rfl
theorem ag_262:aggOf NC.P 262=some true:=by kernel_rfl
theorem sz_270:szOf NC.P 270=some 1:=by kernel_rfl
theorem ag_270:aggOf NC.P 270=some false:=by kernel_rfl
theorem un_270:NC.P.underlying 270=some (.slice 5):=by kernel_rfl
theorem el_270:elemOf NC.P 270=some 5:=by kernel_rfl
theorem by_5:bytesOf NC.P 5=some 1:=by kernel_rfl
theorem ze_5:zeroOf NC.P 5=some (.int .u8 0):=by kernel_rfl
theorem ag_296:aggOf NC.P 296=some true:=by kernel_rfl
theorem ze_296:zeroOf NC.P 296=some (.agg [.str [],.int .i64 0,.nilf]):=by kernel_rfl
theorem bs_296 (parts:List (Nat × AV)):abuild NC.P 296 parts=match afill (fun i=>fplace 296 i) [.str [],.int .i64 0,.nilf] parts with
 | some cs=>some (.agg cs)
 | none=>none:=by kernel_rfl
theorem fp_296_0:fplace 296 0=some (0,1):=by kernel_rfl
theorem fp_296_1:fplace 296 1=some (1,1):=by kernel_rfl
theorem fp_296_2:fplace 296 2=some (2,1):=by kernel_rfl
theorem el_293:elemOf NC.P 293=some 296:=by kernel_rfl
theorem bs_97 (parts:List (Nat × AV)):abuild NC.P 97 parts=match afill (fun i=>fplace 97 i) [.int .i64 0,.int .i64 0,.bool false] parts with
 | some cs=>some (.agg cs)
 | none=>none:=by kernel_rfl
theorem fp_97_0:fplace 97 0=some (0,1):=by kernel_rfl
theorem fp_97_1:fplace 97 1=some (1,1):=by kernel_rfl
theorem fp_97_2:fplace 97 2=some (2,1):=by kernel_rfl
theorem bs_191 (parts:List (Nat × AV)):abuild NC.P 191 parts=match afill (fun i=>fplace 191 i) [.str [],.str [],.int .i64 0,.str [],.bool false] parts with
 | some cs=>some (.agg cs)
 | none=>none:=by kernel_rfl
theorem fp_191_0:fplace 191 0=some (0,1):=by kernel_rfl
theorem fp_191_1:fplace 191 1=some (1,1):=by kernel_rfl
theorem fp_191_2:fplace 191 2=some (2,1):=by kernel_rfl
theorem fp_191_3:fplace 191 3=some (3,1):=by kernel_rfl
theorem fp_191_4:fplace 191 4=some (4,1):=by kernel_rfl
theorem bs_193 (parts:List (Nat × AV)):abuild NC.P 193 parts=match afill (fun i=>fplace 193 i) [.str [],.str [],.str [],.int .i64 0,.int .i64 0] parts with
 | some cs=>some (.agg cs)
 | none=>none:=by kernel_rfl
theorem fp_193_0:fplace 193 0=some (0,1):=by kernel_rfl
theorem fp_193_1:fplace 193 1=some (1,1):=by kernel_rfl
theorem fp_193_2:fplace 193 2=some (2,1):=by kernel_rfl
theorem fp_193_3:fplace 193 3=some (3,2):=by kernel_rfl
theorem un_21:NC.P.underlying 21=some (.int .i32):=by kernel_rfl
theorem ze_316:zeroOf NC.P 316=some (.nilm):=by kernel_rfl
theorem sz_316:szOf NC.P 316=some 1:=by kernel_rfl
theorem ag_316:aggOf NC.P 316=some false:=by kernel_rfl
theorem un_359:NC.P.underlying 359=some (.int .u32):=by kernel_rfl
theorem un_361:NC.P.underlying 361=some (.int .u64):=by kernel_rfl
theorem fa_28_0 (id off:Nat):afieldAddr NC.P 28 (.ptr id off) 0=some (.ptr id (off+0)):=by kernel_rfl
theorem fb_28_0 (cs:List AV):afieldAddr NC.P 28 (.pptr cs) 0=some (.pptr (cs.drop 0)):=by kernel_rfl
theorem fa_30_0 (id off:Nat):afieldAddr NC.P 30 (.ptr id off) 0=some (.ptr id (off+0)):=by kernel_rfl
theorem fb_30_0 (cs:List AV):afieldAddr NC.P 30 (.pptr cs) 0=some (.pptr (cs.drop 0)):=by kernel_rfl
theorem fa_26_0 (id off:Nat):afieldAddr NC.P 26 (.ptr id off) 0=some (.ptr id (off+0)):=by kernel_rfl
theorem fb_26_0 (cs:List AV):afieldAddr NC.P 26 (.pptr cs) 0=some (.pptr (cs.drop 0)):=by kernel_rfl
theorem fa_62_1 (id off:Nat):afieldAddr NC.P 62 (.ptr id off) 1=some (.ptr id (off+1)):=by kernel_rfl
theorem fb_62_1 (cs:List AV):afieldAddr NC.P 62 (.pptr cs) 1=some (.pptr (cs.drop 1)):=by kernel_rfl
theorem fa_62_0 (id off:Nat):afieldAddr NC.P 62 (.ptr id off) 0=some (.ptr id (off+0)):=by kernel_rfl
theorem fb_62_0 (cs:List AV):afieldAddr NC.P 62 (.pptr cs) 0=some (.pptr (cs.drop 0)):=by kernel_rfl
theorem fa_56_0 (id off:Nat):afieldAddr NC.P 56 (.ptr id off) 0=some (.ptr id (off+0)):=by kernel_rfl
theorem fb_56_0 (cs:List AV):afieldAddr NC.P 56 (.pptr cs) 0=some (.pptr (cs.drop 0)):=by kernel_rfl
theorem fa_42_0 (id off:Nat):afieldAddr NC.P 42 (.ptr id off) 0=some (.ptr id (off+0)):=by kernel_rfl
theorem fb_42_0 (cs:List AV):afieldAddr NC.P 42 (.pptr cs) 0=some (.pptr (cs.drop 0)):=by kernel_rfl
theorem fa_42_1 (id off:Nat):afieldAddr NC.P 42 (.ptr id off) 1=some (.ptr id (off+1)):=by kernel_rfl
theorem fb_42_1 (cs:List AV):afieldAddr NC.P 42 (.pptr cs) 1=some (.pptr (cs.drop 1)):=by kernel_rfl
theorem fa_56_1 (id off:Nat):afieldAddr NC.P 56 (.ptr id off) 1=some (.ptr id (off+1)):=by kernel_rfl
theorem fb_56_1 (cs:List AV):afieldAddr NC.P 56 (.pptr cs) 1=some (.pptr (cs.drop 1)):=by kernel_rfl
theorem fa_42_2 (id off:Nat):afieldAddr NC.P 42 (.ptr id off) 2=some (.ptr id (off+2)):=by kernel_rfl
theorem fb_42_2 (cs:List AV):afieldAddr NC.P 42 (.pptr cs) 2=some (.pptr (cs.drop 2)):=by kernel_rfl
theorem fa_97_2 (id off:Nat):afieldAddr NC.P 97 (.ptr id off) 2=some (.ptr id (off+2)):=by kernel_rfl
theorem fb_97_2 (cs:List AV):afieldAddr NC.P 97 (.pptr cs) 2=some (.pptr (cs.drop 2)):=by kernel_rfl
theorem fa_97_1 (id off:Nat):afieldAddr NC.P 97 (.ptr id off) 1=some (.ptr id (off+1)):=by kernel_rfl
theorem fb_97_1 (cs:List AV):afieldAddr NC.P 97 (.pptr cs) 1=some (.pptr (cs.drop 1)):=by kernel_rfl
theorem fa_128_2 (id off:Nat):afieldAddr NC.P 128 (.ptr id off) 2=some (.ptr id (off+2)):=by kernel_rfl
theorem fb_128_2 (cs:List AV):afieldAddr NC.P 128 (.pptr cs) 2=some (.pptr (cs.drop 2)):=by kernel_rfl
theorem fa_128_0 (id off:Nat):afieldAddr NC.P 128 (.ptr id off) 0=some (.ptr id (off+0)):=by kernel_rfl
theorem fb_128_0 (cs:List AV):afieldAddr NC.P 128 (.pptr cs) 0=some (.pptr (cs.drop 0)):=by kernel_rfl
theorem fa_128_1 (id off:Nat):afieldAddr NC.P 128 (.ptr id off) 1=some (.ptr id (off+1)):=by kernel_rfl
theorem fb_128_1 (cs:List AV):afieldAddr NC.P 128 (.pptr cs) 1=some (.pptr (cs.drop 1)):=by kernel_rfl
theorem fa_45_0 (id off:Nat):afieldAddr NC.P 45 (.ptr id off) 0=some (.ptr id (off+0)):=by kernel_rfl
theorem fb_45_0 (cs:List AV):afieldAddr NC.P 45 (.pptr cs) 0=some (.pptr (cs.drop 0)):=by kernel_rfl
theorem fa_128_3 (id off:Nat):afieldAddr NC.P 128 (.ptr id off) 3=some (.ptr id (off+3)):=by kernel_rfl
theorem fb_128_3 (cs:List AV):afieldAddr NC.P 128 (.pptr cs) 3=some (.pptr (cs.drop 3)):=by kernel_rfl
theorem fa_45_1 (id off:Nat):afieldAddr NC.P 45 (.ptr id off) 1=some (.ptr id (off+1)):=by kernel_rfl
theorem fb_45_1 (cs:List AV):afieldAddr NC.P 45 (.pptr cs) 1=some (.pptr (cs.drop 1)):=by kernel_rfl
theorem fa_128_4 (id off:Nat):afieldAddr NC.P 128 (.ptr id off) 4=some (.ptr id (off+4)):=by kernel_rfl
theorem fb_128_4 (cs:List AV):afieldAddr NC.P 128 (.pptr cs) 4=some (.pptr (cs.drop 4)):=by kernel_rfl
theorem fa_130_2 (id off:Nat):afieldAddr NC.P 130 (.ptr id off) 2=some (.ptr id (off+2)):=by kernel_rfl
theorem fb_130_2 (cs:List AV):afieldAddr NC.P 130 (.pptr cs) 2=some (.pptr (cs.drop 2)):=by kernel_rfl
theorem fa_130_0 (id off:Nat):afieldAddr NC.P 130 (.ptr id off) 0=some (.ptr id (off+0)):=by kernel_rfl
theorem fb_130_0 (cs:List AV):afieldAddr NC.P 130 (.pptr cs) 0=some (.pptr (cs.drop 0)):=by kernel_rfl
theorem fa_130_1 (id off:Nat):afieldAddr NC.P 130 (.ptr id off) 1=some (.ptr id (off+1)):=by kernel_rfl
theorem fb_130_1 (cs:List AV):afieldAddr NC.P 130 (.pptr cs) 1=some (.pptr (cs.drop 1)):=by kernel_rfl
theorem fa_135_0 (id off:Nat):afieldAddr NC.P 135 (.ptr id off) 0=some (.ptr id (off+0)):=by kernel_rfl
theorem fb_135_0 (cs:List AV):afieldAddr NC.P 135 (.pptr cs) 0=some (.pptr (cs.drop 0)):=by kernel_rfl
theorem fa_135_1 (id off:Nat):afieldAddr NC.P 135 (.ptr id off) 1=some (.ptr id (off+1)):=by kernel_rfl
theorem fb_135_1 (cs:List AV):afieldAddr NC.P 135 (.pptr cs) 1=some (.pptr (cs.drop 1)):=by kernel_rfl
theorem fa_141_0 (id off:Nat):afieldAddr NC.P 141 (.ptr id off) 0=some (.ptr id (off+0)):=by kernel_rfl
theorem fb_141_0 (cs:List AV):afieldAddr NC.P 141 (.pptr cs) 0=some (.pptr (cs.drop 0)):=by kernel_rfl
theorem fa_157_0 (id off:Nat):afieldAddr NC.P 157 (.ptr id off) 0=some (.ptr id (off+0)):=by kernel_rfl
theorem fb_157_0 (cs:List AV):afieldAddr NC.P 157 (.pptr cs) 0=some (.pptr (cs.drop 0)):=by kernel_rfl
theorem fa_157_2 (id off:Nat):afieldAddr NC.P 157 (.ptr id off) 2=some (.ptr id (off+2)):=by kernel_rfl
theorem fb_157_2 (cs:List AV):afieldAddr NC.P 157 (.pptr cs) 2=some (.pptr (cs.drop 2)):=by kernel_rfl
theorem fa_157_1 (id off:Nat):afieldAddr NC.P 157 (.ptr id off) 1=some (.ptr id (off+1)):=by kernel_rfl
theorem fb_157_1 (cs:List AV):afieldAddr NC.P 157 (.pptr cs) 1=some (.pptr (cs.drop 1)):=by kernel_rfl
theorem fa_26_1 (id off:Nat):afieldAddr NC.P 26 (.ptr id off) 1=some (.ptr id (off+1)):=by kernel_rfl
theorem fb_26_1 (cs:List AV):afieldAddr NC.P 26 (.pptr cs) 1=some (.pptr (cs.drop 1)):=by kernel_rfl
theorem fa_26_2 (id off:Nat):afieldAddr NC.P 26 (.ptr id off) 2=some (.ptr id (off+2)):=by kernel_rfl
theorem fb_26_2 (cs:List AV):afieldAddr NC.P 26 (.pptr cs) 2=some (.pptr (cs.drop 2)):=by kernel_rfl
theorem fa_191_0 (id off:Nat):afieldAddr NC.P 191 (.ptr id off) 0=some (.ptr id (off+0)):=by kernel_rfl
theorem fb_191_0 (cs:List AV):afieldAddr NC.P 191 (.pptr cs) 0=some (.pptr (cs.drop 0)):=by kernel_rfl
theorem fa_191_1 (id off:Nat):afieldAddr NC.P 191 (.ptr id off) 1=some (.ptr id (off+1)):=by kernel_rfl
theorem fb_191_1 (cs:List AV):afieldAddr NC.P 191 (.pptr cs) 1=some (.pptr (cs.drop 1)):=by kernel_rfl
theorem fa_191_3 (id off:Nat):afieldAddr NC.P 191 (.ptr id off) 3=some (.ptr id (off+3)):=by kernel_rfl
theorem fb_191_3 (cs:List AV):afieldAddr NC.P 191 (.pptr cs) 3=some (.pptr (cs.drop 3)):=by kernel_rfl
theorem fa_193_0 (id off:Nat):afieldAddr NC.P 193 (.ptr id off) 0=some (.ptr id (off+0)):=by kernel_rfl
theorem fb_193_0 (cs:List AV):afieldAddr NC.P 193 (.pptr cs) 0=some (.pptr (cs.drop 0)):=by kernel_rfl
theorem fa_193_1 (id off:Nat):afieldAddr NC.P 193 (.ptr id off) 1=some (.ptr id (off+1)):=by kernel_rfl
theorem fb_193_1 (cs:List AV):afieldAddr NC.P 193 (.pptr cs) 1=some (.pptr (cs.drop 1)):=by kernel_rfl
theorem fa_193_2 (id off:Nat):afieldAddr NC.P 193 (.ptr id off) 2=some (.ptr id (off+2)):=by kernel_rfl
theorem fb_193_2 (cs:List AV):afieldAddr NC.P 193 (.pptr cs) 2=some (.pptr (cs.drop 2)):=by kernel_rfl
theorem fa_196_1 (id off:Nat):afieldAddr NC.P 196 (.ptr id off) 1=some (.ptr id (off+1)):=by kernel_rfl
theorem fb_196_1 (cs:List AV):afieldAddr NC.P 196 (.pptr cs) 1=some (.pptr (cs.drop 1)):=by kernel_rfl
theorem fa_40_0 (id off:Nat):afieldAddr NC.P 40 (.ptr id off) 0=some (.ptr id (off+0)):=by kernel_rfl
theorem fb_40_0 (cs:List AV):afieldAddr NC.P 40 (.pptr cs) 0=some (.pptr (cs.drop 0)):=by kernel_rfl
theorem fa_40_1 (id off:Nat):afieldAddr NC.P 40 (.ptr id off) 1=some (.ptr id (off+1)):=by kernel_rfl
theorem fb_40_1 (cs:List AV):afieldAddr NC.P 40 (.pptr cs) 1=some (.pptr (cs.drop 1)):=by kernel_rfl
theorem fa_40_2 (id off:Nat):afieldAddr NC.P 40 (.ptr id off) 2=some (.ptr id (off+2)):=by kernel_rfl
theorem fb_40_2 (cs:List AV):afieldAddr NC.P 40 (.pptr cs) 2=some (.pptr (cs.drop 2)):=by kernel_rfl
theorem fa_28_1 (id off:Nat):afieldAddr NC.P 28 (.ptr id off) 1=some (.ptr id (off+1)):=by kernel_rfl
theorem fb_28_1 (cs:List AV):afieldAddr NC.P 28 (.pptr cs) 1=some (.pptr (cs.drop 1)):=by kernel_rfl
theorem fa_30_1 (id off:Nat):afieldAddr NC.P 30 (.ptr id off) 1=some (.ptr id (off+1)):=by kernel_rfl
theorem fb_30_1 (cs:List AV):afieldAddr NC.P 30 (.pptr cs) 1=some (.pptr (cs.drop 1)):=by kernel_rfl
theorem fa_30_2 (id off:Nat):afieldAddr NC.P 30 (.ptr id off) 2=some (.ptr id (off+2)):=by kernel_rfl
theorem fb_30_2 (cs:List AV):afieldAddr NC.P 30 (.pptr cs) 2=some (.pptr (cs.drop 2)):=by kernel_rfl
theorem fa_97_0 (id off:Nat):afieldAddr NC.P 97 (.ptr id off) 0=some (.ptr id (off+0)):=by kernel_rfl
theorem fb_97_0 (cs:List AV):afieldAddr NC.P 97 (.pptr cs) 0=some (.pptr (cs.drop 0)):=by kernel_rfl
theorem fa_220_1 (id off:Nat):afieldAddr NC.P 220 (.ptr id off) 1=some (.ptr id (off+2)):=by kernel_rfl
theorem fb_220_1 (cs:List AV):afieldAddr NC.P 220 (.pptr cs) 1=some (.pptr (cs.drop 2)):=by kernel_rfl
theorem fa_220_0 (id off:Nat):afieldAddr NC.P 220 (.ptr id off) 0=some (.ptr id (off+0)):=by kernel_rfl
theorem fb_220_0 (cs:List AV):afieldAddr NC.P 220 (.pptr cs) 0=some (.pptr (cs.drop 0)):=by kernel_rfl
theorem fa_196_0 (id off:Nat):afieldAddr NC.P 196 (.ptr id off) 0=some (.ptr id (off+0)):=by kernel_rfl
theorem fb_196_0 (cs:List AV):afieldAddr NC.P 196 (.pptr cs) 0=some (.pptr (cs.drop 0)):=by kernel_rfl
theorem fa_183_0 (id off:Nat):afieldAddr NC.P 183 (.ptr id off) 0=some (.ptr id (off+0)):=by kernel_rfl
theorem fb_183_0 (cs:List AV):afieldAddr NC.P 183 (.pptr cs) 0=some (.pptr (cs.drop 0)):=by kernel_rfl
theorem fa_224_1 (id off:Nat):afieldAddr NC.P 224 (.ptr id off) 1=some (.ptr id (off+1)):=by kernel_rfl
theorem fb_224_1 (cs:List AV):afieldAddr NC.P 224 (.pptr cs) 1=some (.pptr (cs.drop 1)):=by kernel_rfl
theorem fa_183_1 (id off:Nat):afieldAddr NC.P 183 (.ptr id off) 1=some (.ptr id (off+1)):=by kernel_rfl
theorem fb_183_1 (cs:List AV):afieldAddr NC.P 183 (.pptr cs) 1=some (.pptr (cs.drop 1)):=by kernel_rfl
theorem fa_202_1 (id off:Nat):afieldAddr NC.P 202 (.ptr id off) 1=some (.ptr id (off+1)):=by kernel_rfl
theorem fb_202_1 (cs:List AV):afieldAddr NC.P 202 (.pptr cs) 1=some (.pptr (cs.drop 1)):=by kernel_rfl
theorem fa_202_2 (id off:Nat):afieldAddr NC.P 202 (.ptr id off) 2=some (.ptr id (off+2)):=by kernel_rfl
theorem fb_202_2 (cs:List AV):afieldAddr NC.P 202 (.pptr cs) 2=some (.pptr (cs.drop 2)):=by kernel_rfl
theorem fa_202_3 (id off:Nat):afieldAddr NC.P 202 (.ptr id off) 3=some (.ptr id (off+3)):=by kernel_rfl
theorem fb_202_3 (cs:List AV):afieldAddr NC.P 202 (.pptr cs) 3=some (.pptr (cs.drop 3)):=by kernel_rfl
theorem fa_202_0 (id off:Nat):afieldAddr NC.P 202 (.ptr id off) 0=some (.ptr id (off+0)):=by kernel_rfl
theorem fb_202_0 (cs:List AV):afieldAddr NC.P 202 (.pptr cs) 0=some (.pptr (cs.drop 0)):=by kernel_rfl
theorem fa_185_1 (id off:Nat):afieldAddr NC.P 185 (.ptr id off) 1=some (.ptr id (off+1)):=by kernel_rfl
theorem fb_185_1 (cs:List AV):afieldAddr NC.P 185 (.pptr cs) 1=some (.pptr (cs.drop 1)):=by kernel_rfl
theorem fa_193_3 (id off:Nat):afieldAddr NC.P 193 (.ptr id off) 3=some (.ptr id (off+3)):=by kernel_rfl
theorem fb_193_3 (cs:List AV):afieldAddr NC.P 193 (.pptr cs) 3=some (.pptr (cs.drop 3)):=by kernel_rfl
theorem fa_128_5 (id off:Nat):afieldAddr NC.P 128 (.ptr id off) 5=some (.ptr id (off+5)):=by kernel_rfl
theorem fb_128_5 (cs:List AV):afieldAddr NC.P 128 (.pptr cs) 5=some (.pptr (cs.drop 5)):=by kernel_rfl
theorem fa_135_2 (id off:Nat):afieldAddr NC.P 135 (.ptr id off) 2=some (.ptr id (off+4)):=by kernel_rfl
theorem fb_135_2 (cs:List AV):afieldAddr NC.P 135 (.pptr cs) 2=some (.pptr (cs.drop 4)):=by kernel_rfl
theorem fa_188_1 (id off:Nat):afieldAddr NC.P 188 (.ptr id off) 1=some (.ptr id (off+1)):=by kernel_rfl
theorem fb_188_1 (cs:List AV):afieldAddr NC.P 188 (.pptr cs) 1=some (.pptr (cs.drop 1)):=by kernel_rfl
theorem fa_188_2 (id off:Nat):afieldAddr NC.P 188 (.ptr id off) 2=some (.ptr id (off+4)):=by kernel_rfl
theorem fb_188_2 (cs:List AV):afieldAddr NC.P 188 (.pptr cs) 2=some (.pptr (cs.drop 4)):=by kernel_rfl
theorem fa_188_0 (id off:Nat):afieldAddr NC.P 188 (.ptr id off) 0=some (.ptr id (off+0)):=by kernel_rfl
theorem fb_188_0 (cs:List AV):afieldAddr NC.P 188 (.pptr cs) 0=some (.pptr (cs.drop 0)):=by kernel_rfl
theorem fa_246_0 (id off:Nat):afieldAddr NC.P 246 (.ptr id off) 0=some (.ptr id (off+0)):=by kernel_rfl
theorem fb_246_0 (cs:List AV):afieldAddr NC.P 246 (.pptr cs) 0=some (.pptr (cs.drop 0)):=by kernel_rfl
theorem fa_246_1 (id off:Nat):afieldAddr NC.P 246 (.ptr id off) 1=some (.ptr id (off+1)):=by kernel_rfl
theorem fb_246_1 (cs:List AV):afieldAddr NC.P 246 (.pptr cs) 1=some (.pptr (cs.drop 1)):=by kernel_rfl
theorem fa_141_1 (id off:Nat):afieldAddr NC.P 141 (.ptr id off) 1=some (.ptr id (off+1)):=by kernel_rfl
theorem fb_141_1 (cs:List AV):afieldAddr NC.P 141 (.pptr cs) 1=some (.pptr (cs.drop 1)):=by kernel_rfl
theorem fa_141_2 (id off:Nat):afieldAddr NC.P 141 (.ptr id off) 2=some (.ptr id (off+2)):=by kernel_rfl
theorem fb_141_2 (cs:List AV):afieldAddr NC.P 141 (.pptr cs) 2=some (.pptr (cs.drop 2)):=by kernel_rfl
theorem fa_224_0 (id off:Nat):afieldAddr NC.P 224 (.ptr id off) 0=some (.ptr id (off+0)):=by kernel_rfl
theorem fb_224_0 (cs:List AV):afieldAddr NC.P 224 (.pptr cs) 0=some (.pptr (cs.drop 0)):=by kernel_rfl
theorem fa_200_0 (id off:Nat):afieldAddr NC.P 200 (.ptr id off) 0=some (.ptr id (off+0)):=by kernel_rfl
theorem fb_200_0 (cs:List AV):afieldAddr NC.P 200 (.pptr cs) 0=some (.pptr (cs.drop 0)):=by kernel_rfl
theorem fa_200_1 (id off:Nat):afieldAddr NC.P 200 (.ptr id off) 1=some (.ptr id (off+1)):=by kernel_rfl
theorem fb_200_1 (cs:List AV):afieldAddr NC.P 200 (.pptr cs) 1=some (.pptr (cs.drop 1)):=by kernel_rfl
theorem fa_200_2 (id off:Nat):afieldAddr NC.P 200 (.ptr id off) 2=some (.ptr id (off+2)):=by kernel_rfl
theorem fb_200_2 (cs:List AV):afieldAddr NC.P 200 (.pptr cs) 2=some (.pptr (cs.drop 2)):=by kernel_rfl
theorem fa_201_0 (id off:Nat):afieldAddr NC.P 201 (.ptr id off) 0=some (.ptr id (off+0)):=by kernel_rfl
theorem fb_201_0 (cs:List AV):afieldAddr NC.P 201 (.pptr cs) 0=some (.pptr (cs.drop 0)):=by kernel_rfl
theorem fa_201_1 (id off:Nat):afieldAddr NC.P 201 (.ptr id off) 1=some (.ptr id (off+1)):=by kernel_rfl
theorem fb_201_1 (cs:List AV):afieldAddr NC.P 201 (.pptr cs) 1=some (.pptr (cs.drop 1)):=by kernel_rfl
theorem fa_201_2 (id off:Nat):afieldAddr NC.P 201 (.ptr id off) 2=some (.ptr id (off+2)):=by kernel_rfl
theorem fb_201_2 (cs:List AV):afieldAddr NC.P 201 (.pptr cs) 2=some (.pptr (cs.drop 2)):=by kernel_rfl
theorem fa_201_3 (id off:Nat):afieldAddr NC.P 201 (.ptr id off) 3=some (.ptr id (off+3)):=by kernel_rfl
theorem fb_201_3 (cs:List AV):afieldAddr NC.P 201 (.pptr cs) 3=some (.pptr (cs.drop 3)):=by kernel_rfl
theorem fa_201_4 (id off:Nat):afieldAddr NC.P 201 (.ptr id off) 4=some (.ptr id (off+4)):=by kernel_rfl
theorem fb_201_4 (cs:List AV):afieldAddr NC.P 201 (.pptr cs) 4=some (.pptr (cs.drop 4)):=by kernel_rfl
theorem fa_296_1 (id off:Nat):afieldAddr NC.P 296 (.ptr id off) 1=some (.ptr id (off+1)):=by kernel_rfl
theorem fb_296_1 (cs:List AV):afieldAddr NC.P 296 (.pptr cs) 1=some (.pptr (cs.drop 1)):=by kernel_rfl
theorem fa_296_2 (id off:Nat):afieldAddr NC.P 296 (.ptr id off) 2=some (.ptr id (off+2)):=by kernel_rfl
theorem fb_296_2 (cs:List AV):afieldAddr NC.P 296 (.pptr cs) 2=some (.pptr (cs.drop 2)):=by kernel_rfl
theorem fa_291_1 (id off:Nat):afieldAddr NC.P 291 (.ptr id off) 1=some (.ptr id (off+1)):=by kernel_rfl
theorem fb_291_1 (cs:List AV):afieldAddr NC.P 291 (.pptr cs) 1=some (.pptr (cs.drop 1)):=by kernel_rfl
theorem fa_291_0 (id off:Nat):afieldAddr NC.P 291 (.ptr id off) 0=some (.ptr id (off+0)):=by kernel_rfl
theorem fb_291_0 (cs:List AV):afieldAddr NC.P 291 (.pptr cs) 0=some (.pptr (cs.drop 0)):=by kernel_rfl
theorem fa_191_2 (id off:Nat):afieldAddr NC.P 191 (.ptr id off) 2=some (.ptr id (off+2)):=by kernel_rfl
theorem fb_191_2 (cs:List AV):afieldAddr NC.P 191 (.pptr cs) 2=some (.pptr (cs.drop 2)):=by kernel_rfl
theorem fa_191_4 (id off:Nat):afieldAddr NC.P 191 (.ptr id off) 4=some (.ptr id (off+4)):=by kernel_rfl
theorem fb_191_4 (cs:List AV):afieldAddr NC.P 191 (.pptr cs) 4=some (.pptr (cs.drop 4)):=by kernel_rfl
theorem fa_130_3 (id off:Nat):afieldAddr NC.P 130 (.ptr id off) 3=some (.ptr id (off+3)):=by kernel_rfl
theorem fb_130_3 (cs:List AV):afieldAddr NC.P 130 (.pptr cs) 3=some (.pptr (cs.drop 3)):=by kernel_rfl
theorem fa_130_4 (id off:Nat):afieldAddr NC.P 130 (.ptr id off) 4=some (.ptr id (off+4)):=by kernel_rfl
theorem fb_130_4 (cs:List AV):afieldAddr NC.P 130 (.pptr cs) 4=some (.pptr (cs.drop 4)):=by kernel_rfl
theorem fa_130_5 (id off:Nat):afieldAddr NC.P 130 (.ptr id off) 5=some (.ptr id (off+5)):=by kernel_rfl
theorem fb_130_5 (cs:List AV):afieldAddr NC.P 130 (.pptr cs) 5=some (.pptr (cs.drop 5)):=by kernel_rfl
theorem fa_262_1 (id off:Nat):afieldAddr NC.P 262 (.ptr id off) 1=some (.ptr id (off+5)):=by kernel_rfl
theorem fb_262_1 (cs:List AV):afieldAddr NC.P 262 (.pptr cs) 1=some (.pptr (cs.drop 5)):=by kernel_rfl
theorem fa_262_0 (id off:Nat):afieldAddr NC.P 262 (.ptr id off) 0=some (.ptr id (off+0)):=by kernel_rfl
theorem fb_262_0 (cs:List AV):afieldAddr NC.P 262 (.pptr cs) 0=some (.pptr (cs.drop 0)):=by kernel_rfl
theorem fa_272_1 (id off:Nat):afieldAddr NC.P 272 (.ptr id off) 1=some (.ptr id (off+1)):=by kernel_rfl
theorem fb_272_1 (cs:List AV):afieldAddr NC.P 272 (.pptr cs) 1=some (.pptr (cs.drop 1)):=by kernel_rfl
theorem fa_296_0 (id off:Nat):afieldAddr NC.P 296 (.ptr id off) 0=some (.ptr id (off+0)):=by kernel_rfl
theorem fb_296_0 (cs:List AV):afieldAddr NC.P 296 (.pptr cs) 0=some (.pptr (cs.drop 0)):=by kernel_rfl
theorem pl_15_13 (P:FuncId→Option (List AV→Option AV)):(NC.withPrims P).plans 15 13=[⟨.data,0,0,[]⟩,⟨.data,0,1,[]⟩,⟨.data,0,3,[]⟩,⟨.data,0,7,[]⟩,⟨.data,0,15,[]⟩,⟨.data,0,31,[]⟩,⟨.data,0,63,[]⟩,⟨.data,0,127,[]⟩,⟨.data,0,255,[]⟩,⟨.data,0,511,[]⟩,⟨.data,0,1023,[]⟩,⟨.load,0,2047,[]⟩,⟨.read,0,4095,[]⟩,⟨.load,0,2047,[]⟩,⟨.read,0,16383,[]⟩,⟨.data,0,32767,[]⟩,⟨.data,0,65535,[]⟩,⟨.data,0,131071,[]⟩,⟨.data,0,262143,[]⟩,⟨.read,0,524287,[]⟩,⟨.read,0,1048575,[]⟩,⟨.data,0,262143,[]⟩,⟨.data,0,2359295,[]⟩,⟨.data,0,8388607,[]⟩,⟨.data,0,16777215,[]⟩]:=by kernel_rfl
theorem pl_29_4 (P:FuncId→Option (List AV→Option AV)):(NC.withPrims P).plans 29 4=[⟨.load,0,0,[]⟩,⟨.read,0,1,[]⟩,⟨.load,0,0,[]⟩,⟨.read,0,7,[]⟩,⟨.data,0,15,[]⟩,⟨.read,0,31,[]⟩,⟨.data,0,63,[]⟩]:=by kernel_rfl
theorem pl_87_13 (P:FuncId→Option (List AV→Option AV)):(NC.withPrims P).plans 87 13=[⟨.data,0,0,[]⟩,⟨.data,0,0,[]⟩,⟨.load,0,2,[]⟩,⟨.read,0,6,[]⟩,⟨.data,0,0,[]⟩,⟨.load,0,16,[]⟩,⟨.read,0,62,[]⟩,⟨.load,0,0,[]⟩,⟨.data,0,0,[]⟩,⟨.load,0,256,[]⟩,⟨.read,0,1022,[]⟩,⟨.data,0,2046,[]⟩,⟨.write,0,4095,[]⟩]:=by kernel_rfl
theorem pl_87_19 (P:FuncId→Option (List AV→Option AV)):(NC.withPrims P).plans 87 19=[⟨.data,0,0,[]⟩,⟨.data,0,0,[]⟩,⟨.load,0,2,[]⟩,⟨.data,0,0,[]⟩,⟨.load,0,8,[]⟩,⟨.data,0,0,[]⟩,⟨.load,0,32,[]⟩,⟨.read,0,96,[]⟩,⟨.data,0,0,[]⟩,⟨.load,0,256,[]⟩,⟨.load,0,0,[]⟩,⟨.data,0,0,[]⟩,⟨.load,0,2048,[]⟩,⟨.read,0,7392,[]⟩,⟨.data,0,16382,[]⟩,⟨.write,0,32767,[]⟩]:=by kernel_rfl
theorem pl_87_24 (P:FuncId→Option (List AV→Option AV)):(NC.withPrims P).plans 87 24=[⟨.data,0,0,[]⟩,⟨.data,0,0,[]⟩,⟨.load,0,2,[]⟩,⟨.data,0,0,[]⟩,⟨.load,0,8,[]⟩,⟨.data,0,0,[]⟩,⟨.load,0,32,[]⟩,⟨.data,0,0,[]⟩,⟨.data,0,128,[]⟩,⟨.load,0,384,[]⟩,⟨.read,0,896,[]⟩,⟨.data,0,0,[]⟩,⟨.data,0,2048,[]⟩,⟨.load,0,6144,[]⟩,⟨.read,0,16256,[]⟩,⟨.data,0,32766,[]⟩,⟨.write,0,65535,[]⟩]:=by kernel_rfl
theorem pl_88_11 (P:FuncId→Option (List AV→Option AV)):(NC.withPrims P).plans 88 11=[⟨.data,0,0,[]⟩,⟨.data,0,1,[]⟩,⟨.data,0,3,[]⟩,⟨.data,0,7,[]⟩,⟨.data,0,15,[]⟩,⟨.data,0,31,[]⟩,⟨.data,0,63,[]⟩,⟨.read,0,127,[]⟩,⟨.data,0,127,[]⟩,⟨.data,0,511,[]⟩,⟨.data,0,1023,[]⟩,⟨.load,0,2047,[]⟩,⟨.load,0,127,[]⟩,⟨.data,0,8191,[]⟩,⟨.data,0,16383,[]⟩]:=by kernel_rfl
theorem pl_88_12 (P:FuncId→Option (List AV→Option AV)):(NC.withPrims P).plans 88 12=[⟨.data,0,0,[]⟩,⟨.load,0,0,[]⟩,⟨.writeAt,0,1,[1]⟩,⟨.writeAt,1,7,[]⟩,⟨.writeAt,2,15,[]⟩]:=by kernel_rfl
theorem pl_88_16 (P:FuncId→Option (List AV→Option AV)):(NC.withPrims P).plans 88 16=[⟨.data,0,0,[]⟩,⟨.load,0,0,[]⟩,⟨.writeAt,0,1,[1]⟩,⟨.writeAt,1,7,[]⟩,⟨.writeAt,2,15,[]⟩]:=by kernel_rfl
theorem pl_88_20 (P:FuncId→Option (List AV→Option AV)):(NC.withPrims P).plans 88 20=[⟨.data,0,0,[]⟩,⟨.load,0,0,[]⟩,⟨.data,0,0,[]⟩,⟨.writeAt,0,1,[1]⟩,⟨.writeAt,1,11,[]⟩,⟨.writeAt,2,31,[]⟩]:=by kernel_rfl
theorem pl_91_6 (P:FuncId→Option (List AV→Option AV)):(NC.withPrims P).plans 91 6=[⟨.data,0,0,[]⟩,⟨.load,0,1,[]⟩,⟨.data,0,0,[]⟩,⟨.data,0,7,[]⟩,⟨.data,0,15,[]⟩,⟨.load,0,31,[]⟩,⟨.data,0,0,[]⟩,⟨.load,0,64,[]⟩,⟨.data,0,0,[]⟩,⟨.data,0,448,[]⟩,⟨.data,0,960,[]⟩,⟨.load,0,1984,[]⟩,⟨.data,0,4095,[]⟩,⟨.data,0,8191,[]⟩,⟨.data,0,16383,[]⟩,⟨.load,0,32767,[]⟩,⟨.data,0,16383,[]⟩,⟨.data,0,131071,[]⟩,⟨.data,0,262143,[]⟩,⟨.load,0,524287,[]⟩,⟨.read,0,1048575,[]⟩,⟨.data,0,16383,[]⟩,⟨.load,0,2113535,[]⟩,⟨.data,0,16383,[]⟩,⟨.data,0,14696447,[]⟩,⟨.data,0,31473663,[]⟩,⟨.load,0,65028095,[]⟩,⟨.read,0,132136959,[]⟩,⟨.data,0,268435455,[]⟩,⟨.data,0,536870911,[]⟩]:=by kernel_rfl
theorem pl_91_11 (P:FuncId→Option (List AV→Option AV)):(NC.withPrims P).plans 91 11=[⟨.data,0,0,[]⟩,⟨.load,0,1,[]⟩,⟨.data,0,0,[]⟩,⟨.data,0,7,[]⟩,⟨.data,0,15,[]⟩,⟨.load,0,31,[]⟩,⟨.data,0,0,[]⟩,⟨.data,0,127,[]⟩,⟨.load,0,255,[]⟩,⟨.data,0,0,[]⟩,⟨.load,0,512,[]⟩,⟨.data,0,0,[]⟩,⟨.data,0,3584,[]⟩,⟨.data,0,7680,[]⟩,⟨.load,0,15872,[]⟩,⟨.data,0,0,[]⟩,⟨.data,0,65024,[]⟩,⟨.load,0,130560,[]⟩,⟨.data,0,262143,[]⟩]:=by kernel_rfl
theorem pl_91_16 (P:FuncId→Option (List AV→Option AV)):(NC.withPrims P).plans 91 16=[⟨.data,0,0,[]⟩,⟨.load,0,1,[]⟩,⟨.data,0,0,[]⟩,⟨.data,0,7,[]⟩,⟨.load,0,15,[]⟩,⟨.data,0,0,[]⟩,⟨.load,0,32,[]⟩,⟨.data,0,0,[]⟩,⟨.data,0,224,[]⟩,⟨.load,0,480,[]⟩,⟨.data,0,1023,[]⟩]:=by kernel_rfl
theorem pl_91_21 (P:FuncId→Option (List AV→Option AV)):(NC.withPrims P).plans 91 21=[⟨.data,0,0,[]⟩,⟨.load,0,1,[]⟩,⟨.data,0,0,[]⟩,⟨.data,0,7,[]⟩,⟨.load,0,15,[]⟩,⟨.data,0,0,[]⟩,⟨.load,0,32,[]⟩,⟨.data,0,0,[]⟩,⟨.data,0,224,[]⟩,⟨.load,0,480,[]⟩,⟨.data,0,1023,[]⟩]:=by kernel_rfl
theorem pl_100_2 (P:FuncId→Option (List AV→Option AV)):(NC.withPrims P).plans 100 2=[⟨.data,0,0,[]⟩,⟨.data,0,1,[]⟩,⟨.read,0,3,[]⟩,⟨.load,0,0,[]⟩,⟨.data,0,0,[]⟩,⟨.load,0,16,[]⟩,⟨.read,0,63,[]⟩,⟨.data,0,127,[]⟩,⟨.read,0,255,[]⟩,⟨.data,0,511,[]⟩,⟨.read,0,1023,[]⟩,⟨.data,0,2047,[]⟩]:=by kernel_rfl
theorem pl_101_8 (P:FuncId→Option (List AV→Option AV)):(NC.withPrims P).plans 101 8=[⟨.load,0,0,[]⟩,⟨.data,0,0,[]⟩,⟨.load,0,2,[]⟩,⟨.load,0,0,[]⟩,⟨.read,0,8,[]⟩,⟨.data,0,0,[]⟩,⟨.load,0,32,[]⟩,⟨.data,0,0,[]⟩,⟨.data,0,224,[]⟩,⟨.data,0,504,[]⟩,⟨.data,0,1022,[]⟩,⟨.data,0,1,[]⟩,⟨.writeAt,0,2073,[6,2]⟩,⟨.data,1,8191,[]⟩,⟨.writeAt,1,16383,[]⟩]:=by kernel_rfl
theorem pl_102_2 (P:FuncId→Option (List AV→Option AV)):(NC.withPrims P).plans 102 2=[⟨.data,0,0,[]⟩,⟨.data,0,1,[]⟩,⟨.read,0,3,[]⟩,⟨.data,0,0,[]⟩,⟨.load,0,8,[]⟩,⟨.data,0,24,[]⟩,⟨.data,0,63,[]⟩,⟨.data,0,127,[]⟩,⟨.load,0,255,[]⟩,⟨.data,0,127,[]⟩,⟨.load,0,639,[]⟩,⟨.read,0,1663,[]⟩,⟨.data,0,4095,[]⟩,⟨.data,0,8191,[]⟩,⟨.read,0,16383,[]⟩,⟨.data,0,32767,[]⟩,⟨.read,0,65535,[]⟩,⟨.data,0,131071,[]⟩]:=by kernel_rfl
theorem pl_103_2 (P:FuncId→Option (List AV→Option AV)):(NC.withPrims P).plans 103 2=[⟨.data,0,0,[]⟩,⟨.load,0,1,[]⟩,⟨.read,0,3,[]⟩,⟨.load,0,0,[]⟩,⟨.data,0,0,[]⟩,⟨.load,0,16,[]⟩,⟨.read,0,63,[]⟩,⟨.data,0,0,[]⟩,⟨.data,0,255,[]⟩,⟨.read,0,511,[]⟩,⟨.data,0,0,[]⟩,⟨.load,0,1024,[]⟩,⟨.read,0,3072,[]⟩,⟨.data,0,7168,[]⟩,⟨.read,0,16383,[]⟩,⟨.data,0,0,[]⟩,⟨.load,0,32768,[]⟩,⟨.read,0,98304,[]⟩,⟨.data,0,229376,[]⟩,⟨.read,0,524287,[]⟩,⟨.data,0,1048575,[]⟩,⟨.read,0,2097151,[]⟩,⟨.data,0,4194303,[]⟩]:=by kernel_rfl
theorem pl_104_8 (P:FuncId→Option (List AV→Option AV)):(NC.withPrims P).plans 104 8=[⟨.data,0,0,[]⟩,⟨.load,0,1,[]⟩,⟨.data,0,0,[]⟩,⟨.data,0,7,[]⟩,⟨.data,0,15,[]⟩,⟨.load,0,31,[]⟩,⟨.data,0,0,[]⟩,⟨.load,0,64,[]⟩,⟨.data,0,255,[]⟩]:=by kernel_rfl
theorem pl_104_10 (P:FuncId→Option (List AV→Option AV)):(NC.withPrims P).plans 104 10=[⟨.load,0,0,[]⟩,⟨.data,0,0,[]⟩,⟨.load,0,2,[]⟩,⟨.data,0,0,[]⟩,⟨.load,0,8,[]⟩,⟨.read,0,31,[]⟩,⟨.load,0,0,[]⟩,⟨.data,0,0,[]⟩,⟨.load,0,128,[]⟩,⟨.read,0,511,[]⟩,⟨.data,0,1023,[]⟩,⟨.read,0,2047,[]⟩,⟨.data,0,0,[]⟩,⟨.load,0,4096,[]⟩,⟨.data,0,0,[]⟩,⟨.load,0,16384,[]⟩,⟨.data,0,61440,[]⟩,⟨.read,0,131071,[]⟩,⟨.data,0,262143,[]⟩,⟨.read,0,524287,[]⟩,⟨.data,0,1048575,[]⟩]:=by kernel_rfl
theorem pl_105_8 (P:FuncId→Option (List AV→Option AV)):(NC.withPrims P).plans 105 8=[⟨.data,0,0,[]⟩,⟨.load,0,1,[]⟩,⟨.data,0,0,[]⟩,⟨.data,0,7,[]⟩,⟨.data,0,15,[]⟩,⟨.load,0,31,[]⟩,⟨.data,0,0,[]⟩,⟨.load,0,64,[]⟩,⟨.data,0,255,[]⟩]:=by kernel_rfl
theorem pl_105_10 (P:FuncId→Option (List AV→Option AV)):(NC.withPrims P).plans 105 10=[⟨.data,0,0,[]⟩,⟨.load,0,1,[]⟩,⟨.read,0,3,[]⟩,⟨.data,0,7,[]⟩,⟨.read,0,15,[]⟩,⟨.load,0,0,[]⟩,⟨.data,0,0,[]⟩,⟨.load,0,64,[]⟩,⟨.data,0,0,[]⟩,⟨.load,0,256,[]⟩,⟨.read,0,1023,[]⟩,⟨.data,0,2047,[]⟩,⟨.read,0,4095,[]⟩,⟨.data,0,8191,[]⟩]:=by kernel_rfl
theorem pl_110_8 (P:FuncId→Option (List AV→Option AV)):(NC.withPrims P).plans 110 8=[⟨.data,0,0,[]⟩,⟨.load,0,1,[]⟩,⟨.read,0,3,[]⟩,⟨.data,0,0,[]⟩,⟨.data,0,0,[]⟩,⟨.load,0,16,[]⟩,⟨.read,0,56,[]⟩,⟨.read,0,127,[]⟩,⟨.data,0,0,[]⟩,⟨.load,0,256,[]⟩,⟨.read,0,768,[]⟩,⟨.data,0,1792,[]⟩,⟨.read,0,4095,[]⟩,⟨.data,0,0,[]⟩,⟨.load,0,8192,[]⟩,⟨.read,0,24576,[]⟩,⟨.data,0,57344,[]⟩,⟨.read,0,131071,[]⟩,⟨.data,0,262143,[]⟩,⟨.read,0,524287,[]⟩,⟨.data,0,1048575,[]⟩]:=by kernel_rfl
theorem pl_112_9 (P:FuncId→Option (List AV→Option AV)):(NC.withPrims P).plans 112 9=[⟨.data,0,0,[]⟩,⟨.load,0,1,[]⟩,⟨.read,0,3,[]⟩,⟨.data,0,0,[]⟩,⟨.data,0,0,[]⟩,⟨.load,0,16,[]⟩,⟨.read,0,56,[]⟩,⟨.read,0,127,[]⟩,⟨.data,0,0,[]⟩,⟨.data,0,256,[]⟩,⟨.read,0,1023,[]⟩,⟨.load,0,0,[]⟩,⟨.data,0,0,[]⟩,⟨.load,0,4096,[]⟩,⟨.read,0,16383,[]⟩,⟨.data,0,32767,[]⟩,⟨.read,0,65535,[]⟩,⟨.data,0,0,[]⟩,⟨.data,0,131072,[]⟩,⟨.read,0,524287,[]⟩,⟨.data,0,0,[]⟩,⟨.load,0,1048576,[]⟩,⟨.data,0,0,[]⟩,⟨.load,0,4194304,[]⟩,⟨.data,0,15728640,[]⟩,⟨.read,0,33554431,[]⟩,⟨.data,0,67108863,[]⟩,⟨.read,0,134217727,[]⟩,⟨.data,0,268435455,[]⟩]:=by kernel_rfl
theorem pl_113_8 (P:FuncId→Option (List AV→Option AV)):(NC.withPrims P).plans 113 8=[⟨.data,0,0,[]⟩,⟨.load,0,1,[]⟩,⟨.read,0,3,[]⟩,⟨.data,0,0,[]⟩,⟨.data,0,0,[]⟩,⟨.load,0,16,[]⟩,⟨.read,0,56,[]⟩,⟨.read,0,127,[]⟩,⟨.data,0,0,[]⟩,⟨.load,0,256,[]⟩,⟨.read,0,1023,[]⟩,⟨.data,0,2047,[]⟩,⟨.read,0,4095,[]⟩,⟨.data,0,0,[]⟩,⟨.data,0,8192,[]⟩,⟨.read,0,32767,[]⟩,⟨.load,0,0,[]⟩,⟨.data,0,0,[]⟩,⟨.load,0,131072,[]⟩,⟨.read,0,524287,[]⟩,⟨.data,0,1048575,[]⟩,⟨.read,0,2097151,[]⟩,⟨.data,0,4194303,[]⟩]:=by kernel_rfl
theorem pl_126_4 (P:FuncId→Option (List AV→Option AV)):(NC.withPrims P).plans 126 4=[⟨.data,0,0,[]⟩,⟨.load,0,1,[]⟩,⟨.data,0,3,[]⟩,⟨.data,0,7,[]⟩,⟨.data,0,15,[]⟩,⟨.load,0,31,[]⟩,⟨.data,0,15,[]⟩,⟨.load,0,79,[]⟩,⟨.data,0,255,[]⟩,⟨.data,0,511,[]⟩,⟨.data,0,1023,[]⟩,⟨.data,0,2047,[]⟩,⟨.load,0,4095,[]⟩,⟨.data,0,2047,[]⟩,⟨.load,0,10239,[]⟩,⟨.data,0,2047,[]⟩,⟨.data,0,59391,[]⟩,⟨.load,0,124927,[]⟩,⟨.read,0,255999,[]⟩,⟨.data,0,524287,[]⟩,⟨.data,0,1048575,[]⟩,⟨.read,0,2097151,[]⟩,⟨.data,0,4194303,[]⟩]:=by kernel_rfl
theorem pl_134_1 (P:FuncId→Option (List AV→Option AV)):(NC.withPrims P).plans 134 1=[⟨.data,0,0,[]⟩,⟨.data,0,0,[]⟩,⟨.load,0,2,[]⟩,⟨.data,0,7,[]⟩,⟨.load,0,0,[]⟩,⟨.read,0,16,[]⟩,⟨.data,0,63,[]⟩,⟨.data,0,127,[]⟩]:=by kernel_rfl
theorem pl_134_2 (P:FuncId→Option (List AV→Option AV)):(NC.withPrims P).plans 134 2=[⟨.data,0,0,[]⟩,⟨.data,0,0,[]⟩,⟨.data,0,2,[]⟩,⟨.data,0,6,[]⟩,⟨.data,0,14,[]⟩,⟨.data,0,14,[]⟩,⟨.load,0,46,[]⟩,⟨.data,0,126,[]⟩,⟨.data,0,254,[]⟩,⟨.data,0,15,[]⟩,⟨.data,0,1023,[]⟩]:=by kernel_rfl
theorem pl_179_1 (P:FuncId→Option (List AV→Option AV)):(NC.withPrims P).plans 179 1=[⟨.data,0,0,[]⟩,⟨.load,0,1,[]⟩,⟨.read,0,3,[]⟩,⟨.data,0,0,[]⟩,⟨.load,0,8,[]⟩,⟨.read,0,31,[]⟩,⟨.data,0,63,[]⟩,⟨.read,0,127,[]⟩,⟨.data,0,255,[]⟩]:=by kernel_rfl
theorem pl_180_1 (P:FuncId→Option (List AV→Option AV)):(NC.withPrims P).plans 180 1=[⟨.data,0,0,[]⟩,⟨.load,0,1,[]⟩,⟨.read,0,3,[]⟩,⟨.data,0,0,[]⟩,⟨.load,0,8,[]⟩,⟨.read,0,31,[]⟩,⟨.load,0,0,[]⟩,⟨.read,0,127,[]⟩,⟨.data,0,255,[]⟩,⟨.data,0,511,[]⟩,⟨.load,0,1023,[]⟩,⟨.read,0,2047,[]⟩,⟨.data,0,4095,[]⟩,⟨.data,0,8191,[]⟩,⟨.read,0,16383,[]⟩,⟨.data,0,32767,[]⟩,⟨.read,0,65535,[]⟩,⟨.data,0,131071,[]⟩]:=by kernel_rfl
theorem pl_183_1 (P:FuncId→Option (List AV→Option AV)):(NC.withPrims P).plans 183 1=[⟨.data,0,0,[]⟩,⟨.load,0,1,[]⟩,⟨.data,0,0,[]⟩,⟨.load,0,4,[]⟩,⟨.data,0,15,[]⟩,⟨.data,0,31,[]⟩,⟨.load,0,63,[]⟩,⟨.data,0,63,[]⟩,⟨.load,0,191,[]⟩,⟨.read,0,511,[]⟩,⟨.data,0,1023,[]⟩,⟨.data,0,2047,[]⟩,⟨.data,0,4095,[]⟩,⟨.data,0,8191,[]⟩,⟨.load,0,16383,[]⟩,⟨.load,0,8191,[]⟩,⟨.read,0,40959,[]⟩,⟨.data,0,131071,[]⟩,⟨.data,0,262143,[]⟩,⟨.read,0,524287,[]⟩,⟨.data,0,1048575,[]⟩]:=by kernel_rfl
theorem pl_212_4 (P:FuncId→Option (List AV→Option AV)):(NC.withPrims P).plans 212 4=[⟨.load,0,0,[]⟩,⟨.data,0,0,[]⟩,⟨.data,0,2,[]⟩,⟨.data,0,7,[]⟩,⟨.load,0,0,[]⟩,⟨.data,0,0,[]⟩,⟨.data,0,32,[]⟩,⟨.data,0,112,[]⟩,⟨.data,0,15,[]⟩,⟨.writeAt,0,511,[]⟩]:=by kernel_rfl
theorem pl_217_6 (P:FuncId→Option (List AV→Option AV)):(NC.withPrims P).plans 217 6=[⟨.data,0,0,[]⟩,⟨.data,0,1,[]⟩,⟨.data,0,3,[]⟩,⟨.load,0,7,[]⟩,⟨.data,0,0,[]⟩,⟨.data,0,16,[]⟩,⟨.data,0,48,[]⟩,⟨.load,0,112,[]⟩,⟨.read,0,240,[]⟩,⟨.data,0,496,[]⟩,⟨.data,0,1023,[]⟩,⟨.data,0,2047,[]⟩]:=by kernel_rfl
theorem pl_217_7 (P:FuncId→Option (List AV→Option AV)):(NC.withPrims P).plans 217 7=[⟨.data,0,0,[]⟩,⟨.data,0,0,[]⟩,⟨.data,0,2,[]⟩,⟨.data,0,6,[]⟩,⟨.load,0,14,[]⟩,⟨.load,0,0,[]⟩,⟨.data,0,32,[]⟩,⟨.writeAt,0,126,[]⟩,⟨.data,1,255,[]⟩,⟨.data,1,511,[]⟩,⟨.writeAt,1,1023,[]⟩]:=by kernel_rfl
theorem pl_220_5 (P:FuncId→Option (List AV→Option AV)):(NC.withPrims P).plans 220 5=[⟨.data,0,0,[]⟩,⟨.data,0,0,[]⟩,⟨.data,0,2,[]⟩,⟨.data,0,6,[]⟩,⟨.load,0,14,[]⟩,⟨.load,0,0,[]⟩,⟨.data,0,32,[]⟩,⟨.writeAt,0,126,[]⟩,⟨.data,1,255,[]⟩,⟨.data,1,511,[]⟩,⟨.writeAt,1,1023,[]⟩]:=by kernel_rfl
theorem pl_221_5 (P:FuncId→Option (List AV→Option AV)):(NC.withPrims P).plans 221 5=[⟨.data,0,0,[]⟩,⟨.data,0,0,[]⟩,⟨.data,0,2,[]⟩,⟨.data,0,6,[]⟩,⟨.load,0,14,[]⟩,⟨.load,0,0,[]⟩,⟨.data,0,32,[]⟩,⟨.writeAt,0,126,[]⟩,⟨.data,1,255,[]⟩,⟨.data,1,511,[]⟩,⟨.writeAt,1,1023,[]⟩]:=by kernel_rfl
theorem pl_226_1 (P:FuncId→Option (List AV→Option AV)):(NC.withPrims P).plans 226 1=[⟨.data,0,0,[]⟩,⟨.load,0,1,[]⟩,⟨.load,0,0,[]⟩,⟨.read,0,4,[]⟩,⟨.data,0,0,[]⟩,⟨.load,0,16,[]⟩,⟨.data,0,48,[]⟩,⟨.data,0,124,[]⟩,⟨.data,0,255,[]⟩,⟨.data,0,511,[]⟩]:=by kernel_rfl
theorem rf_19 (P:FuncId→Option (List AV→Option AV)) (t:TypeId):(NC.withPrims P).refApp 19 t=false:=Eq.trans (rfP (by decide +kernel)) rfl
theorem rf_92 (P:FuncId→Option (List AV→Option AV)) (t:TypeId):(NC.withPrims P).refApp 92 t=false:=Eq.trans (rfP (by decide +kernel)) rfl
theorem rf_93 (P:FuncId→Option (List AV→Option AV)) (t:TypeId):(NC.withPrims P).refApp 93 t=false:=Eq.trans (rfP (by decide +kernel)) rfl
theorem rf_159 (P:FuncId→Option (List AV→Option AV)) (t:TypeId):(NC.withPrims P).refApp 159 t=false:=Eq.trans (rfP (by decide +kernel)) rfl
theorem rf_181 (P:FuncId→Option (List AV→Option AV)) (t:TypeId):(NC.withPrims P).refApp 181 t=false:=Eq.trans (rfP (by decide +kernel)) rfl
theorem rf_217 (P:FuncId→Option (List AV→Option AV)) (t:TypeId):(NC.withPrims P).refApp 217 t=false:=Eq.trans (rfP (by decide +kernel)) rfl
theorem rf_220 (P:FuncId→Option (List AV→Option AV)) (t:TypeId):(NC.withPrims P).refApp 220 t=false:=Eq.trans (rfP (by decide +kernel)) rfl
theorem rf_221 (P:FuncId→Option (List AV→Option AV)) (t:TypeId):(NC.withPrims P).refApp 221 t=false:=Eq.trans (rfP (by decide +kernel)) rfl
end Go.Sim

/-
The data of the statements, and how they are told to the abstract interpreter.
-/
namespace Go.Sim
open Go Go.Proofs
structure Pc where
 len:Int
 post:Int
 back:Bool
structure Ln where
 name:List Nat
 ps:List Pc
structure Sw where
 name:List Nat
 line:List Nat
 metre:Int
 other:List Nat
 last:Bool
structure Stc where
 name:List Nat
 kind:List Nat
 line:List Nat
 fr:Int
 till:Int
structure Net where
 lines:List Ln
 sws:List Sw
 sts:List Stc
abbrev i64 (n:Int):AV:=.int .i64 n
def Pc.row (p:Pc):List AV:=[i64 p.len,i64 p.post,.bool p.back]
def Ln.row (l:Ln):List AV:=[.str l.name,.ps .unk (l.ps.map Pc.row)]
def Sw.row (s:Sw):List AV:=[.str s.name,.str s.line,i64 s.metre,.str s.other,.bool s.last]
def Stc.row (s:Stc):List AV:=[.str s.name,.str s.kind,.str s.line,i64 s.fr,i64 s.till]
def Net.cells (n:Net):List AV:=[.ps .unk (n.lines.map Ln.row),.ps .unk (n.sws.map Sw.row),.ps .unk (n.sts.map Stc.row)]
theorem map_inj {α β:Type} {f:α→β} (h:∀ a b,f a=f b→a=b):∀ {l m:List α},l.map f=m.map f→l=m
 | [],[],_=>rfl
 | [],_::_,e=>by simp at e
 | _::_,[],e=>by simp at e
 | a::l,b::m,e=>by
   simp only [List.map_cons,List.cons.injEq] at e
   rw [h a b e.1,map_inj h e.2]
theorem Pc.row_inj (a b:Pc) (h:a.row=b.row):a=b:=by
 cases a;cases b;simp [Pc.row] at h;obtain ⟨rfl,rfl,rfl⟩:=h;rfl
theorem Ln.row_inj (a b:Ln) (h:a.row=b.row):a=b:=by
 cases a;cases b
 simp only [Ln.row,List.cons.injEq,AV.str.injEq,AV.ps.injEq,and_true,true_and] at h
 rw [h.1,map_inj Pc.row_inj h.2]
theorem Sw.row_inj (a b:Sw) (h:a.row=b.row):a=b:=by
 cases a;cases b;simp [Sw.row] at h;obtain ⟨rfl,rfl,rfl,rfl,rfl⟩:=h;rfl
theorem Stc.row_inj (a b:Stc) (h:a.row=b.row):a=b:=by
 cases a;cases b;simp [Stc.row] at h;obtain ⟨rfl,rfl,rfl,rfl,rfl⟩:=h;rfl
theorem Net.cells_inj (a b:Net) (h:a.cells=b.cells):a=b:=by
 cases a;cases b
 simp only [Net.cells,List.cons.injEq,AV.ps.injEq,and_true,true_and] at h
 rw [map_inj Ln.row_inj h.1,map_inj Sw.row_inj h.2.1,map_inj Stc.row_inj h.2.2]
theorem Pc.row_len (p:Pc):p.row.length=3:=rfl
theorem Ln.row_len (p:Ln):p.row.length=2:=rfl
theorem Sw.row_len (p:Sw):p.row.length=5:=rfl
theorem Stc.row_len (p:Stc):p.row.length=5:=rfl
/-! ### Contracts over data -/
open Classical in
/-- A function that is known on data. -/
noncomputable def primOf {α:Type} (enc:α→List AV) (pre:α→Prop) (spec:α→AV):List AV→Option AV:=fun args =>
 if h:∃ x,enc x=args∧pre x then some (spec h.choose) else none
theorem primOf_inv {α:Type} {enc:α→List AV} {pre:α→Prop} {spec:α→AV} {args:List AV} {v:AV} (h:primOf enc pre spec args=some v):∃ x,args=enc x∧pre x∧v=spec x:=by
 unfold primOf at h
 split at h
 · rename_i hx
   simp at h
   exact ⟨hx.choose,hx.choose_spec.1.symm,hx.choose_spec.2,h.symm⟩
 · cases h
theorem primOf_enc {α:Type} {enc:α→List AV} {pre:α→Prop} {spec:α→AV} (hi:∀ x y,enc x=enc y→x=y) (x:α) (hp:pre x):primOf enc pre spec (enc x)=some (spec x):=by
 unfold primOf
 have hx:∃ y,enc y=enc x∧pre y:=⟨x,rfl,hp⟩
 rw [dif_pos hx]
 rw [hi _ _ hx.choose_spec.1]
def firstI:List Int→Int
 | []=>0
 | e::r=>if e=0 then firstI r else e
def whenI (b:Bool) (e:Int):Int:=if b then e else 0
theorem withPrims_P (P:FuncId→Option (List AV→Option AV)):(NC.withPrims P).P=NC.P:=rfl
theorem frzP (P:FuncId→Option (List AV→Option AV)) (f:FuncId) (t:TypeId):(NC.withPrims P).frz f t=false:=Eq.trans rfl rfl
theorem litP (P:FuncId→Option (List AV→Option AV)) (f:FuncId) (t:TypeId):(NC.withPrims P).lit f t=false:=Eq.trans rfl rfl
end Go.Sim

/-
What is read of a heap: slices that are written read as lists, behind a call and ahead of one.
-/
namespace Go.Sim
open Go Go.Proofs
/-! ### Values as they read -/
def deepC (d:AV→Option AV):List AV→Option (List AV)
 | []=>some []
 | v::r=>match d v with
   | some x=>match deepC d r with
     | some l=>some (x::l)
     | none=>none
   | none=>none
def deep:Nat→Heap→AV→Option AV
 | 0,_,_=>none
 | k+1,H,v=>match v with
   | .rs id off n sz _=>match readCells H (.ptr id off) (n * sz) with
     | some cs=>match deepC (deep k H) cs with
       | some cs'=>match chunks sz n cs' with
         | some rows=>some (.ps .unk rows)
         | none=>none
       | none=>none
     | none=>none
   | .ps _ rows=>some (.ps .unk rows)
   | .agg cs=>match deepC (deep k H) cs with
     | some l=>some (.agg l)
     | none=>none
   | .tup cs=>match deepC (deep k H) cs with
     | some l=>some (.tup l)
     | none=>none
   | .bool b=>some (.bool b)
   | .int k i=>some (.int k i)
   | .str s=>some (.str s)
   | _=>none
theorem deepC_get {d:AV→Option AV}:∀ {cs l:List AV},deepC d cs=some l→l.length=cs.length ∧ ∀ (i:Nat) c,cs[i]? = some c → ∃ x,l[i]? = some x∧d c=some x
 | [],l,h=>by
   simp [deepC] at h;subst h
   exact ⟨rfl,fun i c hc=>by simp at hc⟩
 | v::r,l,h=>by
   unfold deepC at h
   split at h
   · rename_i x hx
     split at h
     · rename_i l' hl'
       simp at h;subst h
       obtain ⟨h1,h2⟩:=deepC_get hl'
       refine ⟨by simp [h1],fun i c hc => ?_⟩
       cases i with
       | zero=>simp at hc;subst hc;exact ⟨x,rfl,hx⟩
       | succ i=>simp at hc;simpa using h2 i c hc
     · cases h
   · cases h
section
variable {C:Cfg} {g:Gh} {H:Heap} {w:World}
theorem deep_rel (hR:Rel C g H w) {g2:Gh} (hk:∀ b o v,g.K b o=some v→g2.K b o=some v)
 (ho:∀ id,id < H.n→(H.get id).live=true → ∀ o v,w.cell? ⟨(g.L id).b,o,none⟩=some v→g2.K (g.L id).b o=some v) :
 ∀ (k:Nat) {v v':AV} {cv:Value},deep k H v=some v'→VRel g H.n v cv→VRel g2 0 v' cv:=by
 intro k
 induction k with
 | zero=>intro v v' cv h;simp [deep] at h
 | succ k ih =>
   intro v v' cv h hv
   have each:∀ {cs l:List AV} {vs:List Value},deepC (deep k H) cs=some l→VRels g H.n cs vs→VRels g2 0 l vs:=fun {cs l vs} hd hr=>by
    obtain ⟨h1,h2⟩:=deepC_get hd
    refine ⟨h1.trans hr.1,fun i x u hx hu => ?_⟩
    have hlt:i < cs.length:=by rw [← h1];exact (List.getElem?_eq_some_iff.1 hx).1
    obtain ⟨y,hy,hd'⟩:=h2 i cs[i] (List.getElem?_eq_getElem hlt)
    rw [hx] at hy;cases hy
    exact ih hd' (hr.2 i _ u (List.getElem?_eq_getElem hlt) hu)
   unfold deep at h
   split at h
   · rename_i id off n sz cap
     split at h
     · rename_i cs hcs
       split at h
       · rename_i cs' hcs'
         split at h
         · rename_i rows hrows
           simp at h;subst h
           cases hv with
           | @rs _ _ _ _ _ c _ hid hlen hcap =>
             obtain ⟨ad,vs,had,hsp,hvs,hat,hlen2⟩:=readCells_rel hR hcs (VRel.ptr (off:=off) hid)
             simp at had
             subst had
             obtain ⟨h1,h2,h3⟩:=chunks_spec _ _ _ hrows
             have hr:=each hcs' hvs
             have hfl:=h3 ((deepC_get hcs').1.trans hlen2)
             have hl:(H.get id).live=true:=by
              unfold readCells at hcs
              simp only [] at hcs
              split at hcs
              · rename_i cs0 hb;exact live_of_cells hb
              · cases hcs
             have hlr2:=h1.symm
             subst hlr2
             refine .ps (sz:=sz) vs h2 (by rw [hfl];exact hr.1) (fun i u hi=>ho id hid hl _ _ ?_) (fun i c' u hc hu => ?_) hlen trivial
             · have:=hat i u hi
               simpa using this
             · rw [hfl] at hc
               exact hr.2 i c' u hc hu
         · cases h
       · cases h
     · cases h
   · rename_i tok rows
     simp at h;subst h
     cases hv with
     | ps vals hsz hl hk' hv hcap htok=>exact .ps vals hsz hl (fun i u hi=>hk _ _ _ (hk' i u hi)) (fun i c u hc hu=>(hv i c u hc hu).any hk) hcap trivial
     | psnil _=>exact .psnil trivial
     | psz _=>exact .psz trivial
   · rename_i cs
     split at h
     · rename_i l hl
       simp at h;subst h
       obtain ⟨vs,rfl,h2⟩:=hv.inv_agg
       have:=each hl h2
       exact .agg this.1 this.2
     · cases h
   · rename_i cs
     split at h
     · rename_i l hl
       simp at h;subst h
       obtain ⟨vs,rfl,h2⟩:=hv.inv_tup
       have:=each hl h2
       exact .tup this.1 this.2
     · cases h
   · simp at h;subst h;cases hv;exact .bool _
   · simp at h;subst h;cases hv;exact .int _ _
   · simp at h;subst h
     cases hv with
     | str hs=>exact .str hs
   · cases h
theorem deepC_rel (hR:Rel C g H w) {g2:Gh} (hk:∀ b o v,g.K b o=some v→g2.K b o=some v)
 (ho:∀ id,id < H.n→(H.get id).live=true → ∀ o v,w.cell? ⟨(g.L id).b,o,none⟩=some v→g2.K (g.L id).b o=some v)
 (k:Nat) {cs l:List AV} {vs:List Value} (hd:deepC (deep k H) cs=some l) (hr:VRels g H.n cs vs):VRels g2 0 l vs:=by
 obtain ⟨h1,h2⟩:=deepC_get hd
 refine ⟨h1.trans hr.1,fun i x u hx hu => ?_⟩
 have hlt:i < cs.length:=by rw [← h1];exact (List.getElem?_eq_some_iff.1 hx).1
 obtain ⟨y,hy,hd'⟩:=h2 i cs[i] (List.getElem?_eq_getElem hlt)
 rw [hx] at hy;cases hy
 exact deep_rel hR hk ho k hd' (hr.2 i _ u (List.getElem?_eq_getElem hlt) hu)
theorem Rel.bare (hR : Rel C g H w) {C2 : Cfg} (hG : C2.glob = C.glob) {K : Nat → Nat → Option Value} (hK : ∀ b o v, g.K b o = some v → K b o = some v) (hK2 : ∀ b o v, K b o = some v → w.cell? ⟨b, o, none⟩ = some v) : Rel C2 ⟨g.L, K⟩ .empty w where
 blk := fun id hid => by simp [Heap.empty] at hid
 out := fun _ _ => rfl
 lt := fun id hid => by simp [Heap.empty] at hid
 inj := fun i j hi => by simp [Heap.empty] at hi
 know := hK2
 apart := fun id hid => by simp [Heap.empty] at hid
 glob := fun x cs hx => by
  rw [hG] at hx
  obtain ⟨vals, h1, h2⟩ := hR.glob x cs hx
  exact ⟨vals, h1.mono (Nat.le_refl _) ⟨fun _ _ => rfl, hK⟩, fun i v hi => hK _ _ _ (h2 i v hi)⟩
 gsz := fun x cs hx => by
  rw [hG] at hx
  exact ⟨(hR.gsz x cs hx).1, fun ⟨id, hid, _⟩ => by simp [Heap.empty] at hid⟩
theorem no_own {g:Gh} {b:Nat}:¬ Own g .empty b:=fun ⟨id,hid,_⟩=>by simp [Heap.empty] at hid
theorem pures_of:∀ {args:List AV},pureAll args=true → ∀ a ∈ args,a.pure=true
 | [],_,a,ha=>by simp at ha
 | x::r,hp,a,ha=>by
   simp only [pureAll,Bool.and_eq_true] at hp
   rcases List.mem_cons.1 ha with rfl | ha
   · exact hp.1
   · exact pures_of hp.2 a ha
theorem view_ok {C2:Cfg} (Sa:Sane C2) (hP:C2.P=C.P) (hG:C2.glob=C.glob) {f:FuncId} {args:List AV} {v v':AV} {H':Heap} (h:R C2 (.call 0 f args .empty)=some (.ofVal v H')) (hp:pureAll args=true)
 {d:Nat} (hd:deep d H' v=some v') (lo:Nat) (H:Heap):CallOk C lo f args H v' H:=by
 obtain ⟨k,hk⟩:=(R_iff C2).1 h
 have hs:=run_ok Sa k _ _ hk (Nat.le_refl 0)
 refine ⟨hP ▸ hs.1,fun g w cargs hR ha => ?_⟩
 have hR0:=hR.bare hG (K:=g.K) (fun _ _ _ h=>h) hR.know
 have ha0:VRels ⟨g.L,g.K⟩ 0 args cargs:=⟨ha.1,fun i a v h1 h2=>(ha.2 i a v h1 h2).pure (pures_of hp a (List.mem_of_getElem? h1))⟩
 rw [← hP]
 refine (hs.2 ⟨g.L,g.K⟩ w cargs hR0 ha0).mono fun e w' hpost => ?_
 obtain ⟨cv,rfl,g',r1,r2,r3⟩:=hpost.returned
 have r3:VRel g' H'.n v cv:=r3
 have r1:Rel C2 g' H' w':=r1
 have r2:Ext 0 ⟨g.L,g.K⟩ .empty w g' H' w':=r2
 have hfr:∀ b,b < w.heap.size→w'.heap[b]? = w.heap[b]?:=fun b hb=>r2.frame b hb no_own
 have hnew:∀ b o v,b < w.heap.size→g'.K b o=some v→g.K b o=some v:=fun b o v hb hk=>by
  rcases r2.newK b o v hk with h | h | h
  · exact h
  · exact absurd h no_own
  · omega
 let g2:Gh:=⟨g.L,fun b o=>if b < w.heap.size then g'.K b o else w'.cell? ⟨b,o,none⟩⟩
 have hlt:∀ {b o v},b < w.heap.size→g2.K b o=some v→g'.K b o=some v:=fun {b o v} hb hk=>by
  have:(if b < w.heap.size then g'.K b o else w'.cell? ⟨b,o,none⟩)=some v:=hk
  rwa [if_pos hb] at this
 have hup:∀ {b o v},g'.K b o=some v→g2.K b o=some v:=fun {b o v} hk=>by
  show (if b < w.heap.size then g'.K b o else w'.cell? ⟨b,o,none⟩)=some v
  split
  · exact hk
  · exact r1.know b o v hk
 have hle:Gh.le H.n g g2:=⟨fun _ _=>rfl,fun b o v hk=>hup (r2.le.K b o v hk)⟩
 have hrel:VRel g2 0 v' cv:=by
  refine deep_rel r1 (g2:=g2) (fun b o v hk=>hup hk) (fun id hid hl o u hu => ?_) d hd r3
  show (if (g'.L id).b < w.heap.size then g'.K (g'.L id).b o else w'.cell? ⟨(g'.L id).b,o,none⟩)=some u
  rcases r2.own (g'.L id).b ⟨id,hid,hl,rfl⟩ with h | h
  · exact absurd h no_own
  · rw [if_neg (by omega)];exact hu
 have hE:Ext lo g H w g2 H w':=by
  refine ⟨hle,Nat.le_refl _,fun _ _ _=>rfl,fun b h=>.inl h,fun b o v hk => ?_,fun b hb _=>hfr b hb,r2.size,r2.os,r2.output,r2.tape⟩
  by_cases hb:b < w.heap.size
  · exact .inl (hnew b o v hb (hlt hb hk))
  · exact .inr (.inr (by omega))
 refine ⟨g2,⟨fun id hid => ?_,hR.out,fun id hid hl=>Nat.lt_of_lt_of_le (hR.lt id hid hl) r2.size,hR.inj,fun b o v hk => ?_,fun id hid hl o v hk => ?_,fun x cs hx => ?_,hR.gsz_ext hE⟩,hE,hrel.mono (Nat.zero_le _) (.refl _ _)⟩
 · cases hl:(H.get id).live with
   | true=>exact (hR.blk id hid).mono (Nat.le_refl _) hle (hfr _ (hR.lt id hid hl))
   | false=>rw [dead_of hl];trivial
 · by_cases hb:b < w.heap.size
   · exact r1.know b o v (hlt hb hk)
   · have:(if b < w.heap.size then g'.K b o else w'.cell? ⟨b,o,none⟩)=some v:=hk
     rwa [if_neg hb] at this
 · exact hR.apart id hid hl o v (hnew _ _ _ (hR.lt id hid hl) (hlt (hR.lt id hid hl) hk))
 · obtain ⟨vals,h1,h2⟩:=hR.glob x cs hx
   exact ⟨vals,h1.mono (Nat.le_refl _) (hle.mono (Nat.zero_le _)),fun i v hi=>hle.K _ _ _ (h2 i v hi)⟩
def AV.scal:AV→Bool
 | .bool _ | .int _ _ | .str _=>true
 | _=>false
theorem ahead_ok {C2 : Cfg} (hP : C2.P = C.P) (hG : C2.glob = C.glob) {f : FuncId} {args args' : List AV} {v : AV} (h : CallOk C 0 f args' .empty v .empty) (hv : v.scal = true) {d : Nat} (lo : Nat) {H : Heap} (hd : deepC (deep d H) args = some args') : CallOk C2 lo f args H v H := by
 refine ⟨hP ▸ h.1, fun g w cargs hR ha => ?_⟩
 have hR0 := hR.bare hG.symm (K := fun b o => w.cell? ⟨b, o, none⟩) hR.know (fun _ _ _ h => h)
 have ha0 : VRels ⟨g.L, fun b o => w.cell? ⟨b, o, none⟩⟩ 0 args' cargs := deepC_rel hR (g2 := ⟨g.L, fun b o => w.cell? ⟨b, o, none⟩⟩) hR.know (fun _ _ _ _ _ h => h) d hd ha
 rw [hP]
 refine (h.2 _ w cargs hR0 ha0).mono fun e w' hpost => ?_
 obtain ⟨cv, rfl, g', r1, r2, r3⟩ := hpost.returned
 obtain ⟨b1, b2⟩ := hR.below (w' := w') ⟨r2.os, r2.tape, r2.output, r2.size, fun b hb => r2.frame b hb no_own⟩ lo
 refine ⟨g, b1, b2, ?_⟩
 cases r3 <;> first | exact .bool _ | exact .int _ _ | (rename_i hs; exact .str hs) | (simp [AV.scal] at hv)
theorem other_ok {C2:Cfg} (hP:C2.P=C.P) (hG:C2.glob=C.glob) {f:FuncId} {args:List AV} {v:AV} (h:CallOk C 0 f args .empty v .empty) (hp:pureAll args=true) (hv:v.pure=true) (lo:Nat) (H:Heap):CallOk C2 lo f args H v H:=by
 refine ⟨hP ▸ h.1,fun g w cargs hR ha => ?_⟩
 have hR0:=hR.bare hG.symm (K:=g.K) (fun _ _ _ h=>h) hR.know
 have hR2:Rel C2 g .empty w:=hR.bare rfl (K:=g.K) (fun _ _ _ h=>h) hR.know
 have ha0:VRels ⟨g.L,g.K⟩ 0 args cargs:=⟨ha.1,fun i a v h1 h2=>(ha.2 i a v h1 h2).pure (pures_of hp a (List.mem_of_getElem? h1))⟩
 rw [hP]
 refine (h.2 _ w cargs hR0 ha0).mono fun e w' hpost => ?_
 obtain ⟨cv,rfl,g',r1,r2,r3⟩:=hpost.returned
 have r1':Rel C2 g' .empty w':=r1.bare hG (K:=g'.K) (fun _ _ _ h=>h) r1.know
 have r2':Ext 0 g .empty w g' .empty w':=r2
 obtain ⟨j1,j2,j3⟩:=hR.join (Hk:=.empty) (Nat.zero_le _) (fun id hid=>by simp [Heap.empty] at hid) r1' r2' lo
 exact ⟨_,j1,j2,j3 _ _ (r3.pure hv)⟩
end
theorem contractV {C:Cfg} {P:FuncId→Option (List AV→Option AV)} (Sa:Sane C) (hP:PrimsOk C P) {f:FuncId} {fn:Func} {c:Code} {args:List AV} {v:AV} {rs:List ResultVar} (d:Nat) (hg:C.good f=true) (hf:C.P.funcs[f]? = some fn) (hb:fn.body=some c) (hr:fn.results=rs.toArray) (hp:pureAll args=true)
 (h:W (C.withPrims P) 0 f false c (argsT args 0 .leaf) .empty [] (bodyPost (C.withPrims P) rs fun v' H'=>deep d H' v'=some v)) (lo:Nat) (H:Heap):CallOk C lo f args H v H:=by
 obtain ⟨v',H',h1,h2⟩:=R_of_body (C:=C.withPrims P) hg hf hb hr h
 exact view_ok (C:=C) (C2:=C.withPrims P) (Sa.withPrims hP) rfl rfl h1 hp h2 lo H
/-! ### A table for one walk: functions by contract, functions whose arguments may be written slices, functions that are walked through -/
def onPure (p:List AV→Option AV) (args:List AV):Option AV:=if pureAll args then (match p args with
 | some v=>if v.pure then some v else none
 | none=>none) else none
def onView (p:List AV→Option AV) (_:Nat) (args:List AV) (H:Heap):Option (AV × Heap):=match deepC (deep 4 H) args with
 | some a=>match p a with
   | some v=>if v.scal then some (v,H) else none
   | none=>none
 | none=>none
noncomputable def walkC (good:FuncId→Bool) (ra lit:FuncId→TypeId→Bool) (mode:FuncId→Mode) (plans:FuncId→Nat→List OpI) (P V:FuncId→Option (List AV→Option AV)):Cfg :=
 { NC with good:=good,refApp:=ra,lit:=lit,plans:=plans,mode:=mode,memo:=fun _ _=>none,prim:=fun f=>(P f).map onPure,hprim:=fun f=>(V f).map onView,twice:=fun _=>false }
end Go.Sim
