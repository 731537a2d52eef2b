/-
The parts NetLay, NetSane, NetFacts, NetData, NetSet, NetL0, NetL1, NetL2, NetL3, NetL4, NetL5, NetP7, NetQ1, NetQ2, NetM1, NetR2, NetR3, NetM2, NetApp, NetM3, NetM4, NetM5, NetF1 of one proof, joined: each begins with a remark that says what it shows.
-/
import Derived.Test.YtepaopekeidlmaaGreatDoorT12
import Derived.Shelf.Strings.Builder1
import Derived.Shelf.Strings.OnBuilder
import Derived.Shelf.Small.Strs
import Derived.Shelf.Strconv.Itoa0
import Derived.Shelf.Strconv.Itoa1
import Derived.Shelf.LaysM
import Derived.Shelf.Strconv.Itoa2
import Derived.Shelf.Strconv.Itoa3
import Derived.Test.YtepaopekeidlmaaGreatDoorProg
set_option linter.unusedSimpArgs false
set_option linter.unusedVariables false

/-
  DERIVED: THE SHELF's CONTRACTS AT THIS DUMP, IN PLAIN WORDS (tools/lay-plain.mjs out of 'NetShelf.lean', which tools/lay-shelf.mjs wrote): THE SAME DECLARATIONS UNDER THE SAME NAMES: 'import', 'namespace', 'open', 'def', 'theorem' AND NOTHING ELSE: no command of the shelf's: FOR A HAND-IN. Each laying: the table of numbers ('.._ren') and one theorem, a field a fact of the dump's own or the kernel's comparison; each contract: ONE APPLICATION.
-/
namespace Go.Proofs
open Go.Shelf
def Tryz.lays156_ren : Go.Shelf.Ren := ⟨fun | 156 => 160 | 165 => 210 | 166 => 159 | 169 => 163 | 240 => 209 | 241 => 251 | 276 => 250 | 277 => 275 | n => n, fun | 31 => 160 | 9 => 9 | 3 => 3 | 4 => 4 | 0 => 0 | 20 => 20 | 72 => 272 | 76 => 275 | 70 => 269 | 37 => 270 | 75 => 274 | 127 => 340 | 164 => 371 | 5 => 5 | 80 => 282 | n => n, fun | n => n⟩
theorem Tryz.lays156 : Go.Proofs.Lays.n156 Tryz.prog Tryz.lays156_ren := {
  mixed := by kernel_rfl
  f156 := Tryz.func160.trans (congrArg some (by kernel_rfl))
  f165 := Tryz.func210.trans (congrArg some (by kernel_rfl))
  f166 := Tryz.func159.trans (congrArg some (by kernel_rfl))
  f169 := Tryz.func163.trans (congrArg some (by kernel_rfl))
  f240 := Tryz.func209.trans (congrArg some (by kernel_rfl))
  f241 := Tryz.func251.trans (congrArg some (by kernel_rfl))
  f276 := Tryz.func250.trans (congrArg some (by kernel_rfl))
  f277 := Tryz.func275.trans (congrArg some (by kernel_rfl))
  t0 := Tryz.underlying0
  a0 := Tryz.isAgg0
  z0 := Tryz.sizeOf0
  v0 := Tryz.zeroValue0
  t3 := Tryz.underlying3
  a3 := Tryz.isAgg3
  z3 := Tryz.sizeOf3
  v3 := Tryz.zeroValue3
  t4 := Tryz.underlying4
  a4 := Tryz.isAgg4
  z4 := Tryz.sizeOf4
  v4 := Tryz.zeroValue4
  t9 := Tryz.underlying9
  a9 := Tryz.isAgg9
  z9 := Tryz.sizeOf9
  v9 := Tryz.zeroValue9
  t20 := Tryz.underlying20
  a20 := Tryz.isAgg20
  z20 := Tryz.sizeOf20
  v20 := Tryz.zeroValue20
  t31 := Tryz.underlying160
  a31 := Tryz.isAgg160
  z31 := Tryz.sizeOf160
  v31 := Tryz.zeroValue160
  t37 := Tryz.underlying270
  a37 := Tryz.isAgg270
  z37 := Tryz.sizeOf270
  v37 := Tryz.zeroValue270
  t70 := Tryz.underlying269
  a70 := Tryz.isAgg269
  z70 := Tryz.sizeOf269
  v70 := Tryz.zeroValue269
  t72 := Tryz.underlying272
  a72 := Tryz.isAgg272
  z72 := Tryz.sizeOf272
  v72 := Tryz.zeroValue272
  t75 := Tryz.underlying274
  a75 := Tryz.isAgg274
  z75 := Tryz.sizeOf274
  v75 := Tryz.zeroValue274
  t76 := Tryz.underlying275
  a76 := Tryz.isAgg275
  z76 := Tryz.sizeOf275
  v76 := Tryz.zeroValue275
  t127 := Tryz.underlying340
  a127 := Tryz.isAgg340
  z127 := Tryz.sizeOf340
  v127 := Tryz.zeroValue340
  t164 := Tryz.underlying371
  a164 := Tryz.isAgg371
  z164 := Tryz.sizeOf371
  v164 := Tryz.zeroValue371 }
theorem Tryz.Builder_Extra_156 : Builder.Extra Tryz.prog Tryz.lays156_ren := {
  sizeBuilder := by kernel_rfl
  liesBuilder := by kernel_rfl
  t5 := Tryz.underlying5
  a5 := Tryz.isAgg5
  z5 := Tryz.sizeOf5
  v5 := Tryz.zeroValue5
  infoByte := by kernel_rfl
  cellsByte := by kernel_rfl
  sizeByte := by kernel_rfl
  neB5 := by decide }
def Tryz.lays106_ren : Go.Shelf.Ren := ⟨fun | 106 => 242 | 213 => 272 | 265 => 289 | n => n, fun | 9 => 9 | 3 => 3 | n => n, fun | n => n⟩
theorem Tryz.lays106 : Go.Proofs.Lays.n106 Tryz.prog Tryz.lays106_ren := {
  mixed := by kernel_rfl
  f106 := Tryz.func242.trans (congrArg some (by kernel_rfl))
  f213 := Tryz.func272.trans (congrArg some (by kernel_rfl))
  f265 := Tryz.func289.trans (congrArg some (by kernel_rfl))
  t3 := Tryz.underlying3
  a3 := Tryz.isAgg3
  z3 := Tryz.sizeOf3
  v3 := Tryz.zeroValue3
  t9 := Tryz.underlying9
  a9 := Tryz.isAgg9
  z9 := Tryz.sizeOf9
  v9 := Tryz.zeroValue9 }
def Tryz.laysM171_ren : Go.Shelf.Ren := ⟨fun | 171 => 161 | 243 => 211 | 246 => 252 | 283 => 276 | 284 => 277 | 285 => 278 | 286 => 279 | 129 => 239 | 317 => 291 | 318 => 292 | 319 => 293 | 320 => 294 | 337 => 300 | 338 => 301 | n => n, fun | 3 => 3 | 9 => 9 | 2 => 2 | 4 => 4 | 171 => 388 | 0 => 0 | 53 => 361 | 37 => 270 | 5 => 5 | 173 => 390 | 212 => 399 | 51 => 359 | 20 => 20 | 213 => 400 | 46 => 320 | 232 => 408 | 233 => 409 | n => n, fun | 17 => 3 | 18 => 6 | 19 => 7 | n => n⟩
theorem Tryz.laysM171 : Go.Proofs.LaysM.n171 Tryz.prog Tryz.laysM171_ren := {
  mixed := by kernel_rfl
  f129 := Tryz.func239.trans (congrArg some (by kernel_rfl))
  f171 := Tryz.func161.trans (congrArg some (by kernel_rfl))
  f243 := Tryz.func211.trans (congrArg some (by kernel_rfl))
  f246 := Tryz.func252.trans (congrArg some (by kernel_rfl))
  f283 := Tryz.func276.trans (congrArg some (by kernel_rfl))
  f284 := Tryz.func277.trans (congrArg some (by kernel_rfl))
  f285 := Tryz.func278.trans (congrArg some (by kernel_rfl))
  f286 := Tryz.func279.trans (congrArg some (by kernel_rfl))
  f317 := Tryz.func291.trans (congrArg some (by kernel_rfl))
  f318 := Tryz.func292.trans (congrArg some (by kernel_rfl))
  f319 := Tryz.func293.trans (congrArg some (by kernel_rfl))
  f320 := Tryz.func294.trans (congrArg some (by kernel_rfl))
  f337 := Tryz.func300.trans (congrArg some (by kernel_rfl))
  f338 := Tryz.func301.trans (congrArg some (by kernel_rfl))
  t0 := Tryz.underlying0
  a0 := Tryz.isAgg0
  z0 := Tryz.sizeOf0
  v0 := Tryz.zeroValue0
  t2 := Tryz.underlying2
  a2 := Tryz.isAgg2
  z2 := Tryz.sizeOf2
  v2 := Tryz.zeroValue2
  t3 := Tryz.underlying3
  a3 := Tryz.isAgg3
  z3 := Tryz.sizeOf3
  v3 := Tryz.zeroValue3
  t4 := Tryz.underlying4
  a4 := Tryz.isAgg4
  z4 := Tryz.sizeOf4
  v4 := Tryz.zeroValue4
  t5 := Tryz.underlying5
  a5 := Tryz.isAgg5
  z5 := Tryz.sizeOf5
  v5 := Tryz.zeroValue5
  t9 := Tryz.underlying9
  a9 := Tryz.isAgg9
  z9 := Tryz.sizeOf9
  v9 := Tryz.zeroValue9
  t20 := Tryz.underlying20
  a20 := Tryz.isAgg20
  z20 := Tryz.sizeOf20
  v20 := Tryz.zeroValue20
  t37 := Tryz.underlying270
  a37 := Tryz.isAgg270
  z37 := Tryz.sizeOf270
  v37 := Tryz.zeroValue270
  t46 := Tryz.underlying320
  a46 := Tryz.isAgg320
  z46 := Tryz.sizeOf320
  v46 := Tryz.zeroValue320
  t51 := Tryz.underlying359
  a51 := Tryz.isAgg359
  z51 := Tryz.sizeOf359
  v51 := Tryz.zeroValue359
  t53 := Tryz.underlying361
  a53 := Tryz.isAgg361
  z53 := Tryz.sizeOf361
  v53 := Tryz.zeroValue361
  t171 := Tryz.underlying388
  a171 := Tryz.isAgg388
  z171 := Tryz.sizeOf388
  v171 := Tryz.zeroValue388
  t173 := Tryz.underlying390
  a173 := Tryz.isAgg390
  z173 := Tryz.sizeOf390
  v173 := Tryz.zeroValue390
  t212 := Tryz.underlying399
  a212 := Tryz.isAgg399
  z212 := Tryz.sizeOf399
  v212 := Tryz.zeroValue399
  t213 := Tryz.underlying400
  a213 := Tryz.isAgg400
  z213 := Tryz.sizeOf400
  t232 := Tryz.underlying408
  a232 := Tryz.isAgg408
  z232 := Tryz.sizeOf408
  v232 := Tryz.zeroValue408
  t233 := Tryz.underlying409
  a233 := Tryz.isAgg409
  z233 := Tryz.sizeOf409
  v233 := Tryz.zeroValue409
  g17 := by kernel_rfl
  g18 := by kernel_rfl
  g19 := by kernel_rfl
  i0 := by kernel_rfl
  i2 := by kernel_rfl
  i3 := by kernel_rfl
  i4 := by kernel_rfl
  i5 := by kernel_rfl
  i9 := by kernel_rfl
  i20 := by kernel_rfl
  i37 := by kernel_rfl
  i46 := by kernel_rfl
  i51 := by kernel_rfl
  i53 := by kernel_rfl
  i171 := by kernel_rfl
  i173 := by kernel_rfl
  i212 := by kernel_rfl
  i232 := by kernel_rfl
  i233 := by kernel_rfl
  m17 := by kernel_rfl
  m18 := by kernel_rfl
  m19 := by kernel_rfl }
end Go.Proofs

/-
The tables of this program are what the abstract interpreter asks for.
-/
namespace Go.Sim
open Go Go.Proofs
noncomputable def okF (f : Nat) : Bool := match NC.P.funcs[f]? with
  | some fn => match fn.body with
    | some c => !(fn.name == "runtime.NumGoroutine") && codeOk NC f fn.ntmps c
    | none => false
  | none => false
noncomputable def okChunk : Nat → Nat → Bool
  | _, 0 => true
  | a, n + 1 => (!goodM.testBit a || okF a) && okChunk (a + 1) n
theorem okChunk_at : ∀ {a n f : Nat}, okChunk a n = true → a ≤ f → f < a + n → goodM.testBit f = true → okF f = true
  | a, 0, f, _, h1, h2, _ => by omega
  | a, n + 1, f, h, h1, h2, hg => by
    unfold okChunk at h
    simp only [Bool.and_eq_true] at h
    by_cases e : f = a
    · subst e
      have := h.1
      rw [hg] at this
      simpa using this
    · exact okChunk_at h.2 (by omega) (by omega) hg
theorem ok0 : okChunk 0 20 = true := by kernel_rfl
theorem ok20 : okChunk 20 20 = true := by kernel_rfl
theorem ok40 : okChunk 40 20 = true := by kernel_rfl
theorem ok60 : okChunk 60 20 = true := by kernel_rfl
theorem ok80 : okChunk 80 20 = true := by kernel_rfl
theorem ok100 : okChunk 100 20 = true := by kernel_rfl
theorem ok120 : okChunk 120 20 = true := by kernel_rfl
theorem ok140 : okChunk 140 20 = true := by kernel_rfl
theorem ok160 : okChunk 160 20 = true := by kernel_rfl
theorem ok180 : okChunk 180 20 = true := by kernel_rfl
theorem ok200 : okChunk 200 20 = true := by kernel_rfl
theorem ok220 : okChunk 220 20 = true := by kernel_rfl
theorem ok240 : okChunk 240 20 = true := by kernel_rfl
theorem ok260 : okChunk 260 20 = true := by kernel_rfl
theorem ok280 : okChunk 280 20 = true := by kernel_rfl
theorem ok300 : okChunk 300 20 = true := by kernel_rfl
theorem ok320 : okChunk 320 20 = true := by kernel_rfl
theorem testBit_big {g a f : Nat} (h : g < 2 ^ a * 2 ^ a) (hf : a + a ≤ f) : g.testBit f = false :=
  Nat.testBit_lt_two_pow (Nat.lt_of_lt_of_le h (by rw [← Nat.pow_add]; exact Nat.pow_le_pow_right (by omega) hf))
theorem goodM_lt : goodM < 2 ^ 170 * 2 ^ 170 := by decide +kernel
theorem okAll (f : Nat) (hg : goodM.testBit f = true) : okF f = true := by
  have hlt : f < 340 := by
    rcases Nat.lt_or_ge f 340 with h | h
    · exact h
    · have : goodM.testBit f = false := testBit_big goodM_lt h
      rw [this] at hg; cases hg
  by_cases h0 : f < 20
  · exact okChunk_at ok0 (by omega) (by omega) hg
  by_cases h20 : f < 40
  · exact okChunk_at ok20 (by omega) (by omega) hg
  by_cases h40 : f < 60
  · exact okChunk_at ok40 (by omega) (by omega) hg
  by_cases h60 : f < 80
  · exact okChunk_at ok60 (by omega) (by omega) hg
  by_cases h80 : f < 100
  · exact okChunk_at ok80 (by omega) (by omega) hg
  by_cases h100 : f < 120
  · exact okChunk_at ok100 (by omega) (by omega) hg
  by_cases h120 : f < 140
  · exact okChunk_at ok120 (by omega) (by omega) hg
  by_cases h140 : f < 160
  · exact okChunk_at ok140 (by omega) (by omega) hg
  by_cases h160 : f < 180
  · exact okChunk_at ok160 (by omega) (by omega) hg
  by_cases h180 : f < 200
  · exact okChunk_at ok180 (by omega) (by omega) hg
  by_cases h200 : f < 220
  · exact okChunk_at ok200 (by omega) (by omega) hg
  by_cases h220 : f < 240
  · exact okChunk_at ok220 (by omega) (by omega) hg
  by_cases h240 : f < 260
  · exact okChunk_at ok240 (by omega) (by omega) hg
  by_cases h260 : f < 280
  · exact okChunk_at ok260 (by omega) (by omega) hg
  by_cases h280 : f < 300
  · exact okChunk_at ok280 (by omega) (by omega) hg
  by_cases h300 : f < 320
  · exact okChunk_at ok300 (by omega) (by omega) hg
  by_cases h320 : f < 340
  · exact okChunk_at ok320 (by omega) (by omega) hg
  omega
theorem callable {f : Nat} {fn : Func} (h : Tryz.prog.funcs[f]? = some fn) (hb : fn.body.isSome = true) (hn : (fn.name == "runtime.NumGoroutine") = false) : Callable Tryz.prog f := ⟨fn, h, hb, hn⟩
theorem saneNC : Sane NC where
  depth := by decide +kernel
  orders := by kernel_rfl
  good := fun f hf => by
    have h := okAll f hf
    unfold okF at h
    split at h
    · rename_i fn hfn
      split at h
      · rename_i c hc
        simp only [Bool.and_eq_true, Bool.not_eq_true'] at h
        exact ⟨fn, c, hfn, hc, h.1, h.2⟩
      · cases h
    · cases h
  memo := fun f args v h => by cases h
  prim := fun f p args v hp h lo H => by
    unfold NC at hp
    simp only [] at hp
    cases h1 : Nat.beq f 242 with
    | true =>
      rw [h1] at hp; simp at hp; subst hp
      have := Nat.eq_of_beq_eq_true h1; subst this
      exact compare_ok (C := NC) rfl Tryz.lays106 (callable Tryz.func242 (by kernel_rfl) (by kernel_rfl)) h lo H
    | false =>
      rw [h1] at hp
      cases h2 : Nat.beq f 161 with
      | true =>
        rw [h2] at hp; simp at hp; subst hp
        have := Nat.eq_of_beq_eq_true h2; subst this
        exact itoa_ok (C := NC) (x := 3) rfl Tryz.laysM171 (callable Tryz.func161 (by kernel_rfl) (by kernel_rfl)) rfl (by kernel_rfl) h lo H
      | false =>
        rw [h2] at hp
        cases h3 : Nat.beq f 160 with
        | true =>
          rw [h3] at hp; simp at hp; subst hp
          have := Nat.eq_of_beq_eq_true h3; subst this
          exact join_ok (C := NC) rfl Tryz.lays156 Tryz.Builder_Extra_156 (callable Tryz.func160 (by kernel_rfl) (by kernel_rfl)) h lo H
        | false => rw [h3] at hp; simp at hp
  hprim := fun f p lo args H v H' hp h hl => by
    unfold NC at hp
    simp only [] at hp
    cases h1 : Nat.beq f 209 with
    | true =>
      rw [h1] at hp; simp at hp; subst hp
      have := Nat.eq_of_beq_eq_true h1; subst this
      exact copyCheck_ok (C := NC) (ρ := Tryz.lays156_ren) rfl { Tryz.lays156 with } Tryz.Builder_Extra_156.toX72 (callable Tryz.func209 (by kernel_rfl) (by kernel_rfl)) h
    | false =>
      rw [h1] at hp
      cases h2 : Nat.beq f 163 with
      | true =>
        rw [h2] at hp; simp at hp; subst hp
        have := Nat.eq_of_beq_eq_true h2; subst this
        exact string_ok (C := NC) (ρ := Tryz.lays156_ren) rfl { Tryz.lays156 with } Tryz.Builder_Extra_156 (callable Tryz.func163 (by kernel_rfl) (by kernel_rfl)) h
      | false => rw [h2] at hp; simp at hp
end Go.Sim

/-
Facts on the types and the regions of this program.
-/
namespace Go.Sim
open Go Go.Proofs
theorem rfP {P : FuncId → Option (List AV → Option AV)} {f : FuncId} {t : TypeId} (h : refM.testBit f = false) : (NC.withPrims P).refApp f t = false := by show (refM.testBit f && refT.testBit t) = false; rw [h]; rfl
noncomputable def fplace (t i : Nat) : Option (Nat × Nat) := match NC.P.underlying t with
  | some (.struct fs) => fieldPlaces NC.P fs i
  | _ => none
theorem sz_26 : szOf NC.P 26 = some 3 := by kernel_rfl
theorem ag_26 : aggOf NC.P 26 = some true := by kernel_rfl
theorem sz_9 : szOf NC.P 9 = some 1 := by kernel_rfl
theorem ag_9 : aggOf NC.P 9 = some false := by kernel_rfl
theorem un_9 : NC.P.underlying 9 = some (.string) := by kernel_rfl
theorem sz_28 : szOf NC.P 28 = some 2 := by kernel_rfl
theorem ag_28 : aggOf NC.P 28 = some true := by kernel_rfl
theorem ze_42 : zeroOf NC.P 42 = some (.agg [.str [], .int .i64 0, .int .i64 0]) := by kernel_rfl
theorem sz_42 : szOf NC.P 42 = some 3 := by kernel_rfl
theorem sz_30 : szOf NC.P 30 = some 3 := by kernel_rfl
theorem ag_30 : aggOf NC.P 30 = some true := by kernel_rfl
theorem ze_45 : zeroOf NC.P 45 = some (.agg [.str [], .int .i64 0]) := by kernel_rfl
theorem sz_45 : szOf NC.P 45 = some 2 := by kernel_rfl
theorem ze_30 : zeroOf NC.P 30 = some (.agg [.str [], .int .i64 0, .int .i64 0]) := by kernel_rfl
theorem ze_28 : zeroOf NC.P 28 = some (.agg [.str [], .int .i64 0]) := by kernel_rfl
theorem sz_22 : szOf NC.P 22 = some 1 := by kernel_rfl
theorem ag_22 : aggOf NC.P 22 = some false := by kernel_rfl
theorem un_22 : NC.P.underlying 22 = some (.slice 56) := by kernel_rfl
theorem sz_56 : szOf NC.P 56 = some 2 := by kernel_rfl
theorem ag_56 : aggOf NC.P 56 = some true := by kernel_rfl
theorem un_3 : NC.P.underlying 3 = some (.int .i64) := by kernel_rfl
theorem un_33 : NC.P.underlying 33 = some (.int .i64) := by kernel_rfl
theorem ag_42 : aggOf NC.P 42 = some true := by kernel_rfl
theorem ag_45 : aggOf NC.P 45 = some true := by kernel_rfl
theorem sz_3 : szOf NC.P 3 = some 1 := by kernel_rfl
theorem ag_3 : aggOf NC.P 3 = some false := by kernel_rfl
theorem el_70 : elemOf NC.P 70 = some 3 := by kernel_rfl
theorem ze_3 : zeroOf NC.P 3 = some (.int .i64 0) := by kernel_rfl
theorem un_70 : NC.P.underlying 70 = some (.slice 3) := by kernel_rfl
theorem un_63 : NC.P.underlying 63 = some (.slice 224) := by kernel_rfl
theorem un_72 : NC.P.underlying 72 = some (.slice 185) := by kernel_rfl
theorem un_79 : NC.P.underlying 79 = some (.slice 128) := by kernel_rfl
theorem un_80 : NC.P.underlying 80 = some (.array 2 26) := by kernel_rfl
theorem un_83 : NC.P.underlying 83 = some (.slice 130) := by kernel_rfl
theorem un_4 : NC.P.underlying 4 = some (.bool) := by kernel_rfl
theorem ze_56 : zeroOf NC.P 56 = some (.agg [.str [], .ps .nil []]) := by kernel_rfl
theorem bs_45 (parts : List (Nat × AV)) : abuild NC.P 45 parts = match afill (fun i => fplace 45 i) [.str [], .int .i64 0] parts with
    | some cs => some (.agg cs)
    | none => none := by kernel_rfl
theorem fp_45_0 : fplace 45 0 = some (0, 1) := by kernel_rfl
theorem fp_45_1 : fplace 45 1 = some (1, 1) := by kernel_rfl
theorem un_95 : NC.P.underlying 95 = some (.map 42 4) := by kernel_rfl
theorem ze_4 : zeroOf NC.P 4 = some (.bool false) := by kernel_rfl
theorem sz_54 : szOf NC.P 54 = some 1 := by kernel_rfl
theorem ag_54 : aggOf NC.P 54 = some false := by kernel_rfl
theorem un_54 : NC.P.underlying 54 = some (.slice 97) := by kernel_rfl
theorem sz_97 : szOf NC.P 97 = some 3 := by kernel_rfl
theorem sz_4 : szOf NC.P 4 = some 1 := by kernel_rfl
theorem ag_4 : aggOf NC.P 4 = some false := by kernel_rfl
theorem un_94 : NC.P.underlying 94 = some (.int .u16) := by kernel_rfl
theorem un_98 : NC.P.underlying 98 = some (.slice 42) := by kernel_rfl
theorem un_107 : NC.P.underlying 107 = some (.slice 137) := by kernel_rfl
theorem un_113 : NC.P.underlying 113 = some (.slice 135) := by kernel_rfl
theorem un_114 : NC.P.underlying 114 = some (.array 2 3) := by kernel_rfl
theorem un_117 : NC.P.underlying 117 = some (.slice 188) := by kernel_rfl
theorem sz_128 : szOf NC.P 128 = some 6 := by kernel_rfl
theorem ag_128 : aggOf NC.P 128 = some true := by kernel_rfl
theorem ze_128 : zeroOf NC.P 128 = some (.agg [.str [], .int .i64 0, .int .i64 0, .str [], .int .i64 0, .bool false]) := by kernel_rfl
theorem el_129 : elemOf NC.P 129 = some 83 := by kernel_rfl
theorem sz_83 : szOf NC.P 83 = some 1 := by kernel_rfl
theorem ze_83 : zeroOf NC.P 83 = some (.ps .nil []) := by kernel_rfl
theorem un_129 : NC.P.underlying 129 = some (.slice 83) := by kernel_rfl
theorem ag_83 : aggOf NC.P 83 = some false := by kernel_rfl
theorem sz_130 : szOf NC.P 130 = some 6 := by kernel_rfl
theorem ag_130 : aggOf NC.P 130 = some true := by kernel_rfl
theorem ze_130 : zeroOf NC.P 130 = some (.agg [.str [], .int .i64 0, .int .i64 0, .str [], .int .i64 0, .bool false]) := by kernel_rfl
theorem ze_133 : zeroOf NC.P 133 = some (.agg [.int .i64 0, .int .i64 0, .int .i64 0]) := by kernel_rfl
theorem un_131 : NC.P.underlying 131 = some (.array 3 5) := by kernel_rfl
theorem sz_5 : szOf NC.P 5 = some 1 := by kernel_rfl
theorem ag_5 : aggOf NC.P 5 = some false := by kernel_rfl
theorem un_5 : NC.P.underlying 5 = some (.int .u8) := by kernel_rfl
theorem un_133 : NC.P.underlying 133 = some (.array 3 3) := by kernel_rfl
theorem sz_135 : szOf NC.P 135 = some 5 := by kernel_rfl
theorem un_132 : NC.P.underlying 132 = some (.array 2 5) := by kernel_rfl
theorem sz_137 : szOf NC.P 137 = some 4 := by kernel_rfl
theorem ag_137 : aggOf NC.P 137 = some true := by kernel_rfl
theorem un_137 : NC.P.underlying 137 = some (.array 2 28) := by kernel_rfl
theorem un_138 : NC.P.underlying 138 = some (.slice 141) := by kernel_rfl
theorem sz_141 : szOf NC.P 141 = some 3 := by kernel_rfl
theorem ag_141 : aggOf NC.P 141 = some true := by kernel_rfl
theorem ze_141 : zeroOf NC.P 141 = some (.agg [.str [], .int .i64 0, .int .i64 0]) := by kernel_rfl
theorem un_142 : NC.P.underlying 142 = some (.slice 157) := by kernel_rfl
theorem ze_156 : zeroOf NC.P 156 = some (.agg [.str [], .int .i64 0, .str [], .int .i64 0, .str [], .int .i64 0]) := by kernel_rfl
theorem un_155 : NC.P.underlying 155 = some (.array 3 132) := by kernel_rfl
theorem sz_132 : szOf NC.P 132 = some 2 := by kernel_rfl
theorem un_156 : NC.P.underlying 156 = some (.array 3 45) := by kernel_rfl
theorem sz_157 : szOf NC.P 157 = some 3 := by kernel_rfl
theorem ag_157 : aggOf NC.P 157 = some true := by kernel_rfl
theorem ze_157 : zeroOf NC.P 157 = some (.agg [.str [], .int .i64 0, .int .i64 0]) := by kernel_rfl
theorem bs_157 (parts : List (Nat × AV)) : abuild NC.P 157 parts = match afill (fun i => fplace 157 i) [.str [], .int .i64 0, .int .i64 0] parts with
    | some cs => some (.agg cs)
    | none => none := by kernel_rfl
theorem fp_157_0 : fplace 157 0 = some (0, 1) := by kernel_rfl
theorem fp_157_1 : fplace 157 1 = some (1, 1) := by kernel_rfl
theorem fp_157_2 : fplace 157 2 = some (2, 1) := by kernel_rfl
theorem el_142 : elemOf NC.P 142 = some 157 := by kernel_rfl
theorem by_157 : bytesOf NC.P 157 = some 32 := by kernel_rfl
theorem un_163 : NC.P.underlying 163 = some (.slice 30) := by kernel_rfl
theorem un_160 : NC.P.underlying 160 = some (.slice 9) := by kernel_rfl
theorem ze_40 : zeroOf NC.P 40 = some (.agg [.ps .nil [], .ps .nil [], .ps .nil []]) := by kernel_rfl
theorem sz_40 : szOf NC.P 40 = some 3 := by kernel_rfl
theorem ze_26 : zeroOf NC.P 26 = some (.agg [.ps .nil [], .ps .nil [], .ps .nil []]) := by kernel_rfl
theorem ag_40 : aggOf NC.P 40 = some true := by kernel_rfl
theorem sz_23 : szOf NC.P 23 = some 1 := by kernel_rfl
theorem ag_23 : aggOf NC.P 23 = some false := by kernel_rfl
theorem un_23 : NC.P.underlying 23 = some (.slice 191) := by kernel_rfl
theorem sz_24 : szOf NC.P 24 = some 1 := by kernel_rfl
theorem ag_24 : aggOf NC.P 24 = some false := by kernel_rfl
theorem un_24 : NC.P.underlying 24 = some (.slice 193) := by kernel_rfl
theorem bs_42 (parts : List (Nat × AV)) : abuild NC.P 42 parts = match afill (fun i => fplace 42 i) [.str [], .int .i64 0, .int .i64 0] parts with
    | some cs => some (.agg cs)
    | none => none := by kernel_rfl
theorem fp_42_0 : fplace 42 0 = some (0, 1) := by kernel_rfl
theorem fp_42_1 : fplace 42 1 = some (1, 1) := by kernel_rfl
theorem fp_42_2 : fplace 42 2 = some (2, 1) := by kernel_rfl
theorem bs_30 (parts : List (Nat × AV)) : abuild NC.P 30 parts = match afill (fun i => fplace 30 i) [.str [], .int .i64 0, .int .i64 0] parts with
    | some cs => some (.agg cs)
    | none => none := by kernel_rfl
theorem fp_30_0 : fplace 30 0 = some (0, 1) := by kernel_rfl
theorem fp_30_1 : fplace 30 1 = some (1, 1) := by kernel_rfl
theorem fp_30_2 : fplace 30 2 = some (2, 1) := by kernel_rfl
theorem el_163 : elemOf NC.P 163 = some 30 := by kernel_rfl
theorem bs_141 (parts : List (Nat × AV)) : abuild NC.P 141 parts = match afill (fun i => fplace 141 i) [.str [], .int .i64 0, .int .i64 0] parts with
    | some cs => some (.agg cs)
    | none => none := by kernel_rfl
theorem fp_141_0 : fplace 141 0 = some (0, 1) := by kernel_rfl
theorem fp_141_1 : fplace 141 1 = some (1, 1) := by kernel_rfl
theorem fp_141_2 : fplace 141 2 = some (2, 1) := by kernel_rfl
theorem el_138 : elemOf NC.P 138 = some 141 := by kernel_rfl
theorem ze_183 : zeroOf NC.P 183 = some (.agg [.int .i64 0, .int .i64 0]) := by kernel_rfl
theorem bs_183 (parts : List (Nat × AV)) : abuild NC.P 183 parts = match afill (fun i => fplace 183 i) [.int .i64 0, .int .i64 0] parts with
    | some cs => some (.agg cs)
    | none => none := by kernel_rfl
theorem fp_183_0 : fplace 183 0 = some (0, 1) := by kernel_rfl
theorem fp_183_1 : fplace 183 1 = some (1, 1) := by kernel_rfl
theorem ze_185 : zeroOf NC.P 185 = some (.agg [.str [], .int .i64 0, .int .i64 0]) := by kernel_rfl
theorem bs_185 (parts : List (Nat × AV)) : abuild NC.P 185 parts = match afill (fun i => fplace 185 i) [.str [], .int .i64 0, .int .i64 0] parts with
    | some cs => some (.agg cs)
    | none => none := by kernel_rfl
theorem fp_185_0 : fplace 185 0 = some (0, 1) := by kernel_rfl
theorem fp_185_1 : fplace 185 1 = some (1, 2) := by kernel_rfl
theorem el_72 : elemOf NC.P 72 = some 185 := by kernel_rfl
theorem sz_185 : szOf NC.P 185 = some 3 := by kernel_rfl
theorem bs_130 (parts : List (Nat × AV)) : abuild NC.P 130 parts = match afill (fun i => fplace 130 i) [.str [], .int .i64 0, .int .i64 0, .str [], .int .i64 0, .bool false] parts with
    | some cs => some (.agg cs)
    | none => none := by kernel_rfl
theorem fp_130_0 : fplace 130 0 = some (0, 1) := by kernel_rfl
theorem fp_130_1 : fplace 130 1 = some (1, 1) := by kernel_rfl
theorem fp_130_2 : fplace 130 2 = some (2, 1) := by kernel_rfl
theorem fp_130_3 : fplace 130 3 = some (3, 1) := by kernel_rfl
theorem fp_130_4 : fplace 130 4 = some (4, 1) := by kernel_rfl
theorem fp_130_5 : fplace 130 5 = some (5, 1) := by kernel_rfl
theorem el_83 : elemOf NC.P 83 = some 130 := by kernel_rfl
theorem ze_188 : zeroOf NC.P 188 = some (.agg [.int .i64 0, .ps .nil [], .ps .nil [], .ps .nil [], .ps .nil []]) := by kernel_rfl
theorem bs_188 (parts : List (Nat × AV)) : abuild NC.P 188 parts = match afill (fun i => fplace 188 i) [.int .i64 0, .ps .nil [], .ps .nil [], .ps .nil [], .ps .nil []] parts with
    | some cs => some (.agg cs)
    | none => none := by kernel_rfl
theorem fp_188_0 : fplace 188 0 = some (0, 1) := by kernel_rfl
theorem fp_188_1 : fplace 188 1 = some (1, 3) := by kernel_rfl
theorem fp_188_2 : fplace 188 2 = some (4, 1) := by kernel_rfl
theorem el_117 : elemOf NC.P 117 = some 188 := by kernel_rfl
theorem sz_188 : szOf NC.P 188 = some 5 := by kernel_rfl
theorem bs_128 (parts : List (Nat × AV)) : abuild NC.P 128 parts = match afill (fun i => fplace 128 i) [.str [], .int .i64 0, .int .i64 0, .str [], .int .i64 0, .bool false] parts with
    | some cs => some (.agg cs)
    | none => none := by kernel_rfl
theorem fp_128_0 : fplace 128 0 = some (0, 1) := by kernel_rfl
theorem fp_128_1 : fplace 128 1 = some (1, 1) := by kernel_rfl
theorem fp_128_2 : fplace 128 2 = some (2, 1) := by kernel_rfl
theorem fp_128_3 : fplace 128 3 = some (3, 1) := by kernel_rfl
theorem fp_128_4 : fplace 128 4 = some (4, 1) := by kernel_rfl
theorem fp_128_5 : fplace 128 5 = some (5, 1) := by kernel_rfl
theorem el_79 : elemOf NC.P 79 = some 128 := by kernel_rfl
theorem sz_191 : szOf NC.P 191 = some 5 := by kernel_rfl
theorem ag_191 : aggOf NC.P 191 = some true := by kernel_rfl
theorem ze_191 : zeroOf NC.P 191 = some (.agg [.str [], .str [], .int .i64 0, .str [], .bool false]) := by kernel_rfl
theorem sz_193 : szOf NC.P 193 = some 5 := by kernel_rfl
theorem ag_193 : aggOf NC.P 193 = some true := by kernel_rfl
theorem ze_193 : zeroOf NC.P 193 = some (.agg [.str [], .str [], .str [], .int .i64 0, .int .i64 0]) := by kernel_rfl
theorem ze_196 : zeroOf NC.P 196 = some (.agg [.str [], .ps .nil []]) := by kernel_rfl
theorem sz_196 : szOf NC.P 196 = some 2 := by kernel_rfl
theorem ag_196 : aggOf NC.P 196 = some true := by kernel_rfl
theorem bs_196 (parts : List (Nat × AV)) : abuild NC.P 196 parts = match afill (fun i => fplace 196 i) [.str [], .ps .nil []] parts with
    | some cs => some (.agg cs)
    | none => none := by kernel_rfl
theorem fp_196_0 : fplace 196 0 = some (0, 1) := by kernel_rfl
theorem fp_196_1 : fplace 196 1 = some (1, 1) := by kernel_rfl
theorem ag_97 : aggOf NC.P 97 = some true := by kernel_rfl
theorem ze_97 : zeroOf NC.P 97 = some (.agg [.int .i64 0, .int .i64 0, .bool false]) := by kernel_rfl
theorem sz_194 : szOf NC.P 194 = some 1 := by kernel_rfl
theorem ag_194 : aggOf NC.P 194 = some false := by kernel_rfl
theorem el_194 : elemOf NC.P 194 = some 200 := by kernel_rfl
theorem sz_200 : szOf NC.P 200 = some 3 := by kernel_rfl
theorem ze_200 : zeroOf NC.P 200 = some (.agg [.int .i64 0, .int .i64 0, .bool false]) := by kernel_rfl
theorem un_194 : NC.P.underlying 194 = some (.slice 200) := by kernel_rfl
theorem by_200 : bytesOf NC.P 200 = some 24 := by kernel_rfl
theorem sz_36 : szOf NC.P 36 = some 1 := by kernel_rfl
theorem ag_36 : aggOf NC.P 36 = some false := by kernel_rfl
theorem el_36 : elemOf NC.P 36 = some 196 := by kernel_rfl
theorem un_36 : NC.P.underlying 36 = some (.slice 196) := by kernel_rfl
theorem by_196 : bytesOf NC.P 196 = some 40 := by kernel_rfl
theorem sz_37 : szOf NC.P 37 = some 1 := by kernel_rfl
theorem ag_37 : aggOf NC.P 37 = some false := by kernel_rfl
theorem el_37 : elemOf NC.P 37 = some 201 := by kernel_rfl
theorem sz_201 : szOf NC.P 201 = some 5 := by kernel_rfl
theorem ze_201 : zeroOf NC.P 201 = some (.agg [.str [], .str [], .int .i64 0, .str [], .bool false]) := by kernel_rfl
theorem un_37 : NC.P.underlying 37 = some (.slice 201) := by kernel_rfl
theorem by_201 : bytesOf NC.P 201 = some 64 := by kernel_rfl
theorem sz_38 : szOf NC.P 38 = some 1 := by kernel_rfl
theorem ag_38 : aggOf NC.P 38 = some false := by kernel_rfl
theorem el_38 : elemOf NC.P 38 = some 202 := by kernel_rfl
theorem sz_202 : szOf NC.P 202 = some 5 := by kernel_rfl
theorem ze_202 : zeroOf NC.P 202 = some (.agg [.str [], .str [], .str [], .int .i64 0, .int .i64 0]) := by kernel_rfl
theorem un_38 : NC.P.underlying 38 = some (.slice 202) := by kernel_rfl
theorem by_202 : bytesOf NC.P 202 = some 64 := by kernel_rfl
theorem bs_28 (parts : List (Nat × AV)) : abuild NC.P 28 parts = match afill (fun i => fplace 28 i) [.str [], .int .i64 0] parts with
    | some cs => some (.agg cs)
    | none => none := by kernel_rfl
theorem fp_28_0 : fplace 28 0 = some (0, 1) := by kernel_rfl
theorem fp_28_1 : fplace 28 1 = some (1, 1) := by kernel_rfl
theorem el_234 : elemOf NC.P 234 = some 33 := by kernel_rfl
theorem sz_33 : szOf NC.P 33 = some 1 := by kernel_rfl
theorem ze_33 : zeroOf NC.P 33 = some (.int .i64 0) := by kernel_rfl
theorem un_234 : NC.P.underlying 234 = some (.slice 33) := by kernel_rfl
theorem el_314 : elemOf NC.P 314 = some 45 := by kernel_rfl
theorem un_314 : NC.P.underlying 314 = some (.slice 45) := by kernel_rfl
theorem un_216 : NC.P.underlying 216 = some (.slice 220) := by kernel_rfl
theorem sz_220 : szOf NC.P 220 = some 3 := by kernel_rfl
theorem ag_220 : aggOf NC.P 220 = some true := by kernel_rfl
theorem ze_220 : zeroOf NC.P 220 = some (.agg [.str [], .int .i64 0, .int .i64 0]) := by kernel_rfl
theorem el_218 : elemOf NC.P 218 = some 183 := by kernel_rfl
theorem sz_183 : szOf NC.P 183 = some 2 := by kernel_rfl
theorem un_218 : NC.P.underlying 218 = some (.slice 183) := by kernel_rfl
theorem by_183 : bytesOf NC.P 183 = some 16 := by kernel_rfl
theorem ag_183 : aggOf NC.P 183 = some true := by kernel_rfl
theorem sz_224 : szOf NC.P 224 = some 3 := by kernel_rfl
theorem ze_224 : zeroOf NC.P 224 = some (.agg [.str [], .int .i64 0, .int .i64 0]) := by kernel_rfl
theorem bs_224 (parts : List (Nat × AV)) : abuild NC.P 224 parts = match afill (fun i => fplace 224 i) [.str [], .int .i64 0, .int .i64 0] parts with
    | some cs => some (.agg cs)
    | none => none := by kernel_rfl
theorem fp_224_0 : fplace 224 0 = some (0, 1) := by kernel_rfl
theorem fp_224_1 : fplace 224 1 = some (1, 2) := by kernel_rfl
theorem el_63 : elemOf NC.P 63 = some 224 := by kernel_rfl
theorem by_224 : bytesOf NC.P 224 = some 32 := by kernel_rfl
theorem ag_202 : aggOf NC.P 202 = some true := by kernel_rfl
theorem by_185 : bytesOf NC.P 185 = some 32 := by kernel_rfl
theorem ag_185 : aggOf NC.P 185 = some true := by kernel_rfl
theorem ag_224 : aggOf NC.P 224 = some true := by kernel_rfl
theorem by_130 : bytesOf NC.P 130 = some 64 := by kernel_rfl
theorem ag_200 : aggOf NC.P 200 = some true := by kernel_rfl
theorem el_98 : elemOf NC.P 98 = some 42 := by kernel_rfl
theorem by_42 : bytesOf NC.P 42 = some 32 := by kernel_rfl
theorem by_128 : bytesOf NC.P 128 = some 64 := by kernel_rfl
theorem ze_137 : zeroOf NC.P 137 = some (.agg [.str [], .int .i64 0, .str [], .int .i64 0]) := by kernel_rfl
theorem el_107 : elemOf NC.P 107 = some 137 := by kernel_rfl
theorem by_137 : bytesOf NC.P 137 = some 48 := by kernel_rfl
theorem sz_79 : szOf NC.P 79 = some 1 := by kernel_rfl
theorem ag_79 : aggOf NC.P 79 = some false := by kernel_rfl
theorem ag_135 : aggOf NC.P 135 = some true := by kernel_rfl
theorem ze_135 : zeroOf NC.P 135 = some (.agg [.int .i64 0, .ps .nil [], .ps .nil [], .ps .nil [], .ps .nil []]) := by kernel_rfl
theorem by_188 : bytesOf NC.P 188 = some 104 := by kernel_rfl
theorem ag_188 : aggOf NC.P 188 = some true := by kernel_rfl
theorem ze_246 : zeroOf NC.P 246 = some (.agg [.ps .nil [], .int .i64 0]) := by kernel_rfl
theorem sz_246 : szOf NC.P 246 = some 2 := by kernel_rfl
theorem sz_142 : szOf NC.P 142 = some 1 := by kernel_rfl
theorem ag_142 : aggOf NC.P 142 = some false := by kernel_rfl
theorem un_254 : NC.P.underlying 254 = some (.slice 4) := by kernel_rfl
theorem un_252 : NC.P.underlying 252 = some (.slice 138) := by kernel_rfl
theorem sz_138 : szOf NC.P 138 = some 1 := by kernel_rfl
theorem ag_138 : aggOf NC.P 138 = some false := by kernel_rfl
theorem by_141 : bytesOf NC.P 141 = some 32 := by kernel_rfl
theorem ag_201 : aggOf NC.P 201 = some true := by kernel_rfl
theorem un_259 : NC.P.underlying 259 = some (.array 2 45) := by kernel_rfl
theorem ze_262 : zeroOf NC.P 262 = some (.agg [.str [], .str [], .int .i64 0, .str [], .bool false, .int .i64 0]) := by kernel_rfl
theorem bs_262 (parts : List (Nat × AV)) : abuild NC.P 262 parts = match afill (fun i => fplace 262 i) [.str [], .str [], .int .i64 0, .str [], .bool false, .int .i64 0] parts with
    | some cs => some (.agg cs)
    | none => none := by kernel_rfl
theorem fp_262_0 : fplace 262 0 = some (0, 5) := by kernel_rfl
theorem fp_262_1 : fplace 262 1 = some (5, 1) := by kernel_rfl
theorem el_258 : elemOf NC.P 258 = some 262 := by kernel_rfl
theorem sz_262 : szOf NC.P 262 = some 6 := by kernel_rfl
theorem un_258 : NC.P.underlying 258 = some (.slice 262) := by kernel_rfl
theorem by_262 : bytesOf NC.P 262 = some 72 := by kernel_rfl
theorem by_30 : bytesOf NC.P 30 = some 32 := by kernel_rfl
theorem el_160 : elemOf NC.P 160 = some 9 := by kernel_rfl
theorem ze_9 : zeroOf NC.P 9 = some (.str []) := by kernel_rfl
theorem by_9 : bytesOf NC.P 9 = some 16 := by kernel_rfl
theorem ze_272 : zeroOf NC.P 272 = some (.agg [.nilp, .ps .nil []]) := by kernel_rfl
theorem sz_281 : szOf NC.P 281 = some 2 := by kernel_rfl
theorem ag_281 : aggOf NC.P 281 = some true := by kernel_rfl
theorem un_281 : NC.P.underlying 281 = some (.array 2 9) := by kernel_rfl
theorem bs_40 (parts : List (Nat × AV)) : abuild NC.P 40 parts = match afill (fun i => fplace 40 i) [.ps .nil [], .ps .nil [], .ps .nil []] parts with
    | some cs => some (.agg cs)
    | none => none := by kernel_rfl
theorem fp_40_0 : fplace 40 0 = some (0, 1) := by kernel_rfl
theorem fp_40_1 : fplace 40 1 = some (1, 1) := by kernel_rfl
theorem fp_40_2 : fplace 40 2 = some (2, 1) := by kernel_rfl
theorem ze_291 : zeroOf NC.P 291 = some (.agg [.ps .nil [], .bool false]) := by kernel_rfl
theorem bs_291 (parts : List (Nat × AV)) : abuild NC.P 291 parts = match afill (fun i => fplace 291 i) [.ps .nil [], .bool false] parts with
    | some cs => some (.agg cs)
    | none => none := by kernel_rfl
theorem fp_291_0 : fplace 291 0 = some (0, 1) := by kernel_rfl
theorem fp_291_1 : fplace 291 1 = some (1, 1) := by kernel_rfl
theorem un_293 : NC.P.underlying 293 = some (.slice 296) := by kernel_rfl
theorem sz_296 : szOf NC.P 296 = some 3 := by kernel_rfl
theorem sz_294 : szOf NC.P 294 = some 1 := by kernel_rfl
theorem ag_294 : aggOf NC.P 294 = some false := by kernel_rfl
theorem sz_160 : szOf NC.P 160 = some 1 := by kernel_rfl
theorem ag_160 : aggOf NC.P 160 = some false := by kernel_rfl
theorem bs_56 (parts : List (Nat × AV)) : abuild NC.P 56 parts = match afill (fun i => fplace 56 i) [.str [], .ps .nil []] parts with
    | some cs => some (.agg cs)
    | none => none := by kernel_rfl
theorem fp_56_0 : fplace 56 0 = some (0, 1) := by kernel_rfl
theorem fp_56_1 : fplace 56 1 = some (1, 1) := by kernel_rfl
theorem el_54 : elemOf NC.P 54 = some 97 := by kernel_rfl
theorem by_97 : bytesOf NC.P 97 = some 24 := by kernel_rfl
theorem el_22 : elemOf NC.P 22 = some 56 := by kernel_rfl
theorem by_56 : bytesOf NC.P 56 = some 40 := by kernel_rfl
theorem el_23 : elemOf NC.P 23 = some 191 := by kernel_rfl
theorem by_191 : bytesOf NC.P 191 = some 64 := by kernel_rfl
theorem el_24 : elemOf NC.P 24 = some 193 := by kernel_rfl
theorem by_193 : bytesOf NC.P 193 = some 64 := by kernel_rfl
theorem bs_200 (parts : List (Nat × AV)) : abuild NC.P 200 parts = match afill (fun i => fplace 200 i) [.int .i64 0, .int .i64 0, .bool false] parts with
    | some cs => some (.agg cs)
    | none => none := by kernel_rfl
theorem fp_200_0 : fplace 200 0 = some (0, 1) := by kernel_rfl
theorem fp_200_1 : fplace 200 1 = some (1, 1) := by kernel_rfl
theorem fp_200_2 : fplace 200 2 = some (2, 1) := by kernel_rfl
theorem bs_201 (parts : List (Nat × AV)) : abuild NC.P 201 parts = match afill (fun i => fplace 201 i) [.str [], .str [], .int .i64 0, .str [], .bool false] parts with
    | some cs => some (.agg cs)
    | none => none := by kernel_rfl
theorem fp_201_0 : fplace 201 0 = some (0, 1) := by kernel_rfl
theorem fp_201_1 : fplace 201 1 = some (1, 1) := by kernel_rfl
theorem fp_201_2 : fplace 201 2 = some (2, 1) := by kernel_rfl
theorem fp_201_3 : fplace 201 3 = some (3, 1) := by kernel_rfl
theorem fp_201_4 : fplace 201 4 = some (4, 1) := by kernel_rfl
theorem bs_202 (parts : List (Nat × AV)) : abuild NC.P 202 parts = match afill (fun i => fplace 202 i) [.str [], .str [], .str [], .int .i64 0, .int .i64 0] parts with
    | some cs => some (.agg cs)
    | none => none := by kernel_rfl
theorem fp_202_0 : fplace 202 0 = some (0, 1) := by kernel_rfl
theorem fp_202_1 : fplace 202 1 = some (1, 1) := by kernel_rfl
theorem fp_202_2 : fplace 202 2 = some (2, 1) := by kernel_rfl
theorem fp_202_3 : fplace 202 3 = some (3, 2) := by kernel_rfl
theorem un_310 : NC.P.underlying 310 = some (.map 9 4) := by kernel_rfl
theorem ag_33 : aggOf NC.P 33 = some false := by kernel_rfl
theorem bs_220 (parts : List (Nat × AV)) : abuild NC.P 220 parts = match afill (fun i => fplace 220 i) [.str [], .int .i64 0, .int .i64 0] parts with
    | some cs => some (.agg cs)
    | none => none := by kernel_rfl
theorem fp_220_0 : fplace 220 0 = some (0, 2) := by kernel_rfl
theorem fp_220_1 : fplace 220 1 = some (2, 1) := by kernel_rfl
theorem el_216 : elemOf NC.P 216 = some 220 := by kernel_rfl
theorem ze_259 : zeroOf NC.P 259 = some (.agg [.str [], .int .i64 0, .str [], .int .i64 0]) := by kernel_rfl
theorem sz_259 : szOf NC.P 259 = some 4 := by kernel_rfl
theorem un_316 : NC.P.underlying 316 = some (.map 45 246) := by kernel_rfl
theorem by_220 : bytesOf NC.P 220 = some 32 := by kernel_rfl
theorem un_320 : NC.P.underlying 320 = some (.int .u64) := by kernel_rfl
theorem by_3 : bytesOf NC.P 3 = some 8 := by kernel_rfl
theorem by_33 : bytesOf NC.P 33 = some 8 := by kernel_rfl
theorem bs_246 (parts : List (Nat × AV)) : abuild NC.P 246 parts = match afill (fun i => fplace 246 i) [.ps .nil [], .int .i64 0] parts with
    | some cs => some (.agg cs)
    | none => none := by kernel_rfl
theorem fp_246_0 : fplace 246 0 = some (0, 1) := by kernel_rfl
theorem fp_246_1 : fplace 246 1 = some (1, 1) := by kernel_rfl
theorem ag_259 : aggOf NC.P 259 = some true := by kernel_rfl
theorem ze_334 : zeroOf NC.P 334 = some (.agg [.str [], .int .i64 0, .str [], .int .i64 0, .str [], .int .i64 0, .str [], .int .i64 0]) := by kernel_rfl
theorem un_334 : NC.P.underlying 334 = some (.array 2 259) := by kernel_rfl
theorem ag_246 : aggOf NC.P 246 = some true := by kernel_rfl
theorem el_252 : elemOf NC.P 252 = some 138 := by kernel_rfl
theorem ze_138 : zeroOf NC.P 138 = some (.ps .nil []) := by kernel_rfl
theorem by_138 : bytesOf NC.P 138 = some 24 := by kernel_rfl
theorem el_254 : elemOf NC.P 254 = some 4 := by kernel_rfl
theorem by_4 : bytesOf NC.P 4 = some 1 := by kernel_rfl
theorem ag_262 : aggOf NC.P 262 = some true := by kernel_rfl
theorem sz_270 : szOf NC.P 270 = some 1 := by kernel_rfl
theorem ag_270 : aggOf NC.P 270 = some false := by kernel_rfl
theorem un_270 : NC.P.underlying 270 = some (.slice 5) := by kernel_rfl
theorem el_270 : elemOf NC.P 270 = some 5 := by kernel_rfl
theorem by_5 : bytesOf NC.P 5 = some 1 := by kernel_rfl
theorem ze_5 : zeroOf NC.P 5 = some (.int .u8 0) := by kernel_rfl
theorem ag_296 : aggOf NC.P 296 = some true := by kernel_rfl
theorem ze_296 : zeroOf NC.P 296 = some (.agg [.str [], .int .i64 0, .nilf]) := by kernel_rfl
theorem bs_296 (parts : List (Nat × AV)) : abuild NC.P 296 parts = match afill (fun i => fplace 296 i) [.str [], .int .i64 0, .nilf] parts with
    | some cs => some (.agg cs)
    | none => none := by kernel_rfl
theorem fp_296_0 : fplace 296 0 = some (0, 1) := by kernel_rfl
theorem fp_296_1 : fplace 296 1 = some (1, 1) := by kernel_rfl
theorem fp_296_2 : fplace 296 2 = some (2, 1) := by kernel_rfl
theorem el_293 : elemOf NC.P 293 = some 296 := by kernel_rfl
theorem bs_97 (parts : List (Nat × AV)) : abuild NC.P 97 parts = match afill (fun i => fplace 97 i) [.int .i64 0, .int .i64 0, .bool false] parts with
    | some cs => some (.agg cs)
    | none => none := by kernel_rfl
theorem fp_97_0 : fplace 97 0 = some (0, 1) := by kernel_rfl
theorem fp_97_1 : fplace 97 1 = some (1, 1) := by kernel_rfl
theorem fp_97_2 : fplace 97 2 = some (2, 1) := by kernel_rfl
theorem bs_191 (parts : List (Nat × AV)) : abuild NC.P 191 parts = match afill (fun i => fplace 191 i) [.str [], .str [], .int .i64 0, .str [], .bool false] parts with
    | some cs => some (.agg cs)
    | none => none := by kernel_rfl
theorem fp_191_0 : fplace 191 0 = some (0, 1) := by kernel_rfl
theorem fp_191_1 : fplace 191 1 = some (1, 1) := by kernel_rfl
theorem fp_191_2 : fplace 191 2 = some (2, 1) := by kernel_rfl
theorem fp_191_3 : fplace 191 3 = some (3, 1) := by kernel_rfl
theorem fp_191_4 : fplace 191 4 = some (4, 1) := by kernel_rfl
theorem bs_193 (parts : List (Nat × AV)) : abuild NC.P 193 parts = match afill (fun i => fplace 193 i) [.str [], .str [], .str [], .int .i64 0, .int .i64 0] parts with
    | some cs => some (.agg cs)
    | none => none := by kernel_rfl
theorem fp_193_0 : fplace 193 0 = some (0, 1) := by kernel_rfl
theorem fp_193_1 : fplace 193 1 = some (1, 1) := by kernel_rfl
theorem fp_193_2 : fplace 193 2 = some (2, 1) := by kernel_rfl
theorem fp_193_3 : fplace 193 3 = some (3, 2) := by kernel_rfl
theorem un_21 : NC.P.underlying 21 = some (.int .i32) := by kernel_rfl
theorem ze_316 : zeroOf NC.P 316 = some (.nilm) := by kernel_rfl
theorem sz_316 : szOf NC.P 316 = some 1 := by kernel_rfl
theorem ag_316 : aggOf NC.P 316 = some false := by kernel_rfl
theorem un_359 : NC.P.underlying 359 = some (.int .u32) := by kernel_rfl
theorem un_361 : NC.P.underlying 361 = some (.int .u64) := by kernel_rfl
theorem fa_28_0 (id off : Nat) : afieldAddr NC.P 28 (.ptr id off) 0 = some (.ptr id (off + 0)) := by kernel_rfl
theorem fb_28_0 (cs : List AV) : afieldAddr NC.P 28 (.pptr cs) 0 = some (.pptr (cs.drop 0)) := by kernel_rfl
theorem fa_30_0 (id off : Nat) : afieldAddr NC.P 30 (.ptr id off) 0 = some (.ptr id (off + 0)) := by kernel_rfl
theorem fb_30_0 (cs : List AV) : afieldAddr NC.P 30 (.pptr cs) 0 = some (.pptr (cs.drop 0)) := by kernel_rfl
theorem fa_26_0 (id off : Nat) : afieldAddr NC.P 26 (.ptr id off) 0 = some (.ptr id (off + 0)) := by kernel_rfl
theorem fb_26_0 (cs : List AV) : afieldAddr NC.P 26 (.pptr cs) 0 = some (.pptr (cs.drop 0)) := by kernel_rfl
theorem fa_62_1 (id off : Nat) : afieldAddr NC.P 62 (.ptr id off) 1 = some (.ptr id (off + 1)) := by kernel_rfl
theorem fb_62_1 (cs : List AV) : afieldAddr NC.P 62 (.pptr cs) 1 = some (.pptr (cs.drop 1)) := by kernel_rfl
theorem fa_62_0 (id off : Nat) : afieldAddr NC.P 62 (.ptr id off) 0 = some (.ptr id (off + 0)) := by kernel_rfl
theorem fb_62_0 (cs : List AV) : afieldAddr NC.P 62 (.pptr cs) 0 = some (.pptr (cs.drop 0)) := by kernel_rfl
theorem fa_56_0 (id off : Nat) : afieldAddr NC.P 56 (.ptr id off) 0 = some (.ptr id (off + 0)) := by kernel_rfl
theorem fb_56_0 (cs : List AV) : afieldAddr NC.P 56 (.pptr cs) 0 = some (.pptr (cs.drop 0)) := by kernel_rfl
theorem fa_42_0 (id off : Nat) : afieldAddr NC.P 42 (.ptr id off) 0 = some (.ptr id (off + 0)) := by kernel_rfl
theorem fb_42_0 (cs : List AV) : afieldAddr NC.P 42 (.pptr cs) 0 = some (.pptr (cs.drop 0)) := by kernel_rfl
theorem fa_42_1 (id off : Nat) : afieldAddr NC.P 42 (.ptr id off) 1 = some (.ptr id (off + 1)) := by kernel_rfl
theorem fb_42_1 (cs : List AV) : afieldAddr NC.P 42 (.pptr cs) 1 = some (.pptr (cs.drop 1)) := by kernel_rfl
theorem fa_56_1 (id off : Nat) : afieldAddr NC.P 56 (.ptr id off) 1 = some (.ptr id (off + 1)) := by kernel_rfl
theorem fb_56_1 (cs : List AV) : afieldAddr NC.P 56 (.pptr cs) 1 = some (.pptr (cs.drop 1)) := by kernel_rfl
theorem fa_42_2 (id off : Nat) : afieldAddr NC.P 42 (.ptr id off) 2 = some (.ptr id (off + 2)) := by kernel_rfl
theorem fb_42_2 (cs : List AV) : afieldAddr NC.P 42 (.pptr cs) 2 = some (.pptr (cs.drop 2)) := by kernel_rfl
theorem fa_97_2 (id off : Nat) : afieldAddr NC.P 97 (.ptr id off) 2 = some (.ptr id (off + 2)) := by kernel_rfl
theorem fb_97_2 (cs : List AV) : afieldAddr NC.P 97 (.pptr cs) 2 = some (.pptr (cs.drop 2)) := by kernel_rfl
theorem fa_97_1 (id off : Nat) : afieldAddr NC.P 97 (.ptr id off) 1 = some (.ptr id (off + 1)) := by kernel_rfl
theorem fb_97_1 (cs : List AV) : afieldAddr NC.P 97 (.pptr cs) 1 = some (.pptr (cs.drop 1)) := by kernel_rfl
theorem fa_128_2 (id off : Nat) : afieldAddr NC.P 128 (.ptr id off) 2 = some (.ptr id (off + 2)) := by kernel_rfl
theorem fb_128_2 (cs : List AV) : afieldAddr NC.P 128 (.pptr cs) 2 = some (.pptr (cs.drop 2)) := by kernel_rfl
theorem fa_128_0 (id off : Nat) : afieldAddr NC.P 128 (.ptr id off) 0 = some (.ptr id (off + 0)) := by kernel_rfl
theorem fb_128_0 (cs : List AV) : afieldAddr NC.P 128 (.pptr cs) 0 = some (.pptr (cs.drop 0)) := by kernel_rfl
theorem fa_128_1 (id off : Nat) : afieldAddr NC.P 128 (.ptr id off) 1 = some (.ptr id (off + 1)) := by kernel_rfl
theorem fb_128_1 (cs : List AV) : afieldAddr NC.P 128 (.pptr cs) 1 = some (.pptr (cs.drop 1)) := by kernel_rfl
theorem fa_45_0 (id off : Nat) : afieldAddr NC.P 45 (.ptr id off) 0 = some (.ptr id (off + 0)) := by kernel_rfl
theorem fb_45_0 (cs : List AV) : afieldAddr NC.P 45 (.pptr cs) 0 = some (.pptr (cs.drop 0)) := by kernel_rfl
theorem fa_128_3 (id off : Nat) : afieldAddr NC.P 128 (.ptr id off) 3 = some (.ptr id (off + 3)) := by kernel_rfl
theorem fb_128_3 (cs : List AV) : afieldAddr NC.P 128 (.pptr cs) 3 = some (.pptr (cs.drop 3)) := by kernel_rfl
theorem fa_45_1 (id off : Nat) : afieldAddr NC.P 45 (.ptr id off) 1 = some (.ptr id (off + 1)) := by kernel_rfl
theorem fb_45_1 (cs : List AV) : afieldAddr NC.P 45 (.pptr cs) 1 = some (.pptr (cs.drop 1)) := by kernel_rfl
theorem fa_128_4 (id off : Nat) : afieldAddr NC.P 128 (.ptr id off) 4 = some (.ptr id (off + 4)) := by kernel_rfl
theorem fb_128_4 (cs : List AV) : afieldAddr NC.P 128 (.pptr cs) 4 = some (.pptr (cs.drop 4)) := by kernel_rfl
theorem fa_130_2 (id off : Nat) : afieldAddr NC.P 130 (.ptr id off) 2 = some (.ptr id (off + 2)) := by kernel_rfl
theorem fb_130_2 (cs : List AV) : afieldAddr NC.P 130 (.pptr cs) 2 = some (.pptr (cs.drop 2)) := by kernel_rfl
theorem fa_130_0 (id off : Nat) : afieldAddr NC.P 130 (.ptr id off) 0 = some (.ptr id (off + 0)) := by kernel_rfl
theorem fb_130_0 (cs : List AV) : afieldAddr NC.P 130 (.pptr cs) 0 = some (.pptr (cs.drop 0)) := by kernel_rfl
theorem fa_130_1 (id off : Nat) : afieldAddr NC.P 130 (.ptr id off) 1 = some (.ptr id (off + 1)) := by kernel_rfl
theorem fb_130_1 (cs : List AV) : afieldAddr NC.P 130 (.pptr cs) 1 = some (.pptr (cs.drop 1)) := by kernel_rfl
theorem fa_135_0 (id off : Nat) : afieldAddr NC.P 135 (.ptr id off) 0 = some (.ptr id (off + 0)) := by kernel_rfl
theorem fb_135_0 (cs : List AV) : afieldAddr NC.P 135 (.pptr cs) 0 = some (.pptr (cs.drop 0)) := by kernel_rfl
theorem fa_135_1 (id off : Nat) : afieldAddr NC.P 135 (.ptr id off) 1 = some (.ptr id (off + 1)) := by kernel_rfl
theorem fb_135_1 (cs : List AV) : afieldAddr NC.P 135 (.pptr cs) 1 = some (.pptr (cs.drop 1)) := by kernel_rfl
theorem fa_141_0 (id off : Nat) : afieldAddr NC.P 141 (.ptr id off) 0 = some (.ptr id (off + 0)) := by kernel_rfl
theorem fb_141_0 (cs : List AV) : afieldAddr NC.P 141 (.pptr cs) 0 = some (.pptr (cs.drop 0)) := by kernel_rfl
theorem fa_157_0 (id off : Nat) : afieldAddr NC.P 157 (.ptr id off) 0 = some (.ptr id (off + 0)) := by kernel_rfl
theorem fb_157_0 (cs : List AV) : afieldAddr NC.P 157 (.pptr cs) 0 = some (.pptr (cs.drop 0)) := by kernel_rfl
theorem fa_157_2 (id off : Nat) : afieldAddr NC.P 157 (.ptr id off) 2 = some (.ptr id (off + 2)) := by kernel_rfl
theorem fb_157_2 (cs : List AV) : afieldAddr NC.P 157 (.pptr cs) 2 = some (.pptr (cs.drop 2)) := by kernel_rfl
theorem fa_157_1 (id off : Nat) : afieldAddr NC.P 157 (.ptr id off) 1 = some (.ptr id (off + 1)) := by kernel_rfl
theorem fb_157_1 (cs : List AV) : afieldAddr NC.P 157 (.pptr cs) 1 = some (.pptr (cs.drop 1)) := by kernel_rfl
theorem fa_26_1 (id off : Nat) : afieldAddr NC.P 26 (.ptr id off) 1 = some (.ptr id (off + 1)) := by kernel_rfl
theorem fb_26_1 (cs : List AV) : afieldAddr NC.P 26 (.pptr cs) 1 = some (.pptr (cs.drop 1)) := by kernel_rfl
theorem fa_26_2 (id off : Nat) : afieldAddr NC.P 26 (.ptr id off) 2 = some (.ptr id (off + 2)) := by kernel_rfl
theorem fb_26_2 (cs : List AV) : afieldAddr NC.P 26 (.pptr cs) 2 = some (.pptr (cs.drop 2)) := by kernel_rfl
theorem fa_191_0 (id off : Nat) : afieldAddr NC.P 191 (.ptr id off) 0 = some (.ptr id (off + 0)) := by kernel_rfl
theorem fb_191_0 (cs : List AV) : afieldAddr NC.P 191 (.pptr cs) 0 = some (.pptr (cs.drop 0)) := by kernel_rfl
theorem fa_191_1 (id off : Nat) : afieldAddr NC.P 191 (.ptr id off) 1 = some (.ptr id (off + 1)) := by kernel_rfl
theorem fb_191_1 (cs : List AV) : afieldAddr NC.P 191 (.pptr cs) 1 = some (.pptr (cs.drop 1)) := by kernel_rfl
theorem fa_191_3 (id off : Nat) : afieldAddr NC.P 191 (.ptr id off) 3 = some (.ptr id (off + 3)) := by kernel_rfl
theorem fb_191_3 (cs : List AV) : afieldAddr NC.P 191 (.pptr cs) 3 = some (.pptr (cs.drop 3)) := by kernel_rfl
theorem fa_193_0 (id off : Nat) : afieldAddr NC.P 193 (.ptr id off) 0 = some (.ptr id (off + 0)) := by kernel_rfl
theorem fb_193_0 (cs : List AV) : afieldAddr NC.P 193 (.pptr cs) 0 = some (.pptr (cs.drop 0)) := by kernel_rfl
theorem fa_193_1 (id off : Nat) : afieldAddr NC.P 193 (.ptr id off) 1 = some (.ptr id (off + 1)) := by kernel_rfl
theorem fb_193_1 (cs : List AV) : afieldAddr NC.P 193 (.pptr cs) 1 = some (.pptr (cs.drop 1)) := by kernel_rfl
theorem fa_193_2 (id off : Nat) : afieldAddr NC.P 193 (.ptr id off) 2 = some (.ptr id (off + 2)) := by kernel_rfl
theorem fb_193_2 (cs : List AV) : afieldAddr NC.P 193 (.pptr cs) 2 = some (.pptr (cs.drop 2)) := by kernel_rfl
theorem fa_196_1 (id off : Nat) : afieldAddr NC.P 196 (.ptr id off) 1 = some (.ptr id (off + 1)) := by kernel_rfl
theorem fb_196_1 (cs : List AV) : afieldAddr NC.P 196 (.pptr cs) 1 = some (.pptr (cs.drop 1)) := by kernel_rfl
theorem fa_40_0 (id off : Nat) : afieldAddr NC.P 40 (.ptr id off) 0 = some (.ptr id (off + 0)) := by kernel_rfl
theorem fb_40_0 (cs : List AV) : afieldAddr NC.P 40 (.pptr cs) 0 = some (.pptr (cs.drop 0)) := by kernel_rfl
theorem fa_40_1 (id off : Nat) : afieldAddr NC.P 40 (.ptr id off) 1 = some (.ptr id (off + 1)) := by kernel_rfl
theorem fb_40_1 (cs : List AV) : afieldAddr NC.P 40 (.pptr cs) 1 = some (.pptr (cs.drop 1)) := by kernel_rfl
theorem fa_40_2 (id off : Nat) : afieldAddr NC.P 40 (.ptr id off) 2 = some (.ptr id (off + 2)) := by kernel_rfl
theorem fb_40_2 (cs : List AV) : afieldAddr NC.P 40 (.pptr cs) 2 = some (.pptr (cs.drop 2)) := by kernel_rfl
theorem fa_28_1 (id off : Nat) : afieldAddr NC.P 28 (.ptr id off) 1 = some (.ptr id (off + 1)) := by kernel_rfl
theorem fb_28_1 (cs : List AV) : afieldAddr NC.P 28 (.pptr cs) 1 = some (.pptr (cs.drop 1)) := by kernel_rfl
theorem fa_30_1 (id off : Nat) : afieldAddr NC.P 30 (.ptr id off) 1 = some (.ptr id (off + 1)) := by kernel_rfl
theorem fb_30_1 (cs : List AV) : afieldAddr NC.P 30 (.pptr cs) 1 = some (.pptr (cs.drop 1)) := by kernel_rfl
theorem fa_30_2 (id off : Nat) : afieldAddr NC.P 30 (.ptr id off) 2 = some (.ptr id (off + 2)) := by kernel_rfl
theorem fb_30_2 (cs : List AV) : afieldAddr NC.P 30 (.pptr cs) 2 = some (.pptr (cs.drop 2)) := by kernel_rfl
theorem fa_97_0 (id off : Nat) : afieldAddr NC.P 97 (.ptr id off) 0 = some (.ptr id (off + 0)) := by kernel_rfl
theorem fb_97_0 (cs : List AV) : afieldAddr NC.P 97 (.pptr cs) 0 = some (.pptr (cs.drop 0)) := by kernel_rfl
theorem fa_220_1 (id off : Nat) : afieldAddr NC.P 220 (.ptr id off) 1 = some (.ptr id (off + 2)) := by kernel_rfl
theorem fb_220_1 (cs : List AV) : afieldAddr NC.P 220 (.pptr cs) 1 = some (.pptr (cs.drop 2)) := by kernel_rfl
theorem fa_220_0 (id off : Nat) : afieldAddr NC.P 220 (.ptr id off) 0 = some (.ptr id (off + 0)) := by kernel_rfl
theorem fb_220_0 (cs : List AV) : afieldAddr NC.P 220 (.pptr cs) 0 = some (.pptr (cs.drop 0)) := by kernel_rfl
theorem fa_196_0 (id off : Nat) : afieldAddr NC.P 196 (.ptr id off) 0 = some (.ptr id (off + 0)) := by kernel_rfl
theorem fb_196_0 (cs : List AV) : afieldAddr NC.P 196 (.pptr cs) 0 = some (.pptr (cs.drop 0)) := by kernel_rfl
theorem fa_183_0 (id off : Nat) : afieldAddr NC.P 183 (.ptr id off) 0 = some (.ptr id (off + 0)) := by kernel_rfl
theorem fb_183_0 (cs : List AV) : afieldAddr NC.P 183 (.pptr cs) 0 = some (.pptr (cs.drop 0)) := by kernel_rfl
theorem fa_224_1 (id off : Nat) : afieldAddr NC.P 224 (.ptr id off) 1 = some (.ptr id (off + 1)) := by kernel_rfl
theorem fb_224_1 (cs : List AV) : afieldAddr NC.P 224 (.pptr cs) 1 = some (.pptr (cs.drop 1)) := by kernel_rfl
theorem fa_183_1 (id off : Nat) : afieldAddr NC.P 183 (.ptr id off) 1 = some (.ptr id (off + 1)) := by kernel_rfl
theorem fb_183_1 (cs : List AV) : afieldAddr NC.P 183 (.pptr cs) 1 = some (.pptr (cs.drop 1)) := by kernel_rfl
theorem fa_202_1 (id off : Nat) : afieldAddr NC.P 202 (.ptr id off) 1 = some (.ptr id (off + 1)) := by kernel_rfl
theorem fb_202_1 (cs : List AV) : afieldAddr NC.P 202 (.pptr cs) 1 = some (.pptr (cs.drop 1)) := by kernel_rfl
theorem fa_202_2 (id off : Nat) : afieldAddr NC.P 202 (.ptr id off) 2 = some (.ptr id (off + 2)) := by kernel_rfl
theorem fb_202_2 (cs : List AV) : afieldAddr NC.P 202 (.pptr cs) 2 = some (.pptr (cs.drop 2)) := by kernel_rfl
theorem fa_202_3 (id off : Nat) : afieldAddr NC.P 202 (.ptr id off) 3 = some (.ptr id (off + 3)) := by kernel_rfl
theorem fb_202_3 (cs : List AV) : afieldAddr NC.P 202 (.pptr cs) 3 = some (.pptr (cs.drop 3)) := by kernel_rfl
theorem fa_202_0 (id off : Nat) : afieldAddr NC.P 202 (.ptr id off) 0 = some (.ptr id (off + 0)) := by kernel_rfl
theorem fb_202_0 (cs : List AV) : afieldAddr NC.P 202 (.pptr cs) 0 = some (.pptr (cs.drop 0)) := by kernel_rfl
theorem fa_185_1 (id off : Nat) : afieldAddr NC.P 185 (.ptr id off) 1 = some (.ptr id (off + 1)) := by kernel_rfl
theorem fb_185_1 (cs : List AV) : afieldAddr NC.P 185 (.pptr cs) 1 = some (.pptr (cs.drop 1)) := by kernel_rfl
theorem fa_193_3 (id off : Nat) : afieldAddr NC.P 193 (.ptr id off) 3 = some (.ptr id (off + 3)) := by kernel_rfl
theorem fb_193_3 (cs : List AV) : afieldAddr NC.P 193 (.pptr cs) 3 = some (.pptr (cs.drop 3)) := by kernel_rfl
theorem fa_128_5 (id off : Nat) : afieldAddr NC.P 128 (.ptr id off) 5 = some (.ptr id (off + 5)) := by kernel_rfl
theorem fb_128_5 (cs : List AV) : afieldAddr NC.P 128 (.pptr cs) 5 = some (.pptr (cs.drop 5)) := by kernel_rfl
theorem fa_135_2 (id off : Nat) : afieldAddr NC.P 135 (.ptr id off) 2 = some (.ptr id (off + 4)) := by kernel_rfl
theorem fb_135_2 (cs : List AV) : afieldAddr NC.P 135 (.pptr cs) 2 = some (.pptr (cs.drop 4)) := by kernel_rfl
theorem fa_188_1 (id off : Nat) : afieldAddr NC.P 188 (.ptr id off) 1 = some (.ptr id (off + 1)) := by kernel_rfl
theorem fb_188_1 (cs : List AV) : afieldAddr NC.P 188 (.pptr cs) 1 = some (.pptr (cs.drop 1)) := by kernel_rfl
theorem fa_188_2 (id off : Nat) : afieldAddr NC.P 188 (.ptr id off) 2 = some (.ptr id (off + 4)) := by kernel_rfl
theorem fb_188_2 (cs : List AV) : afieldAddr NC.P 188 (.pptr cs) 2 = some (.pptr (cs.drop 4)) := by kernel_rfl
theorem fa_188_0 (id off : Nat) : afieldAddr NC.P 188 (.ptr id off) 0 = some (.ptr id (off + 0)) := by kernel_rfl
theorem fb_188_0 (cs : List AV) : afieldAddr NC.P 188 (.pptr cs) 0 = some (.pptr (cs.drop 0)) := by kernel_rfl
theorem fa_246_0 (id off : Nat) : afieldAddr NC.P 246 (.ptr id off) 0 = some (.ptr id (off + 0)) := by kernel_rfl
theorem fb_246_0 (cs : List AV) : afieldAddr NC.P 246 (.pptr cs) 0 = some (.pptr (cs.drop 0)) := by kernel_rfl
theorem fa_246_1 (id off : Nat) : afieldAddr NC.P 246 (.ptr id off) 1 = some (.ptr id (off + 1)) := by kernel_rfl
theorem fb_246_1 (cs : List AV) : afieldAddr NC.P 246 (.pptr cs) 1 = some (.pptr (cs.drop 1)) := by kernel_rfl
theorem fa_141_1 (id off : Nat) : afieldAddr NC.P 141 (.ptr id off) 1 = some (.ptr id (off + 1)) := by kernel_rfl
theorem fb_141_1 (cs : List AV) : afieldAddr NC.P 141 (.pptr cs) 1 = some (.pptr (cs.drop 1)) := by kernel_rfl
theorem fa_141_2 (id off : Nat) : afieldAddr NC.P 141 (.ptr id off) 2 = some (.ptr id (off + 2)) := by kernel_rfl
theorem fb_141_2 (cs : List AV) : afieldAddr NC.P 141 (.pptr cs) 2 = some (.pptr (cs.drop 2)) := by kernel_rfl
theorem fa_224_0 (id off : Nat) : afieldAddr NC.P 224 (.ptr id off) 0 = some (.ptr id (off + 0)) := by kernel_rfl
theorem fb_224_0 (cs : List AV) : afieldAddr NC.P 224 (.pptr cs) 0 = some (.pptr (cs.drop 0)) := by kernel_rfl
theorem fa_200_0 (id off : Nat) : afieldAddr NC.P 200 (.ptr id off) 0 = some (.ptr id (off + 0)) := by kernel_rfl
theorem fb_200_0 (cs : List AV) : afieldAddr NC.P 200 (.pptr cs) 0 = some (.pptr (cs.drop 0)) := by kernel_rfl
theorem fa_200_1 (id off : Nat) : afieldAddr NC.P 200 (.ptr id off) 1 = some (.ptr id (off + 1)) := by kernel_rfl
theorem fb_200_1 (cs : List AV) : afieldAddr NC.P 200 (.pptr cs) 1 = some (.pptr (cs.drop 1)) := by kernel_rfl
theorem fa_200_2 (id off : Nat) : afieldAddr NC.P 200 (.ptr id off) 2 = some (.ptr id (off + 2)) := by kernel_rfl
theorem fb_200_2 (cs : List AV) : afieldAddr NC.P 200 (.pptr cs) 2 = some (.pptr (cs.drop 2)) := by kernel_rfl
theorem fa_201_0 (id off : Nat) : afieldAddr NC.P 201 (.ptr id off) 0 = some (.ptr id (off + 0)) := by kernel_rfl
theorem fb_201_0 (cs : List AV) : afieldAddr NC.P 201 (.pptr cs) 0 = some (.pptr (cs.drop 0)) := by kernel_rfl
theorem fa_201_1 (id off : Nat) : afieldAddr NC.P 201 (.ptr id off) 1 = some (.ptr id (off + 1)) := by kernel_rfl
theorem fb_201_1 (cs : List AV) : afieldAddr NC.P 201 (.pptr cs) 1 = some (.pptr (cs.drop 1)) := by kernel_rfl
theorem fa_201_2 (id off : Nat) : afieldAddr NC.P 201 (.ptr id off) 2 = some (.ptr id (off + 2)) := by kernel_rfl
theorem fb_201_2 (cs : List AV) : afieldAddr NC.P 201 (.pptr cs) 2 = some (.pptr (cs.drop 2)) := by kernel_rfl
theorem fa_201_3 (id off : Nat) : afieldAddr NC.P 201 (.ptr id off) 3 = some (.ptr id (off + 3)) := by kernel_rfl
theorem fb_201_3 (cs : List AV) : afieldAddr NC.P 201 (.pptr cs) 3 = some (.pptr (cs.drop 3)) := by kernel_rfl
theorem fa_201_4 (id off : Nat) : afieldAddr NC.P 201 (.ptr id off) 4 = some (.ptr id (off + 4)) := by kernel_rfl
theorem fb_201_4 (cs : List AV) : afieldAddr NC.P 201 (.pptr cs) 4 = some (.pptr (cs.drop 4)) := by kernel_rfl
theorem fa_296_1 (id off : Nat) : afieldAddr NC.P 296 (.ptr id off) 1 = some (.ptr id (off + 1)) := by kernel_rfl
theorem fb_296_1 (cs : List AV) : afieldAddr NC.P 296 (.pptr cs) 1 = some (.pptr (cs.drop 1)) := by kernel_rfl
theorem fa_296_2 (id off : Nat) : afieldAddr NC.P 296 (.ptr id off) 2 = some (.ptr id (off + 2)) := by kernel_rfl
theorem fb_296_2 (cs : List AV) : afieldAddr NC.P 296 (.pptr cs) 2 = some (.pptr (cs.drop 2)) := by kernel_rfl
theorem fa_291_1 (id off : Nat) : afieldAddr NC.P 291 (.ptr id off) 1 = some (.ptr id (off + 1)) := by kernel_rfl
theorem fb_291_1 (cs : List AV) : afieldAddr NC.P 291 (.pptr cs) 1 = some (.pptr (cs.drop 1)) := by kernel_rfl
theorem fa_291_0 (id off : Nat) : afieldAddr NC.P 291 (.ptr id off) 0 = some (.ptr id (off + 0)) := by kernel_rfl
theorem fb_291_0 (cs : List AV) : afieldAddr NC.P 291 (.pptr cs) 0 = some (.pptr (cs.drop 0)) := by kernel_rfl
theorem fa_191_2 (id off : Nat) : afieldAddr NC.P 191 (.ptr id off) 2 = some (.ptr id (off + 2)) := by kernel_rfl
theorem fb_191_2 (cs : List AV) : afieldAddr NC.P 191 (.pptr cs) 2 = some (.pptr (cs.drop 2)) := by kernel_rfl
theorem fa_191_4 (id off : Nat) : afieldAddr NC.P 191 (.ptr id off) 4 = some (.ptr id (off + 4)) := by kernel_rfl
theorem fb_191_4 (cs : List AV) : afieldAddr NC.P 191 (.pptr cs) 4 = some (.pptr (cs.drop 4)) := by kernel_rfl
theorem fa_130_3 (id off : Nat) : afieldAddr NC.P 130 (.ptr id off) 3 = some (.ptr id (off + 3)) := by kernel_rfl
theorem fb_130_3 (cs : List AV) : afieldAddr NC.P 130 (.pptr cs) 3 = some (.pptr (cs.drop 3)) := by kernel_rfl
theorem fa_130_4 (id off : Nat) : afieldAddr NC.P 130 (.ptr id off) 4 = some (.ptr id (off + 4)) := by kernel_rfl
theorem fb_130_4 (cs : List AV) : afieldAddr NC.P 130 (.pptr cs) 4 = some (.pptr (cs.drop 4)) := by kernel_rfl
theorem fa_130_5 (id off : Nat) : afieldAddr NC.P 130 (.ptr id off) 5 = some (.ptr id (off + 5)) := by kernel_rfl
theorem fb_130_5 (cs : List AV) : afieldAddr NC.P 130 (.pptr cs) 5 = some (.pptr (cs.drop 5)) := by kernel_rfl
theorem fa_262_1 (id off : Nat) : afieldAddr NC.P 262 (.ptr id off) 1 = some (.ptr id (off + 5)) := by kernel_rfl
theorem fb_262_1 (cs : List AV) : afieldAddr NC.P 262 (.pptr cs) 1 = some (.pptr (cs.drop 5)) := by kernel_rfl
theorem fa_262_0 (id off : Nat) : afieldAddr NC.P 262 (.ptr id off) 0 = some (.ptr id (off + 0)) := by kernel_rfl
theorem fb_262_0 (cs : List AV) : afieldAddr NC.P 262 (.pptr cs) 0 = some (.pptr (cs.drop 0)) := by kernel_rfl
theorem fa_272_1 (id off : Nat) : afieldAddr NC.P 272 (.ptr id off) 1 = some (.ptr id (off + 1)) := by kernel_rfl
theorem fb_272_1 (cs : List AV) : afieldAddr NC.P 272 (.pptr cs) 1 = some (.pptr (cs.drop 1)) := by kernel_rfl
theorem fa_296_0 (id off : Nat) : afieldAddr NC.P 296 (.ptr id off) 0 = some (.ptr id (off + 0)) := by kernel_rfl
theorem fb_296_0 (cs : List AV) : afieldAddr NC.P 296 (.pptr cs) 0 = some (.pptr (cs.drop 0)) := by kernel_rfl
theorem pl_44_7 (P : FuncId → Option (List AV → Option AV)) : (NC.withPrims P).plans 44 7 = [⟨.data, 0, 0, []⟩, ⟨.load, 0, 1, []⟩, ⟨.read, 0, 3, []⟩, ⟨.data, 0, 0, []⟩, ⟨.load, 0, 8, []⟩, ⟨.read, 0, 31, []⟩, ⟨.data, 0, 0, []⟩, ⟨.load, 0, 64, []⟩, ⟨.read, 0, 255, []⟩, ⟨.data, 0, 0, []⟩, ⟨.load, 0, 512, []⟩, ⟨.read, 0, 2047, []⟩, ⟨.data, 0, 0, []⟩, ⟨.load, 0, 4096, []⟩, ⟨.read, 0, 16383, []⟩, ⟨.data, 0, 32767, []⟩, ⟨.read, 0, 65535, []⟩, ⟨.data, 0, 131071, []⟩] := by kernel_rfl
theorem pl_44_19 (P : FuncId → Option (List AV → Option AV)) : (NC.withPrims P).plans 44 19 = [⟨.data, 0, 0, []⟩, ⟨.data, 0, 0, []⟩, ⟨.data, 0, 3, []⟩, ⟨.load, 0, 7, []⟩, ⟨.load, 0, 0, []⟩, ⟨.read, 0, 31, []⟩] := by kernel_rfl
theorem pl_49_11 (P : FuncId → Option (List AV → Option AV)) : (NC.withPrims P).plans 49 11 = [⟨.data, 0, 0, []⟩, ⟨.load, 0, 1, []⟩, ⟨.data, 0, 0, []⟩, ⟨.load, 0, 4, []⟩, ⟨.data, 0, 15, []⟩, ⟨.data, 0, 31, []⟩, ⟨.data, 0, 63, []⟩, ⟨.load, 0, 127, []⟩, ⟨.data, 0, 63, []⟩, ⟨.load, 0, 319, []⟩, ⟨.data, 0, 1023, []⟩, ⟨.data, 0, 2047, []⟩, ⟨.data, 0, 4095, []⟩, ⟨.load, 0, 8191, []⟩, ⟨.load, 0, 4095, []⟩, ⟨.read, 0, 20479, []⟩, ⟨.data, 0, 65535, []⟩, ⟨.data, 0, 131071, []⟩, ⟨.data, 0, 262143, []⟩] := by kernel_rfl
theorem pl_56_5 (P : FuncId → Option (List AV → Option AV)) : (NC.withPrims P).plans 56 5 = [⟨.data, 0, 0, []⟩, ⟨.data, 0, 1, []⟩, ⟨.data, 0, 0, []⟩, ⟨.read, 0, 4, []⟩, ⟨.data, 0, 15, []⟩, ⟨.data, 0, 31, []⟩, ⟨.data, 0, 63, []⟩, ⟨.data, 0, 63, []⟩, ⟨.data, 0, 255, []⟩, ⟨.load, 0, 511, []⟩, ⟨.data, 0, 63, []⟩, ⟨.data, 0, 63, []⟩, ⟨.data, 0, 2111, []⟩, ⟨.data, 0, 7231, []⟩, ⟨.load, 0, 15423, []⟩, ⟨.read, 0, 32767, []⟩, ⟨.data, 0, 65535, []⟩] := by kernel_rfl
theorem pl_56_8 (P : FuncId → Option (List AV → Option AV)) : (NC.withPrims P).plans 56 8 = [⟨.data, 0, 0, []⟩, ⟨.data, 0, 0, []⟩, ⟨.data, 0, 3, []⟩, ⟨.data, 0, 0, []⟩, ⟨.read, 0, 8, []⟩, ⟨.data, 0, 31, []⟩, ⟨.data, 0, 63, []⟩, ⟨.data, 0, 127, []⟩, ⟨.data, 0, 127, []⟩, ⟨.data, 0, 127, []⟩, ⟨.data, 0, 895, []⟩, ⟨.data, 0, 1919, []⟩, ⟨.data, 0, 4095, []⟩, ⟨.load, 0, 8191, []⟩, ⟨.data, 0, 127, []⟩, ⟨.data, 0, 127, []⟩, ⟨.data, 0, 127, []⟩, ⟨.data, 0, 98431, []⟩, ⟨.data, 0, 245887, []⟩, ⟨.load, 0, 508031, []⟩, ⟨.data, 0, 127, []⟩, ⟨.read, 0, 2097151, []⟩, ⟨.data, 0, 4194303, []⟩] := by kernel_rfl
theorem pl_56_10 (P : FuncId → Option (List AV → Option AV)) : (NC.withPrims P).plans 56 10 = [⟨.data, 0, 0, []⟩, ⟨.data, 0, 0, []⟩, ⟨.data, 0, 3, []⟩, ⟨.data, 0, 7, []⟩, ⟨.data, 0, 15, []⟩, ⟨.load, 0, 31, []⟩, ⟨.data, 0, 0, []⟩, ⟨.data, 0, 0, []⟩, ⟨.data, 0, 192, []⟩, ⟨.data, 0, 448, []⟩, ⟨.data, 0, 960, []⟩, ⟨.load, 0, 1984, []⟩, ⟨.data, 0, 0, []⟩, ⟨.data, 0, 0, []⟩, ⟨.data, 0, 0, []⟩, ⟨.data, 0, 24576, []⟩, ⟨.data, 0, 57344, []⟩, ⟨.data, 0, 122880, []⟩, ⟨.load, 0, 253952, []⟩, ⟨.data, 0, 0, []⟩, ⟨.data, 0, 0, []⟩, ⟨.data, 0, 1572864, []⟩, ⟨.data, 0, 3670016, []⟩, ⟨.data, 0, 7864320, []⟩, ⟨.load, 0, 16252928, []⟩, ⟨.data, 0, 0, []⟩, ⟨.data, 0, 33554432, []⟩, ⟨.data, 0, 134217727, []⟩, ⟨.fresh, 0, 0, []⟩, ⟨.writeAt, 1, 536870911, []⟩] := by kernel_rfl
theorem pl_57_8 (P : FuncId → Option (List AV → Option AV)) : (NC.withPrims P).plans 57 8 = [⟨.data, 0, 0, []⟩, ⟨.data, 0, 0, []⟩, ⟨.data, 0, 3, []⟩, ⟨.data, 0, 7, []⟩, ⟨.load, 0, 15, []⟩, ⟨.data, 0, 0, []⟩, ⟨.data, 0, 0, []⟩, ⟨.data, 0, 96, []⟩, ⟨.data, 0, 224, []⟩, ⟨.load, 0, 480, []⟩, ⟨.data, 0, 0, []⟩, ⟨.data, 0, 2016, []⟩, ⟨.data, 0, 4095, []⟩, ⟨.fresh, 0, 0, []⟩, ⟨.writeAt, 1, 16383, []⟩] := by kernel_rfl
theorem pl_58_5 (P : FuncId → Option (List AV → Option AV)) : (NC.withPrims P).plans 58 5 = [⟨.data, 0, 0, []⟩, ⟨.data, 0, 0, []⟩, ⟨.data, 0, 0, []⟩, ⟨.data, 0, 0, []⟩, ⟨.data, 0, 12, []⟩, ⟨.data, 0, 28, []⟩, ⟨.load, 0, 60, []⟩, ⟨.data, 0, 0, []⟩, ⟨.data, 0, 0, []⟩, ⟨.data, 0, 384, []⟩, ⟨.data, 0, 896, []⟩, ⟨.load, 0, 1920, []⟩, ⟨.data, 0, 4092, []⟩, ⟨.data, 0, 8191, []⟩, ⟨.writeAt, 0, 16383, []⟩] := by kernel_rfl
theorem pl_59_8 (P : FuncId → Option (List AV → Option AV)) : (NC.withPrims P).plans 59 8 = [⟨.data, 0, 0, []⟩, ⟨.data, 0, 0, []⟩, ⟨.data, 0, 0, []⟩, ⟨.data, 0, 6, []⟩, ⟨.data, 0, 14, []⟩, ⟨.load, 0, 30, []⟩, ⟨.load, 0, 0, []⟩, ⟨.data, 0, 126, []⟩, ⟨.data, 0, 254, []⟩, ⟨.writeAt, 0, 511, []⟩, ⟨.data, 1, 1023, []⟩] := by kernel_rfl
theorem pl_60_6 (P : FuncId → Option (List AV → Option AV)) : (NC.withPrims P).plans 60 6 = [⟨.data, 0, 0, []⟩, ⟨.data, 0, 0, []⟩, ⟨.data, 0, 3, []⟩, ⟨.load, 0, 7, []⟩, ⟨.data, 0, 0, []⟩, ⟨.data, 0, 0, []⟩, ⟨.data, 0, 48, []⟩, ⟨.load, 0, 112, []⟩, ⟨.data, 0, 255, []⟩] := by kernel_rfl
theorem pl_127_1 (P : FuncId → Option (List AV → Option AV)) : (NC.withPrims P).plans 127 1 = [⟨.data, 0, 0, []⟩, ⟨.load, 0, 1, []⟩, ⟨.read, 0, 3, []⟩, ⟨.data, 0, 7, []⟩, ⟨.read, 0, 15, []⟩, ⟨.data, 0, 0, []⟩, ⟨.load, 0, 32, []⟩, ⟨.read, 0, 127, []⟩, ⟨.data, 0, 255, []⟩, ⟨.read, 0, 511, []⟩, ⟨.data, 0, 0, []⟩, ⟨.load, 0, 1024, []⟩, ⟨.read, 0, 4095, []⟩, ⟨.data, 0, 0, []⟩, ⟨.load, 0, 8192, []⟩, ⟨.read, 0, 32767, []⟩, ⟨.data, 0, 0, []⟩, ⟨.load, 0, 65536, []⟩, ⟨.read, 0, 262143, []⟩, ⟨.data, 0, 524287, []⟩, ⟨.read, 0, 1048575, []⟩, ⟨.data, 0, 2097151, []⟩] := by kernel_rfl
theorem pl_135_10 (P : FuncId → Option (List AV → Option AV)) : (NC.withPrims P).plans 135 10 = [⟨.data, 0, 0, []⟩, ⟨.load, 0, 1, []⟩, ⟨.data, 0, 0, []⟩, ⟨.load, 0, 4, []⟩, ⟨.data, 0, 15, []⟩, ⟨.data, 0, 31, []⟩, ⟨.data, 0, 63, []⟩, ⟨.load, 0, 127, []⟩, ⟨.data, 0, 63, []⟩, ⟨.load, 0, 319, []⟩, ⟨.data, 0, 1023, []⟩, ⟨.data, 0, 2047, []⟩, ⟨.data, 0, 4095, []⟩, ⟨.data, 0, 8191, []⟩, ⟨.load, 0, 16383, []⟩, ⟨.load, 0, 8191, []⟩, ⟨.read, 0, 40959, []⟩, ⟨.data, 0, 131071, []⟩, ⟨.data, 0, 262143, []⟩] := by kernel_rfl
theorem pl_135_11 (P : FuncId → Option (List AV → Option AV)) : (NC.withPrims P).plans 135 11 = [⟨.load, 0, 0, []⟩, ⟨.data, 0, 0, []⟩, ⟨.load, 0, 2, []⟩, ⟨.read, 0, 7, []⟩, ⟨.load, 0, 0, []⟩, ⟨.load, 0, 0, []⟩, ⟨.read, 0, 47, []⟩, ⟨.data, 0, 111, []⟩, ⟨.read, 0, 255, []⟩, ⟨.data, 0, 511, []⟩, ⟨.data, 0, 1023, []⟩] := by kernel_rfl
theorem pl_137_1 (P : FuncId → Option (List AV → Option AV)) : (NC.withPrims P).plans 137 1 = [⟨.data, 0, 0, []⟩, ⟨.load, 0, 1, []⟩, ⟨.data, 0, 0, []⟩, ⟨.load, 0, 4, []⟩, ⟨.data, 0, 15, []⟩, ⟨.data, 0, 0, []⟩, ⟨.load, 0, 32, []⟩, ⟨.data, 0, 0, []⟩, ⟨.load, 0, 128, []⟩, ⟨.data, 0, 480, []⟩, ⟨.load, 0, 0, []⟩, ⟨.read, 0, 1024, []⟩, ⟨.data, 0, 4064, []⟩, ⟨.data, 0, 3103, []⟩, ⟨.data, 0, 16383, []⟩] := by kernel_rfl
theorem pl_139_7 (P : FuncId → Option (List AV → Option AV)) : (NC.withPrims P).plans 139 7 = [⟨.data, 0, 0, []⟩, ⟨.data, 0, 1, []⟩, ⟨.data, 0, 3, []⟩, ⟨.data, 0, 7, []⟩, ⟨.load, 0, 15, []⟩, ⟨.data, 0, 7, []⟩, ⟨.data, 0, 7, []⟩, ⟨.data, 0, 71, []⟩, ⟨.data, 0, 231, []⟩, ⟨.data, 0, 487, []⟩, ⟨.load, 0, 999, []⟩, ⟨.read, 0, 2047, []⟩, ⟨.data, 0, 4095, []⟩] := by kernel_rfl
theorem pl_197_1 (P : FuncId → Option (List AV → Option AV)) : (NC.withPrims P).plans 197 1 = [⟨.data, 0, 0, []⟩, ⟨.load, 0, 1, []⟩, ⟨.data, 0, 0, []⟩, ⟨.load, 0, 4, []⟩, ⟨.read, 0, 15, []⟩, ⟨.data, 0, 0, []⟩, ⟨.load, 0, 32, []⟩, ⟨.data, 0, 0, []⟩, ⟨.load, 0, 128, []⟩, ⟨.read, 0, 511, []⟩, ⟨.data, 0, 1023, []⟩, ⟨.read, 0, 2047, []⟩, ⟨.data, 0, 4095, []⟩] := by kernel_rfl
theorem pl_198_3 (P : FuncId → Option (List AV → Option AV)) : (NC.withPrims P).plans 198 3 = [⟨.load, 0, 0, []⟩, ⟨.data, 0, 0, []⟩, ⟨.read, 0, 3, []⟩, ⟨.load, 0, 0, []⟩, ⟨.data, 0, 0, []⟩, ⟨.data, 0, 0, []⟩, ⟨.data, 0, 48, []⟩, ⟨.data, 0, 112, []⟩, ⟨.read, 0, 255, []⟩, ⟨.data, 0, 511, []⟩, ⟨.data, 0, 1023, []⟩, ⟨.writeAt, 0, 2047, []⟩] := by kernel_rfl
theorem rf_43 (P : FuncId → Option (List AV → Option AV)) (t : TypeId) : (NC.withPrims P).refApp 43 t = false := Eq.trans (rfP (by decide +kernel)) rfl
theorem rf_55 (P : FuncId → Option (List AV → Option AV)) (t : TypeId) : (NC.withPrims P).refApp 55 t = false := Eq.trans (rfP (by decide +kernel)) rfl
theorem rf_56 (P : FuncId → Option (List AV → Option AV)) (t : TypeId) : (NC.withPrims P).refApp 56 t = false := Eq.trans (rfP (by decide +kernel)) rfl
theorem rf_57 (P : FuncId → Option (List AV → Option AV)) (t : TypeId) : (NC.withPrims P).refApp 57 t = false := Eq.trans (rfP (by decide +kernel)) rfl
theorem rf_59 (P : FuncId → Option (List AV → Option AV)) (t : TypeId) : (NC.withPrims P).refApp 59 t = false := Eq.trans (rfP (by decide +kernel)) rfl
theorem rf_61 (P : FuncId → Option (List AV → Option AV)) (t : TypeId) : (NC.withPrims P).refApp 61 t = false := Eq.trans (rfP (by decide +kernel)) rfl
theorem rf_135 (P : FuncId → Option (List AV → Option AV)) (t : TypeId) : (NC.withPrims P).refApp 135 t = false := Eq.trans (rfP (by decide +kernel)) rfl
theorem rf_139_107 (P : FuncId → Option (List AV → Option AV)) : (NC.withPrims P).refApp 139 107 = true := Eq.trans (by kernel_rfl) rfl
theorem rf_159 (P : FuncId → Option (List AV → Option AV)) (t : TypeId) : (NC.withPrims P).refApp 159 t = false := Eq.trans (rfP (by decide +kernel)) rfl
theorem rf_195_83 (P : FuncId → Option (List AV → Option AV)) : (NC.withPrims P).refApp 195 83 = true := Eq.trans (by kernel_rfl) rfl
theorem rf_199 (P : FuncId → Option (List AV → Option AV)) (t : TypeId) : (NC.withPrims P).refApp 199 t = false := Eq.trans (rfP (by decide +kernel)) rfl
end Go.Sim

/-
The data of the statements, and how they are told to the abstract interpreter.
-/
namespace Go.Sim
open Go Go.Proofs
structure Pc where
  len : Int
  post : Int
  back : Bool
structure Ln where
  name : List Nat
  ps : List Pc
structure Sw where
  name : List Nat
  line : List Nat
  metre : Int
  other : List Nat
  last : Bool
structure Stc where
  name : List Nat
  kind : List Nat
  line : List Nat
  fr : Int
  till : Int
structure Net where
  lines : List Ln
  sws : List Sw
  sts : List Stc
abbrev i64 (n : Int) : AV := .int .i64 n
def Pc.row (p : Pc) : List AV := [i64 p.len, i64 p.post, .bool p.back]
def Ln.row (l : Ln) : List AV := [.str l.name, .ps .unk (l.ps.map Pc.row)]
def Sw.row (s : Sw) : List AV := [.str s.name, .str s.line, i64 s.metre, .str s.other, .bool s.last]
def Stc.row (s : Stc) : List AV := [.str s.name, .str s.kind, .str s.line, i64 s.fr, i64 s.till]
def Net.cells (n : Net) : List AV := [.ps .unk (n.lines.map Ln.row), .ps .unk (n.sws.map Sw.row), .ps .unk (n.sts.map Stc.row)]
theorem map_inj {α β : Type} {f : α → β} (h : ∀ a b, f a = f b → a = b) : ∀ {l m : List α}, l.map f = m.map f → l = m
  | [], [], _ => rfl
  | [], _ :: _, e => by simp at e
  | _ :: _, [], e => by simp at e
  | a :: l, b :: m, e => by
    simp only [List.map_cons, List.cons.injEq] at e
    rw [h a b e.1, map_inj h e.2]
theorem Pc.row_inj (a b : Pc) (h : a.row = b.row) : a = b := by
  cases a; cases b; simp [Pc.row] at h; obtain ⟨rfl, rfl, rfl⟩ := h; rfl
theorem Ln.row_inj (a b : Ln) (h : a.row = b.row) : a = b := by
  cases a; cases b
  simp only [Ln.row, List.cons.injEq, AV.str.injEq, AV.ps.injEq, and_true, true_and] at h
  rw [h.1, map_inj Pc.row_inj h.2]
theorem Sw.row_inj (a b : Sw) (h : a.row = b.row) : a = b := by
  cases a; cases b; simp [Sw.row] at h; obtain ⟨rfl, rfl, rfl, rfl, rfl⟩ := h; rfl
theorem Stc.row_inj (a b : Stc) (h : a.row = b.row) : a = b := by
  cases a; cases b; simp [Stc.row] at h; obtain ⟨rfl, rfl, rfl, rfl, rfl⟩ := h; rfl
theorem Net.cells_inj (a b : Net) (h : a.cells = b.cells) : a = b := by
  cases a; cases b
  simp only [Net.cells, List.cons.injEq, AV.ps.injEq, and_true, true_and] at h
  rw [map_inj Ln.row_inj h.1, map_inj Sw.row_inj h.2.1, map_inj Stc.row_inj h.2.2]
theorem Pc.row_len (p : Pc) : p.row.length = 3 := rfl
theorem Ln.row_len (p : Ln) : p.row.length = 2 := rfl
theorem Sw.row_len (p : Sw) : p.row.length = 5 := rfl
theorem Stc.row_len (p : Stc) : p.row.length = 5 := rfl
/-! ### Contracts over data -/
open Classical in
/-- A function that is known on data. -/
noncomputable def primOf {α : Type} (enc : α → List AV) (pre : α → Prop) (spec : α → AV) : List AV → Option AV := fun args =>
  if h : ∃ x, enc x = args ∧ pre x then some (spec h.choose) else none
theorem primOf_inv {α : Type} {enc : α → List AV} {pre : α → Prop} {spec : α → AV} {args : List AV} {v : AV} (h : primOf enc pre spec args = some v) : ∃ x, args = enc x ∧ pre x ∧ v = spec x := by
  unfold primOf at h
  split at h
  · rename_i hx
    simp at h
    exact ⟨hx.choose, hx.choose_spec.1.symm, hx.choose_spec.2, h.symm⟩
  · cases h
theorem primOf_enc {α : Type} {enc : α → List AV} {pre : α → Prop} {spec : α → AV} (hi : ∀ x y, enc x = enc y → x = y) (x : α) (hp : pre x) : primOf enc pre spec (enc x) = some (spec x) := by
  unfold primOf
  have hx : ∃ y, enc y = enc x ∧ pre y := ⟨x, rfl, hp⟩
  rw [dif_pos hx]
  rw [hi _ _ hx.choose_spec.1]
def firstI : List Int → Int
  | [] => 0
  | e :: r => if e = 0 then firstI r else e
def whenI (b : Bool) (e : Int) : Int := if b then e else 0
theorem withPrims_P (P : FuncId → Option (List AV → Option AV)) : (NC.withPrims P).P = NC.P := rfl
theorem frzP (P : FuncId → Option (List AV → Option AV)) (f : FuncId) (t : TypeId) : (NC.withPrims P).frz f t = false := Eq.trans rfl rfl
end Go.Sim

/-
The rules of the interpreter and the facts of this program, laid into one set.
-/
namespace Go.Sim
open Go Go.Proofs
attribute [go_sem ↓] W_seq W_block W_region W_draw draw_nil draw_data draw_load draw_read draw_fresh draw_writeAt draw_write draw_guard
attribute [go_sem ↓] okO_false W_skip W_cond W_ret W_exit next_nrm next_ret next_ext shut_nrm shut_ret shut_ext branch_true
attribute [go_sem ↓] branch_false WO_some VO_some AO_some OO_some aops_op aops_guard dstG_some aops_nil op_move op_assign op_pick
attribute [go_sem ↓] pickO_true pickO_false op_alloc op_box op_load op_store op_bin op_un op_conv op_build op_buildSlice op_makeFunc
attribute [go_sem ↓] op_makeMap op_fieldAddr op_field op_indexAddr op_index op_range op_next op_lookup op_mapUpdate op_extract op_len op_append
attribute [go_sem ↓] op_callF op_callT fnO_fn fnO_yld op_slice op_max2 op_min2 op_max3 guardO_tt guardO_tf guardO_ff guardO_ft
attribute [go_sem ↓] guardO_undef
attribute [go_sem] clashes_nil clashes_none clashes_some acc_load acc_read acc_store acc_fresh acc_mapUpdate accM_map acc_append accS_tok accS_nil
attribute [go_sem] accS_exact accS_rs accP_rd accP_wr accP_pptr record_some record_none apart_rw apart_wr apart_aw apart_wa List.any_cons
attribute [go_sem] List.any_nil List.contains_cons List.contains_nil Bool.not_eq_true' backH_zero backH_s below_load below_callF below_len below_lookup belowL_nil belowL_cons
attribute [go_sem] belowO under_int under_bool under_str under_unk under_nil under_exact under_agg under_map under_ptr under_fn underAll_nil
attribute [go_sem] underAll_cons blt_dec pure_int pure_bool pure_str pure_unk pure_nil abuildSlice rowsOf Option.isSome_some afill dstOf
attribute [go_sem] putT_some putT_none frzP withPrims_P arange anext evalOpt_none evalOpt_some amax_int amin_int amax3_int tupO_tup
attribute [go_sem] evalO_tmp evalO_int evalO_bool evalO_func evalO_nils evalOs_nil evalOs_cons evalParts_nil evalParts_cons getT_setT Heap.get_set Heap.get_push
attribute [go_sem] hn_set hn_push Nat.lt_add_one Nat.add_zero Nat.zero_add Bool.false_eq_true if_true if_false ite_true ite_false and_true true_and
attribute [go_sem] and_self aload readCells blkCells sub? loadV alen abin aun_not kcode ibin ltI_iff
attribute [go_sem] eqI_iff List.length_cons List.length_nil List.drop_succ_cons List.drop_zero List.drop_nil List.take_succ_cons List.take_zero List.take_nil List.getElem?_cons_zero List.getElem?_cons_succ afield
attribute [go_sem] aindexAddr aindex part? natOf_cast natOf_0 natOf_1 decide_true decide_false AV.cells AV.one List.all_cons List.all_nil
attribute [go_sem] Bool.and_true Bool.true_and Bool.and_self astore setBlk over List.append_nil List.nil_append List.cons_append List.map_cons List.map_nil cond_true
attribute [go_sem] cond_false Nat.beq_refl not_true_eq_false not_false_eq_true i64 bodyPost shutMarks_nil ar_nil ar_tmp ar_cell empty_n argsT_nil
attribute [go_sem] argsT_cons AV.strip AV.strip0 Cls.chain or_true true_or Bool.not_true Bool.not_false Bool.or_true Bool.or_false Bool.true_or Bool.false_or
attribute [go_sem] Bool.and_false Bool.false_and Int.ofNat_lt cast0 eq_self List.length_map ofVal_v ofVal_H eqs_01 lts_01 eqs_02 lts_02
attribute [go_sem] eqs_03 lts_03 eqs_04 lts_04 eqs_10 eqs_12 lts_12 eqs_13 lts_13 eqs_14 lts_14 eqs_20
attribute [go_sem] eqs_21 eqs_23 lts_23 eqs_24 lts_24 eqs_30 eqs_31 eqs_32 eqs_34 lts_34 self_eq_add add_eq_self
attribute [go_sem] Nat.zero_le Nat.le_refl isIntT_slice rowsIn
attribute [go_sem] sz_26 ag_26 sz_9 ag_9 un_9 sz_28 ag_28 ze_42 sz_42 sz_30 ag_30 ze_45
attribute [go_sem] sz_45 ze_30 ze_28 sz_22 ag_22 un_22 sz_56 ag_56 un_3 un_33 ag_42 ag_45
attribute [go_sem] sz_3 ag_3 el_70 ze_3 un_70 un_63 un_72 un_79 un_80 un_83 un_4 ze_56
attribute [go_sem] bs_45 fp_45_0 fp_45_1 un_95 ze_4 sz_54 ag_54 un_54 sz_97 sz_4 ag_4 un_94
attribute [go_sem] un_98 un_107 un_113 un_114 un_117 sz_128 ag_128 ze_128 el_129 sz_83 ze_83 un_129
attribute [go_sem] ag_83 sz_130 ag_130 ze_130 ze_133 un_131 sz_5 ag_5 un_5 un_133 sz_135 un_132
attribute [go_sem] sz_137 ag_137 un_137 un_138 sz_141 ag_141 ze_141 un_142 ze_156 un_155 sz_132 un_156
attribute [go_sem] sz_157 ag_157 ze_157 bs_157 fp_157_0 fp_157_1 fp_157_2 el_142 by_157 un_163 un_160 ze_40
attribute [go_sem] sz_40 ze_26 ag_40 sz_23 ag_23 un_23 sz_24 ag_24 un_24 bs_42 fp_42_0 fp_42_1
attribute [go_sem] fp_42_2 bs_30 fp_30_0 fp_30_1 fp_30_2 el_163 bs_141 fp_141_0 fp_141_1 fp_141_2 el_138 ze_183
attribute [go_sem] bs_183 fp_183_0 fp_183_1 ze_185 bs_185 fp_185_0 fp_185_1 el_72 sz_185 bs_130 fp_130_0 fp_130_1
attribute [go_sem] fp_130_2 fp_130_3 fp_130_4 fp_130_5 el_83 ze_188 bs_188 fp_188_0 fp_188_1 fp_188_2 el_117 sz_188
attribute [go_sem] bs_128 fp_128_0 fp_128_1 fp_128_2 fp_128_3 fp_128_4 fp_128_5 el_79 sz_191 ag_191 ze_191 sz_193
attribute [go_sem] ag_193 ze_193 ze_196 sz_196 ag_196 bs_196 fp_196_0 fp_196_1 ag_97 ze_97 sz_194 ag_194
attribute [go_sem] el_194 sz_200 ze_200 un_194 by_200 sz_36 ag_36 el_36 un_36 by_196 sz_37 ag_37
attribute [go_sem] el_37 sz_201 ze_201 un_37 by_201 sz_38 ag_38 el_38 sz_202 ze_202 un_38 by_202
attribute [go_sem] bs_28 fp_28_0 fp_28_1 el_234 sz_33 ze_33 un_234 el_314 un_314 un_216 sz_220 ag_220
attribute [go_sem] ze_220 el_218 sz_183 un_218 by_183 ag_183 sz_224 ze_224 bs_224 fp_224_0 fp_224_1 el_63
attribute [go_sem] by_224 ag_202 by_185 ag_185 ag_224 by_130 ag_200 el_98 by_42 by_128 ze_137 el_107
attribute [go_sem] by_137 sz_79 ag_79 ag_135 ze_135 by_188 ag_188 ze_246 sz_246 sz_142 ag_142 un_254
attribute [go_sem] un_252 sz_138 ag_138 by_141 ag_201 un_259 ze_262 bs_262 fp_262_0 fp_262_1 el_258 sz_262
attribute [go_sem] un_258 by_262 by_30 el_160 ze_9 by_9 ze_272 sz_281 ag_281 un_281 bs_40 fp_40_0
attribute [go_sem] fp_40_1 fp_40_2 ze_291 bs_291 fp_291_0 fp_291_1 un_293 sz_296 sz_294 ag_294 sz_160 ag_160
attribute [go_sem] bs_56 fp_56_0 fp_56_1 el_54 by_97 el_22 by_56 el_23 by_191 el_24 by_193 bs_200
attribute [go_sem] fp_200_0 fp_200_1 fp_200_2 bs_201 fp_201_0 fp_201_1 fp_201_2 fp_201_3 fp_201_4 bs_202 fp_202_0 fp_202_1
attribute [go_sem] fp_202_2 fp_202_3 un_310 ag_33 bs_220 fp_220_0 fp_220_1 el_216 ze_259 sz_259 un_316 by_220
attribute [go_sem] un_320 by_3 by_33 bs_246 fp_246_0 fp_246_1 ag_259 ze_334 un_334 ag_246 el_252 ze_138
attribute [go_sem] by_138 el_254 by_4 ag_262 sz_270 ag_270 un_270 el_270 by_5 ze_5 ag_296 ze_296
attribute [go_sem] bs_296 fp_296_0 fp_296_1 fp_296_2 el_293 bs_97 fp_97_0 fp_97_1 fp_97_2 bs_191 fp_191_0 fp_191_1
attribute [go_sem] fp_191_2 fp_191_3 fp_191_4 bs_193 fp_193_0 fp_193_1 fp_193_2 fp_193_3 un_21 ze_316 sz_316 ag_316
attribute [go_sem] un_359 un_361 fa_28_0 fb_28_0 fa_30_0 fb_30_0 fa_26_0 fb_26_0 fa_62_1 fb_62_1 fa_62_0 fb_62_0
attribute [go_sem] fa_56_0 fb_56_0 fa_42_0 fb_42_0 fa_42_1 fb_42_1 fa_56_1 fb_56_1 fa_42_2 fb_42_2 fa_97_2 fb_97_2
attribute [go_sem] fa_97_1 fb_97_1 fa_128_2 fb_128_2 fa_128_0 fb_128_0 fa_128_1 fb_128_1 fa_45_0 fb_45_0 fa_128_3 fb_128_3
attribute [go_sem] fa_45_1 fb_45_1 fa_128_4 fb_128_4 fa_130_2 fb_130_2 fa_130_0 fb_130_0 fa_130_1 fb_130_1 fa_135_0 fb_135_0
attribute [go_sem] fa_135_1 fb_135_1 fa_141_0 fb_141_0 fa_157_0 fb_157_0 fa_157_2 fb_157_2 fa_157_1 fb_157_1 fa_26_1 fb_26_1
attribute [go_sem] fa_26_2 fb_26_2 fa_191_0 fb_191_0 fa_191_1 fb_191_1 fa_191_3 fb_191_3 fa_193_0 fb_193_0 fa_193_1 fb_193_1
attribute [go_sem] fa_193_2 fb_193_2 fa_196_1 fb_196_1 fa_40_0 fb_40_0 fa_40_1 fb_40_1 fa_40_2 fb_40_2 fa_28_1 fb_28_1
attribute [go_sem] fa_30_1 fb_30_1 fa_30_2 fb_30_2 fa_97_0 fb_97_0 fa_220_1 fb_220_1 fa_220_0 fb_220_0 fa_196_0 fb_196_0
attribute [go_sem] fa_183_0 fb_183_0 fa_224_1 fb_224_1 fa_183_1 fb_183_1 fa_202_1 fb_202_1 fa_202_2 fb_202_2 fa_202_3 fb_202_3
attribute [go_sem] fa_202_0 fb_202_0 fa_185_1 fb_185_1 fa_193_3 fb_193_3 fa_128_5 fb_128_5 fa_135_2 fb_135_2 fa_188_1 fb_188_1
attribute [go_sem] fa_188_2 fb_188_2 fa_188_0 fb_188_0 fa_246_0 fb_246_0 fa_246_1 fb_246_1 fa_141_1 fb_141_1 fa_141_2 fb_141_2
attribute [go_sem] fa_224_0 fb_224_0 fa_200_0 fb_200_0 fa_200_1 fb_200_1 fa_200_2 fb_200_2 fa_201_0 fb_201_0 fa_201_1 fb_201_1
attribute [go_sem] fa_201_2 fb_201_2 fa_201_3 fb_201_3 fa_201_4 fb_201_4 fa_296_1 fb_296_1 fa_296_2 fb_296_2 fa_291_1 fb_291_1
attribute [go_sem] fa_291_0 fb_291_0 fa_191_2 fb_191_2 fa_191_4 fb_191_4 fa_130_3 fb_130_3 fa_130_4 fb_130_4 fa_130_5 fb_130_5
attribute [go_sem] fa_262_1 fb_262_1 fa_262_0 fb_262_0 fa_272_1 fb_272_1 fa_296_0 fb_296_0
attribute [go_sem] pl_44_7 pl_44_19 pl_49_11 pl_56_5 pl_56_8 pl_56_10 pl_57_8
attribute [go_sem] pl_58_5 pl_59_8 pl_60_6
attribute [go_sem] pl_127_1
attribute [go_sem] pl_135_10 pl_135_11 pl_137_1 pl_139_7
attribute [go_sem] pl_197_1 pl_198_3
attribute [go_sem] rf_43 rf_55 rf_56 rf_57 rf_59 rf_61
attribute [go_sem] rf_135 rf_139_107
attribute [go_sem] rf_159
attribute [go_sem] rf_195_83 rf_199
end Go.Sim

/-
Contracts of the functions that call no others.
-/
namespace Go.Sim
open Go Go.Proofs
set_option maxRecDepth 100000
set_option maxHeartbeats 1000000
/-! ### when, When -/
theorem c121 (b : Bool) (e : Int) : ∀ lo H, CallOk NC lo 121 [.bool b, i64 e] H (i64 (whenI b e)) H := by
  refine contract saneNC primsOk_none (fn := Tryz.f121) (by kernel_rfl) Tryz.func121 rfl rfl (by rfl) (by rfl) ?_
  cases b <;> simp only [go_sem, reduceIte, Nat.reduceEqDiff, Nat.reduceAdd, Nat.reduceMul, Nat.reduceSub, Nat.reduceLeDiff, Nat.reduceLT, Nat.reduceBEq, reduceCtorEq] <;> simp [whenI]
theorem c48 (b : Bool) (e : Int) : ∀ lo H, CallOk NC lo 48 [.bool b, i64 e] H (i64 (whenI b e)) H := by
  refine contract saneNC primsOk_none (fn := Tryz.f48) (by kernel_rfl) Tryz.func48 rfl rfl (by rfl) (by rfl) ?_
  cases b <;> simp only [go_sem, reduceIte, Nat.reduceEqDiff, Nat.reduceAdd, Nat.reduceMul, Nat.reduceSub, Nat.reduceLeDiff, Nat.reduceLT, Nat.reduceBEq, reduceCtorEq] <;> simp [whenI]
def stepI (b : Bool) : Int := if b then -1 else 1
theorem c178 (p : Pc) : ∀ lo H, CallOk NC lo 178 [.agg p.row] H (i64 (stepI p.back)) H := by
  refine contract saneNC primsOk_none (fn := Tryz.f178) (by kernel_rfl) Tryz.func178 rfl rfl (by rfl) (by rfl) ?_
  obtain ⟨l, q, b⟩ := p
  cases b <;> simp only [go_sem, reduceIte, Nat.reduceEqDiff, Nat.reduceAdd, Nat.reduceMul, Nat.reduceSub, Nat.reduceLeDiff, Nat.reduceLT, Nat.reduceBEq, reduceCtorEq, Pc.row] <;> simp [stepI]
def shortB (s : List Nat) : Bool := !decide ((40 : Int) < (s.length : Int))
theorem c97 (s : List Nat) : ∀ lo H, CallOk NC lo 97 [.str s] H (.bool (shortB s)) H := by
  refine contract saneNC primsOk_none (fn := Tryz.f97) (by kernel_rfl) Tryz.func97 rfl rfl (by rfl) (by rfl) ?_
  simp only [go_sem, reduceIte, Nat.reduceEqDiff, Nat.reduceAdd, Nat.reduceMul, Nat.reduceSub, Nat.reduceLeDiff, Nat.reduceLT, Nat.reduceBEq, reduceCtorEq]
  rfl
def postI (p : Pc) (i : Int) : Int := if p.back then wrapq .i64 (p.post - i) else wrapq .i64 (p.post + i)
theorem c109 (p : Pc) (i : Int) : ∀ lo H, CallOk NC lo 109 [.agg p.row, i64 i] H (i64 (postI p i)) H := by
  refine contract saneNC primsOk_none (fn := Tryz.f109) (by kernel_rfl) Tryz.func109 rfl rfl (by rfl) (by rfl) ?_
  obtain ⟨l, q, b⟩ := p
  cases b <;> simp only [go_sem, reduceIte, Nat.reduceEqDiff, Nat.reduceAdd, Nat.reduceMul, Nat.reduceSub, Nat.reduceLeDiff, Nat.reduceLT, Nat.reduceBEq, reduceCtorEq, Pc.row] <;> simp [postI] <;> rfl
/-! ### First, first -/
def intRows (es : List Int) : List (List AV) := es.map fun e => [i64 e]
theorem intRows_at {es : List Int} {k : Nat} {e : Int} (h : es[k]? = some e) : (intRows es)[k]? = some [i64 e] := by simp [intRows, h]
theorem intRows_len (es : List Int) : (intRows es).length = es.length := by simp [intRows]
theorem firstI_drop {es : List Int} {k : Nat} {e : Int} (h : es[k]? = some e) : firstI (es.drop k) = if e = 0 then firstI (es.drop (k + 1)) else e := by
  have hlt := (List.getElem?_eq_some_iff.1 h).1
  have : es.drop k = e :: es.drop (k + 1) := by
    rw [List.drop_eq_getElem_cons hlt]
    rw [(List.getElem?_eq_some_iff.1 h).2]
  rw [this]; rfl
theorem c34 (es : List Int) (hl : es.length ≤ maxRows) : ∀ lo H, CallOk NC lo 34 [.ps .unk (intRows es)] H (i64 (firstI es)) H := by
  refine contract saneNC primsOk_none (fn := Tryz.f34) (by kernel_rfl) Tryz.func34 rfl rfl (by rfl) (by rfl) ?_
  simp only [go_sem, reduceIte, Nat.reduceEqDiff, Nat.reduceAdd, Nat.reduceMul, Nat.reduceSub, Nat.reduceLeDiff, Nat.reduceLT, Nat.reduceBEq, reduceCtorEq]
  refine W_for (fun k T H M => M = [] ∧ getT T 0 = .ps .unk (intRows es) ∧ getT T 3 = i64 k ∧ firstI es = firstI (es.drop k)) es.length ?_ ?_ ?_
  · simp only [go_sem, reduceIte, Nat.reduceEqDiff, Nat.reduceAdd, Nat.reduceMul, Nat.reduceSub, Nat.reduceLeDiff, Nat.reduceLT, Nat.reduceBEq, reduceCtorEq, List.drop_zero]
  · rintro k T H M hk ⟨rfl, h0, h3, hf⟩
    obtain ⟨e, he⟩ : ∃ e, es[k]? = some e := ⟨es[k], by simp⟩
    have hr := intRows_at he
    have hw := wrap_succ hk hl
    have hfd := firstI_drop he
    by_cases hz : e = 0
    · simp only [go_sem, reduceIte, Nat.reduceEqDiff, Nat.reduceAdd, Nat.reduceMul, Nat.reduceSub, Nat.reduceLeDiff, Nat.reduceLT, Nat.reduceBEq, reduceCtorEq, h0, h3, hr, intRows_len, Int.ofNat_lt, hk, hw, hz]
      simp [hf, hfd, hz]
    · simp only [go_sem, reduceIte, Nat.reduceEqDiff, Nat.reduceAdd, Nat.reduceMul, Nat.reduceSub, Nat.reduceLeDiff, Nat.reduceLT, Nat.reduceBEq, reduceCtorEq, h0, h3, hr, intRows_len, Int.ofNat_lt, hk, hw, hz]
      simp [hf, hfd, hz]
  · rintro T H M ⟨rfl, h0, h3, hf⟩
    simp only [go_sem, reduceIte, Nat.reduceEqDiff, Nat.reduceAdd, Nat.reduceMul, Nat.reduceSub, Nat.reduceLeDiff, Nat.reduceLT, Nat.reduceBEq, reduceCtorEq, h0, h3, intRows_len, Int.ofNat_lt, Nat.lt_irrefl]
    simp [hf, firstI]
theorem c111 (es : List Int) (hl : es.length ≤ maxRows) : ∀ lo H, CallOk NC lo 111 [.ps .unk (intRows es)] H (i64 (firstI es)) H := by
  refine contract saneNC primsOk_none (fn := Tryz.f111) (by kernel_rfl) Tryz.func111 rfl rfl (by rfl) (by rfl) ?_
  simp only [go_sem, reduceIte, Nat.reduceEqDiff, Nat.reduceAdd, Nat.reduceMul, Nat.reduceSub, Nat.reduceLeDiff, Nat.reduceLT, Nat.reduceBEq, reduceCtorEq]
  refine W_for (fun k T H M => M = [] ∧ getT T 5 = .ps .unk (intRows es) ∧ getT T 6 = i64 (es.length : Nat) ∧ getT T 7 = i64 k ∧ firstI es = firstI (es.drop k)) es.length ?_ ?_ ?_
  · simp only [go_sem, reduceIte, Nat.reduceEqDiff, Nat.reduceAdd, Nat.reduceMul, Nat.reduceSub, Nat.reduceLeDiff, Nat.reduceLT, Nat.reduceBEq, reduceCtorEq, intRows_len, List.drop_zero]
  · rintro k T H M hk ⟨rfl, h0, h1, h3, hf⟩
    obtain ⟨e, he⟩ : ∃ e, es[k]? = some e := ⟨es[k], by simp⟩
    have hr := intRows_at he
    have hw := wrap_succ hk hl
    have hfd := firstI_drop he
    by_cases hz : e = 0
    · simp only [go_sem, reduceIte, Nat.reduceEqDiff, Nat.reduceAdd, Nat.reduceMul, Nat.reduceSub, Nat.reduceLeDiff, Nat.reduceLT, Nat.reduceBEq, reduceCtorEq, h0, h1, h3, hr, intRows_len, hk, hw, hz]
      simp [hf, hfd, hz]
    · simp only [go_sem, reduceIte, Nat.reduceEqDiff, Nat.reduceAdd, Nat.reduceMul, Nat.reduceSub, Nat.reduceLeDiff, Nat.reduceLT, Nat.reduceBEq, reduceCtorEq, h0, h1, h3, hr, intRows_len, hk, hw, hz]
      simp [hf, hfd, hz]
  · rintro T H M ⟨rfl, h0, h1, h3, hf⟩
    simp only [go_sem, reduceIte, Nat.reduceEqDiff, Nat.reduceAdd, Nat.reduceMul, Nat.reduceSub, Nat.reduceLeDiff, Nat.reduceLT, Nat.reduceBEq, reduceCtorEq, h0, h1, h3, intRows_len, Nat.lt_irrefl]
    simp [hf, firstI]
/-! ### Metres, begin, FindLine -/
def sumW : List Pc → Int → Int
  | [], s => s
  | p :: r, s => sumW r (wrapq .i64 (Int.add s p.len))
theorem drop_at {α : Type} {l : List α} {k : Nat} {x : α} (h : l[k]? = some x) : l.drop k = x :: l.drop (k + 1) := by
  have hlt := (List.getElem?_eq_some_iff.1 h).1
  rw [List.drop_eq_getElem_cons hlt, (List.getElem?_eq_some_iff.1 h).2]
theorem map_at {α β : Type} {f : α → β} {l : List α} {k : Nat} {x : α} (h : l[k]? = some x) : (l.map f)[k]? = some (f x) := by simp [h]
theorem c26 (l : Ln) (hl : l.ps.length ≤ maxRows) : ∀ lo H, CallOk NC lo 26 [.agg l.row] H (i64 (sumW l.ps 0)) H := by
  refine contract saneNC primsOk_none (fn := Tryz.f26) (by kernel_rfl) Tryz.func26 rfl rfl (by rfl) (by rfl) ?_
  simp only [go_sem, reduceIte, Nat.reduceEqDiff, Nat.reduceAdd, Nat.reduceMul, Nat.reduceSub, Nat.reduceLeDiff, Nat.reduceLT, Nat.reduceBEq, reduceCtorEq, Ln.row]
  refine W_for (fun k T H M => M = [] ∧ getT T 1 = .ptr 0 0 ∧ H.get 0 = .cells [.str l.name, .ps .unk (l.ps.map Pc.row)] 56 ∧ getT T 4 = i64 k ∧ ∃ s, getT T 3 = i64 s ∧ sumW l.ps 0 = sumW (l.ps.drop k) s) l.ps.length ?_ ?_ ?_
  · simp only [go_sem, reduceIte, Nat.reduceEqDiff, Nat.reduceAdd, Nat.reduceMul, Nat.reduceSub, Nat.reduceLeDiff, Nat.reduceLT, Nat.reduceBEq, reduceCtorEq]; exact ⟨0, rfl, rfl⟩
  · rintro k T H M hk ⟨rfl, h1, hH, h4, s, h3, hs⟩
    obtain ⟨p, hp⟩ : ∃ p, l.ps[k]? = some p := ⟨l.ps[k], by simp⟩
    have hr := map_at (f := Pc.row) hp
    have hw := wrap_succ hk hl
    rw [drop_at hp] at hs
    simp only [go_sem, reduceIte, Nat.reduceEqDiff, Nat.reduceAdd, Nat.reduceMul, Nat.reduceSub, Nat.reduceLeDiff, Nat.reduceLT, Nat.reduceBEq, reduceCtorEq, h1, hH, h3, h4, List.length_map, hk, hr, hw, Pc.row]
    exact ⟨_, rfl, hs⟩
  · rintro T H M ⟨rfl, h1, hH, h4, s, h3, hs⟩
    simp only [go_sem, reduceIte, Nat.reduceEqDiff, Nat.reduceAdd, Nat.reduceMul, Nat.reduceSub, Nat.reduceLeDiff, Nat.reduceLT, Nat.reduceBEq, reduceCtorEq, h1, hH, h3, h4, List.length_map, Nat.lt_irrefl]
    simp [hs, sumW]
theorem c108 (l : Ln) (n : Nat) (hn : n ≤ l.ps.length) (hl : l.ps.length ≤ maxRows) : ∀ lo H, CallOk NC lo 108 [.agg l.row, i64 n] H (i64 (sumW (l.ps.take n) 0)) H := by
  refine contract saneNC primsOk_none (fn := Tryz.f108) (by kernel_rfl) Tryz.func108 rfl rfl (by rfl) (by rfl) ?_
  simp only [go_sem, reduceIte, Nat.reduceEqDiff, Nat.reduceAdd, Nat.reduceMul, Nat.reduceSub, Nat.reduceLeDiff, Nat.reduceLT, Nat.reduceBEq, reduceCtorEq, Ln.row]
  refine W_for (fun k T H M => M = [] ∧ getT T 2 = .ptr 0 0 ∧ H.get 0 = .cells [.str l.name, .ps .unk (l.ps.map Pc.row)] 56 ∧ getT T 1 = i64 n ∧ getT T 6 = i64 k ∧ ∃ s, getT T 5 = i64 s ∧ sumW (l.ps.take n) 0 = sumW ((l.ps.take n).drop k) s) n ?_ ?_ ?_
  · simp only [go_sem, reduceIte, Nat.reduceEqDiff, Nat.reduceAdd, Nat.reduceMul, Nat.reduceSub, Nat.reduceLeDiff, Nat.reduceLT, Nat.reduceBEq, reduceCtorEq]; exact ⟨0, rfl, rfl⟩
  · rintro k T H M hk ⟨rfl, h2, hH, h1, h6, s, h5, hs⟩
    obtain ⟨p, hp⟩ : ∃ p, l.ps[k]? = some p := ⟨l.ps[k]'(by omega), by simp⟩
    have hr := map_at (f := Pc.row) hp
    have hlt : k < l.ps.length := by omega
    have hw := wrap_succ hlt hl
    have hp' : (l.ps.take n)[k]? = some p := by rw [List.getElem?_take_of_lt hk]; exact hp
    rw [drop_at hp'] at hs
    simp only [go_sem, reduceIte, Nat.reduceEqDiff, Nat.reduceAdd, Nat.reduceMul, Nat.reduceSub, Nat.reduceLeDiff, Nat.reduceLT, Nat.reduceBEq, reduceCtorEq, h1, h2, hH, h5, h6, List.length_map, hk, hlt, hr, hw, Pc.row]
    exact ⟨_, rfl, hs⟩
  · rintro T H M ⟨rfl, h2, hH, h1, h6, s, h5, hs⟩
    simp only [go_sem, reduceIte, Nat.reduceEqDiff, Nat.reduceAdd, Nat.reduceMul, Nat.reduceSub, Nat.reduceLeDiff, Nat.reduceLT, Nat.reduceBEq, reduceCtorEq, h1, h2, hH, h5, h6, List.length_map, Nat.lt_irrefl]
    simp [hs, sumW, List.drop_eq_nil_of_le]
def findL (ls : List Ln) (s : List Nat) : Option Nat := ls.findIdx? fun l => beqL l.name s
def findI (ls : List Ln) (s : List Nat) : Int := match findL ls s with
  | some i => (i : Int)
  | none => -1
theorem findL_drop {ls : List Ln} {s : List Nat} {k : Nat} (h : ∀ j l, j < k → ls[j]? = some l → beqL l.name s = false) {l : Ln} (hk : ls[k]? = some l) (hb : beqL l.name s = true) : findL ls s = some k := by
  unfold findL
  rw [List.findIdx?_eq_some_iff_getElem]
  obtain ⟨hlt, he⟩ := List.getElem?_eq_some_iff.1 hk
  refine ⟨hlt, by rw [he]; exact hb, fun j hj => ?_⟩
  have := h j (ls[j]'(by omega)) hj (by simp)
  rw [this]; simp
theorem findL_none {ls : List Ln} {s : List Nat} (h : ∀ j l, j < ls.length → ls[j]? = some l → beqL l.name s = false) : findL ls s = none := by
  unfold findL
  rw [List.findIdx?_eq_none_iff]
  intro l hl
  obtain ⟨j, hj⟩ := List.mem_iff_getElem?.1 hl
  exact h j l (List.getElem?_eq_some_iff.1 hj).1 hj
theorem c27 (n : Net) (s : List Nat) (hl : n.lines.length ≤ maxRows) : ∀ lo H, CallOk NC lo 27 [.agg n.cells, .str s] H (i64 (findI n.lines s)) H := by
  refine contract saneNC primsOk_none (fn := Tryz.f27) (by kernel_rfl) Tryz.func27 rfl rfl (by rfl) (by rfl) ?_
  simp only [go_sem, reduceIte, Nat.reduceEqDiff, Nat.reduceAdd, Nat.reduceMul, Nat.reduceSub, Nat.reduceLeDiff, Nat.reduceLT, Nat.reduceBEq, reduceCtorEq, Net.cells]
  refine W_for (fun k T H M => M = [] ∧ getT T 2 = .ptr 0 0 ∧ H.get 0 = .cells n.cells 26 ∧ getT T 1 = .str s ∧ getT T 5 = i64 k ∧ ∀ j l, j < k → n.lines[j]? = some l → beqL l.name s = false) n.lines.length ?_ ?_ ?_
  · simp only [go_sem, reduceIte, Nat.reduceEqDiff, Nat.reduceAdd, Nat.reduceMul, Nat.reduceSub, Nat.reduceLeDiff, Nat.reduceLT, Nat.reduceBEq, reduceCtorEq]; exact ⟨rfl, fun j l hj => by omega⟩
  · rintro k T H M hk ⟨rfl, h2, hH, h1, h5, hf⟩
    obtain ⟨l, hp⟩ : ∃ p, n.lines[k]? = some p := ⟨n.lines[k], by simp⟩
    have hr := map_at (f := Ln.row) hp
    have hw := wrap_succ hk hl
    cases hb : beqL l.name s with
    | true =>
      simp only [go_sem, reduceIte, Nat.reduceEqDiff, Nat.reduceAdd, Nat.reduceMul, Nat.reduceSub, Nat.reduceLeDiff, Nat.reduceLT, Nat.reduceBEq, reduceCtorEq, h1, h2, hH, h5, List.length_map, hk, hr, hw, Ln.row, Net.cells, hb]
      simp [findI, findL_drop hf hp hb]
    | false =>
      simp only [go_sem, reduceIte, Nat.reduceEqDiff, Nat.reduceAdd, Nat.reduceMul, Nat.reduceSub, Nat.reduceLeDiff, Nat.reduceLT, Nat.reduceBEq, reduceCtorEq, h1, h2, hH, h5, List.length_map, hk, hr, hw, Ln.row, Net.cells, hb]
      intro j l' hj hl'
      by_cases e : j = k
      · subst e; rw [hp] at hl'; cases hl'; exact hb
      · exact hf j l' (by omega) hl'
  · rintro T H M ⟨rfl, h2, hH, h1, h5, hf⟩
    simp only [go_sem, reduceIte, Nat.reduceEqDiff, Nat.reduceAdd, Nat.reduceMul, Nat.reduceSub, Nat.reduceLeDiff, Nat.reduceLT, Nat.reduceBEq, reduceCtorEq, h1, h2, hH, h5, List.length_map, Net.cells, Nat.lt_irrefl]
    simp [findI, findL_none hf]
end Go.Sim

/-
Names: what is one, by the program and by the reference.
-/
namespace Go.Sim
open Go Go.Proofs
set_option maxRecDepth 100000
set_option maxHeartbeats 1000000
def letB (x : Int) : Bool := !decide (x < 65) && !decide (90 < x) || !decide (x < 97) && !decide (122 < x)
def digB (x : Int) : Bool := !decide (x < 48) && !decide (57 < x)
theorem c189 (x : Int) : ∀ lo H, CallOk NC lo 189 [.int .u8 x] H (.bool (letB x)) H := by
  refine contract saneNC primsOk_none (fn := Tryz.f189) (by kernel_rfl) Tryz.func189 rfl rfl (by rfl) (by rfl) ?_
  by_cases h1 : x < 65 <;> by_cases h2 : 90 < x <;> by_cases h3 : x < 97 <;> by_cases h4 : 122 < x <;> simp only [go_sem, reduceIte, Nat.reduceEqDiff, Nat.reduceAdd, Nat.reduceMul, Nat.reduceSub, Nat.reduceLeDiff, Nat.reduceLT, Nat.reduceBEq, reduceCtorEq, h1, h2, h3, h4] <;> simp [letB, h1, h2, h3, h4]
theorem c190 (x : Int) : ∀ lo H, CallOk NC lo 190 [.int .u8 x] H (.bool (digB x)) H := by
  refine contract saneNC primsOk_none (fn := Tryz.f190) (by kernel_rfl) Tryz.func190 rfl rfl (by rfl) (by rfl) ?_
  by_cases h1 : x < 48 <;> by_cases h2 : 57 < x <;> simp only [go_sem, reduceIte, Nat.reduceEqDiff, Nat.reduceAdd, Nat.reduceMul, Nat.reduceSub, Nat.reduceLeDiff, Nat.reduceLT, Nat.reduceBEq, reduceCtorEq, h1, h2] <;> simp [digB, h1, h2]
theorem c227 (x : Int) : ∀ lo H, CallOk NC lo 227 [.int .i32 x] H (.bool (letB x)) H := by
  refine contract saneNC primsOk_none (fn := Tryz.f227) (by kernel_rfl) Tryz.func227 rfl rfl (by rfl) (by rfl) ?_
  by_cases h1 : x < 65 <;> by_cases h2 : 90 < x <;> by_cases h3 : x < 97 <;> by_cases h4 : 122 < x <;> simp only [go_sem, reduceIte, Nat.reduceEqDiff, Nat.reduceAdd, Nat.reduceMul, Nat.reduceSub, Nat.reduceLeDiff, Nat.reduceLT, Nat.reduceBEq, reduceCtorEq, h1, h2, h3, h4] <;> simp [letB, h1, h2, h3, h4]
theorem c228 (x : Int) : ∀ lo H, CallOk NC lo 228 [.int .i32 x] H (.bool (digB x)) H := by
  refine contract saneNC primsOk_none (fn := Tryz.f228) (by kernel_rfl) Tryz.func228 rfl rfl (by rfl) (by rfl) ?_
  by_cases h1 : x < 48 <;> by_cases h2 : 57 < x <;> simp only [go_sem, reduceIte, Nat.reduceEqDiff, Nat.reduceAdd, Nat.reduceMul, Nat.reduceSub, Nat.reduceLeDiff, Nat.reduceLT, Nat.reduceBEq, reduceCtorEq, h1, h2] <;> simp [digB, h1, h2]
noncomputable def p189 : List AV → Option AV := primOf (α := Int) (fun x => [.int .u8 x]) (fun _ => True) (fun x => .bool (letB x))
theorem pok189 : ∀ args v, p189 args = some v → ∀ lo H, CallOk NC lo 189 args H v H := by
  intro args v h
  obtain ⟨x, rfl, hp, rfl⟩ := primOf_inv h
  clear h
  revert x
  intro x; exact c189 x
theorem pe189 (x : Int) (hp : (fun _ => True) x) : p189 ((fun x => [.int .u8 x]) x) = some ((fun x => .bool (letB x)) x) := primOf_enc (by intro x y h; simpa using h) x hp
noncomputable def p190 : List AV → Option AV := primOf (α := Int) (fun x => [.int .u8 x]) (fun _ => True) (fun x => .bool (digB x))
theorem pok190 : ∀ args v, p190 args = some v → ∀ lo H, CallOk NC lo 190 args H v H := by
  intro args v h
  obtain ⟨x, rfl, hp, rfl⟩ := primOf_inv h
  clear h
  revert x
  intro x; exact c190 x
theorem pe190 (x : Int) (hp : (fun _ => True) x) : p190 ((fun x => [.int .u8 x]) x) = some ((fun x => .bool (digB x)) x) := primOf_enc (by intro x y h; simpa using h) x hp
noncomputable def p227 : List AV → Option AV := primOf (α := Int) (fun x => [.int .i32 x]) (fun _ => True) (fun x => .bool (letB x))
theorem pok227 : ∀ args v, p227 args = some v → ∀ lo H, CallOk NC lo 227 args H v H := by
  intro args v h
  obtain ⟨x, rfl, hp, rfl⟩ := primOf_inv h
  clear h
  revert x
  intro x; exact c227 x
theorem pe227 (x : Int) (hp : (fun _ => True) x) : p227 ((fun x => [.int .i32 x]) x) = some ((fun x => .bool (letB x)) x) := primOf_enc (by intro x y h; simpa using h) x hp
noncomputable def p228 : List AV → Option AV := primOf (α := Int) (fun x => [.int .i32 x]) (fun _ => True) (fun x => .bool (digB x))
theorem pok228 : ∀ args v, p228 args = some v → ∀ lo H, CallOk NC lo 228 args H v H := by
  intro args v h
  obtain ⟨x, rfl, hp, rfl⟩ := primOf_inv h
  clear h
  revert x
  intro x; exact c228 x
theorem pe228 (x : Int) (hp : (fun _ => True) x) : p228 ((fun x => [.int .i32 x]) x) = some ((fun x => .bool (digB x)) x) := primOf_enc (by intro x y h; simpa using h) x hp
theorem e189 (x : Int) : p189 [.int .u8 x] = some (.bool (letB x)) := pe189 x trivial
theorem e190 (x : Int) : p190 [.int .u8 x] = some (.bool (digB x)) := pe190 x trivial
theorem e227 (x : Int) : p227 [.int .i32 x] = some (.bool (letB x)) := pe227 x trivial
theorem e228 (x : Int) : p228 [.int .i32 x] = some (.bool (digB x)) := pe228 x trivial
noncomputable def PPA : FuncId → Option (List AV → Option AV) := addPrim 228 p228 (addPrim 227 p227 (addPrim 190 p190 (addPrim 189 p189 (fun _ => none))))
theorem primsA : PrimsOk NC PPA := primsOk_add (primsOk_add (primsOk_add (primsOk_add (primsOk_none) (by kernel_rfl) (by kernel_rfl) pok189) (by kernel_rfl) (by kernel_rfl) pok190) (by kernel_rfl) (by kernel_rfl) pok227) (by kernel_rfl) (by kernel_rfl) pok228
/-- A function is known by a contract. -/
abbrev En (P : FuncId → Option (List AV → Option AV)) (f : FuncId) (p : List AV → Option AV) : Prop := ∀ {rec : Rec} {lo : Nat} {args : List AV} {H : Heap} {K : AV → Heap → Prop}, VO (aenter (NC.withPrims P) rec lo f args H) K = AO (p args) fun v => K v H
theorem enA_189 : En PPA 189 p189 := enter_prim (by rfl) (by kernel_rfl)
theorem enA_190 : En PPA 190 p190 := enter_prim (by rfl) (by kernel_rfl)
theorem enA_227 : En PPA 227 p227 := enter_prim (by rfl) (by kernel_rfl)
theorem enA_228 : En PPA 228 p228 := enter_prim (by rfl) (by kernel_rfl)
attribute [go_sem ↓] enA_189 enA_190 enA_227 enA_228
def restB (x : Int) : Bool := letB x || digB x || decide (x = 95)
def nameB : List Nat → Bool
  | [] => false
  | c :: r => decide ((c :: r).length ≤ 24) && letB c && r.all fun x => restB x
theorem nameB_at {s : List Nat} (h0 : s ≠ []) (h1 : s.length ≤ 24) (h2 : ∀ c : Nat, s[0]? = some c → letB c = true) (h3 : ∀ (i c : Nat), 1 ≤ i → s[i]? = some c → restB c = true) : nameB s = true := by
  cases s with
  | nil => exact absurd rfl h0
  | cons c r =>
    unfold nameB
    simp only [Bool.and_eq_true, decide_eq_true_eq, List.all_eq_true]
    refine ⟨⟨h1, h2 c rfl⟩, fun x hx => ?_⟩
    obtain ⟨i, hi⟩ := List.mem_iff_getElem?.1 hx
    exact h3 (i + 1) x (by omega) (by simpa using hi)
theorem nameB_not0 {s : List Nat} {c : Nat} (h : s[0]? = some c) (hl : letB c = false) : nameB s = false := by
  cases s with
  | nil => simp at h
  | cons d r => simp at h; subst h; simp [nameB, hl]
theorem nameB_not {s : List Nat} {i c : Nat} (hi : 1 ≤ i) (h : s[i]? = some c) (hl : restB c = false) : nameB s = false := by
  cases s with
  | nil => simp at h
  | cons d r =>
    unfold nameB
    have : (r.all fun x => restB x) = false := by
      rw [List.all_eq_false]
      refine ⟨c, ?_, by simp [hl]⟩
      obtain ⟨j, rfl⟩ : ∃ j, i = j + 1 := ⟨i - 1, by omega⟩
      exact List.mem_of_getElem? (by simpa using h)
    simp [this]
theorem c122 (s : List Nat) : ∀ lo H, CallOk NC lo 122 [.str s] H (.bool (nameB s)) H := by
  refine contract saneNC primsA (fn := Tryz.f122) (by kernel_rfl) Tryz.func122 rfl rfl (by rfl) (by rfl) ?_
  by_cases h0 : s.length = 0
  · have : s = [] := List.length_eq_zero_iff.1 h0
    subst this
    simp only [go_sem, reduceIte, Nat.reduceEqDiff, Nat.reduceAdd, Nat.reduceMul, Nat.reduceSub, Nat.reduceLeDiff, Nat.reduceLT, Nat.reduceBEq, reduceCtorEq]
    simp [nameB]
  · have h0' : ¬ ((s.length : Int) = 0) := by omega
    by_cases h1 : (24 : Int) < s.length
    · simp only [go_sem, reduceIte, Nat.reduceEqDiff, Nat.reduceAdd, Nat.reduceMul, Nat.reduceSub, Nat.reduceLeDiff, Nat.reduceLT, Nat.reduceBEq, reduceCtorEq, h0', h1]
      cases s with
      | nil => simp [nameB]
      | cons c r => simp [nameB]; intro h; simp at h1; omega
    · obtain ⟨c, hc⟩ : ∃ c, s[0]? = some c := ⟨s[0]'(by omega), by simp⟩
      have hlt : 0 < s.length := by omega
      cases hb : letB c with
      | false =>
        simp only [go_sem, reduceIte, Nat.reduceEqDiff, Nat.reduceAdd, Nat.reduceMul, Nat.reduceSub, Nat.reduceLeDiff, Nat.reduceLT, Nat.reduceBEq, reduceCtorEq, h0', h1, hlt, hc, hb, e189]
        simp [nameB_not0 hc hb]
      | true =>
        simp only [go_sem, reduceIte, Nat.reduceEqDiff, Nat.reduceAdd, Nat.reduceMul, Nat.reduceSub, Nat.reduceLeDiff, Nat.reduceLT, Nat.reduceBEq, reduceCtorEq, h0', h1, hlt, hc, hb, e189]
        refine W_for (fun k T H M => M = [] ∧ getT T 0 = .str s ∧ getT T 3 = i64 ((k + 1 : Nat) : Int) ∧ ∀ (i c : Nat), 1 ≤ i → i < k + 1 → s[i]? = some c → restB c = true) (s.length - 1) ?_ ?_ ?_
        · simp only [go_sem, reduceIte, Nat.reduceEqDiff, Nat.reduceAdd, Nat.reduceMul, Nat.reduceSub, Nat.reduceLeDiff, Nat.reduceLT, Nat.reduceBEq, reduceCtorEq]; exact ⟨rfl, fun i c h1 h2 => by omega⟩
        · rintro k T H M hk ⟨rfl, g0, g3, hf⟩
          have hk' : k + 1 < s.length := by omega
          obtain ⟨c', hc'⟩ : ∃ c, s[k + 1]? = some c := ⟨s[k + 1], by simp⟩
          have hw := wrap_succ (k := k + 1) (n := 24) (by omega) (by unfold maxRows; omega)
          by_cases q1 : letB c' = true
          · simp only [go_sem, reduceIte, Nat.reduceEqDiff, Nat.reduceAdd, Nat.reduceMul, Nat.reduceSub, Nat.reduceLeDiff, Nat.reduceLT, Nat.reduceBEq, reduceCtorEq, g0, g3, hk', hc', hw, e189, q1]
            intro i d hi hj hd
            by_cases e : i = k + 1
            · subst e; rw [hc'] at hd; cases hd; simp [restB, q1]
            · exact hf i d hi (by omega) hd
          · rw [Bool.not_eq_true] at q1
            by_cases q2 : digB c' = true
            · simp only [go_sem, reduceIte, Nat.reduceEqDiff, Nat.reduceAdd, Nat.reduceMul, Nat.reduceSub, Nat.reduceLeDiff, Nat.reduceLT, Nat.reduceBEq, reduceCtorEq, g0, g3, hk', hc', hw, e189, e190, q1, q2]
              intro i d hi hj hd
              by_cases e : i = k + 1
              · subst e; rw [hc'] at hd; cases hd; simp [restB, q2]
              · exact hf i d hi (by omega) hd
            · rw [Bool.not_eq_true] at q2
              rcases Classical.propComplete (((c' : Nat) : Int) = 95) with q3 | q3
              · simp only [go_sem, reduceIte, Nat.reduceEqDiff, Nat.reduceAdd, Nat.reduceMul, Nat.reduceSub, Nat.reduceLeDiff, Nat.reduceLT, Nat.reduceBEq, reduceCtorEq, g0, g3, hk', hc', hw, e189, e190, q1, q2, q3]
                intro i d hi hj hd
                by_cases e : i = k + 1
                · subst e; rw [hc'] at hd; cases hd; simp [restB, q3]
                · exact hf i d hi (by omega) hd
              · simp only [go_sem, reduceIte, Nat.reduceEqDiff, Nat.reduceAdd, Nat.reduceMul, Nat.reduceSub, Nat.reduceLeDiff, Nat.reduceLT, Nat.reduceBEq, reduceCtorEq, g0, g3, hk', hc', hw, e189, e190, q1, q2, q3]
                simp [nameB_not (by omega) hc' (show restB c' = false by simp [restB, q1, q2, q3])]
        · rintro T H M ⟨rfl, g0, g3, hf⟩
          have hn : ¬ (s.length - 1 + 1 < s.length) := by omega
          simp only [go_sem, reduceIte, Nat.reduceEqDiff, Nat.reduceAdd, Nat.reduceMul, Nat.reduceSub, Nat.reduceLeDiff, Nat.reduceLT, Nat.reduceBEq, reduceCtorEq, g0, g3, hn]
          have := nameB_at (s := s) (by intro e; rw [e] at h0; simp at h0) (by omega) (fun d hd => by rw [hc] at hd; cases hd; exact hb) (fun i d hi hd => hf i d hi (by have := (List.getElem?_eq_some_iff.1 hd).1; omega) hd)
          simp [this]
end Go.Sim

/-
Names, as the program tests them.
-/
namespace Go.Sim
open Go Go.Proofs
set_option maxRecDepth 100000
set_option maxHeartbeats 1000000
theorem dec_ascii {s : List Nat} {k c : Nat} (h : s[k]? = some c) (hc : c < 128) : adecode s k = (c, 1) := by
  unfold adecode
  have : s.getD (k + 0) 0 = c := by simp [h]
  simp only [this]
  rw [if_pos hc]
theorem dec_high {s : List Nat} {k c : Nat} (h : s[k]? = some c) (hc : ¬ c < 128) : 128 ≤ (adecode s k).1 := by
  unfold adecode
  have h0 : s.getD (k + 0) 0 = c := by simp [h]
  simp only [h0]
  rw [if_neg hc]
  have he : (128 : Nat) ≤ Utf8.runeError := by decide
  split
  · split
    · rename_i h1; exact h1
    · exact he
  · split
    · split
      · rename_i h1; simp only [Bool.and_eq_true, decide_eq_true_eq] at h1; exact Nat.le_trans (by decide) h1.1
      · exact he
    · split
      · split
        · rename_i h1; simp only [Bool.and_eq_true, decide_eq_true_eq] at h1; exact Nat.le_trans (by decide) h1.1
        · exact he
      · exact he
theorem letB_high {x : Nat} (h : 128 ≤ x) : letB x = false := by
  have h1 : ¬ ((x : Int) < 65) := by omega
  have h2 : (90 : Int) < x := by omega
  have h3 : ¬ ((x : Int) < 97) := by omega
  have h4 : (122 : Int) < x := by omega
  simp [letB, h2, h4]
theorem digB_high {x : Nat} (h : 128 ≤ x) : digB x = false := by
  have h2 : (57 : Int) < x := by omega
  simp [digB, h2]
theorem c182 (s : List Nat) (hl : s.length ≤ maxRows) : ∀ lo H, CallOk NC lo 182 [.str s] H (.bool (nameB s)) H := by
  refine contract saneNC primsA (fn := Tryz.f182) (by kernel_rfl) Tryz.func182 rfl rfl (by rfl) (by rfl) ?_
  simp only [go_sem, reduceIte, Nat.reduceEqDiff, Nat.reduceAdd, Nat.reduceMul, Nat.reduceSub, Nat.reduceLeDiff, Nat.reduceLT, Nat.reduceBEq, reduceCtorEq]
  refine W_for (fun k T H M => M = [] ∧ getT T 0 = .str s ∧ getT T 6 = .ptr 0 0 ∧ H.get 0 = .sit s k ∧ (∀ c, 0 < k → s[0]? = some c → letB (c : Nat) = true) ∧ ∀ (i c : Nat), 1 ≤ i → i < k → s[i]? = some c → restB c = true) s.length ?_ ?_ ?_
  · simp only [go_sem, reduceIte, Nat.reduceEqDiff, Nat.reduceAdd, Nat.reduceMul, Nat.reduceSub, Nat.reduceLeDiff, Nat.reduceLT, Nat.reduceBEq, reduceCtorEq]; exact ⟨fun c h => h.elim, fun i c h1 h2 => by omega⟩
  · rintro k T H M hk ⟨rfl, g0, g6, gH, hf0, hf⟩
    obtain ⟨c, hc⟩ : ∃ c, s[k]? = some c := ⟨s[k], by simp⟩
    by_cases hasc : c < 128
    · have hd := dec_ascii hc hasc
      cases q1 : letB (c : Nat) with
      | true =>
        simp only [go_sem, reduceIte, Nat.reduceEqDiff, Nat.reduceAdd, Nat.reduceMul, Nat.reduceSub, Nat.reduceLeDiff, Nat.reduceLT, Nat.reduceBEq, reduceCtorEq, g0, g6, gH, hk, hd, e227, e228, q1]
        refine ⟨fun d _ hd0 => ?_, fun i d hi hj hdi => ?_⟩
        · by_cases e : k = 0
          · subst e; rw [hc] at hd0; cases hd0; exact q1
          · exact hf0 d (by omega) hd0
        · by_cases e : i = k
          · subst e; rw [hc] at hdi; cases hdi; simp [restB, q1]
          · exact hf i d hi (by omega) hdi
      | false =>
        by_cases e : k = 0
        · subst e
          simp only [go_sem, reduceIte, Nat.reduceEqDiff, Nat.reduceAdd, Nat.reduceMul, Nat.reduceSub, Nat.reduceLeDiff, Nat.reduceLT, Nat.reduceBEq, reduceCtorEq, g0, g6, gH, hk, hd, e227, e228, q1]
          simp [nameB_not0 hc q1]
        · have e' : ((k : Int) = 0) = False := by simp; omega
          cases q2 : digB (c : Nat) with
          | true =>
            simp only [go_sem, reduceIte, Nat.reduceEqDiff, Nat.reduceAdd, Nat.reduceMul, Nat.reduceSub, Nat.reduceLeDiff, Nat.reduceLT, Nat.reduceBEq, reduceCtorEq, g0, g6, gH, hk, hd, e227, e228, q1, q2, e']
            refine ⟨fun d _ hd0 => hf0 d (by omega) hd0, fun i d hi hj hdi => ?_⟩
            by_cases e : i = k
            · subst e; rw [hc] at hdi; cases hdi; simp [restB, q2]
            · exact hf i d hi (by omega) hdi
          | false =>
            rcases Classical.propComplete (((c : Nat) : Int) = 95) with q3 | q3
            · simp only [go_sem, reduceIte, Nat.reduceEqDiff, Nat.reduceAdd, Nat.reduceMul, Nat.reduceSub, Nat.reduceLeDiff, Nat.reduceLT, Nat.reduceBEq, reduceCtorEq, g0, g6, gH, hk, hd, e227, e228, q1, q2, q3, e']
              refine ⟨fun d _ hd0 => hf0 d (by omega) hd0, fun i d hi hj hdi => ?_⟩
              by_cases e : i = k
              · subst e; rw [hc] at hdi; cases hdi; simp [restB, q3]
              · exact hf i d hi (by omega) hdi
            · simp only [go_sem, reduceIte, Nat.reduceEqDiff, Nat.reduceAdd, Nat.reduceMul, Nat.reduceSub, Nat.reduceLeDiff, Nat.reduceLT, Nat.reduceBEq, reduceCtorEq, g0, g6, gH, hk, hd, e227, e228, q1, q2, q3, e']
              simp [nameB_not (by omega) hc (show restB (c : Nat) = false by simp [restB, q1, q2, q3])]
    · have hd := dec_high hc hasc
      have q1 := letB_high hd
      have q2 := digB_high hd
      have q3 : (((adecode s k).1 : Int) = 95) = False := by simp; omega
      have r1 : letB (c : Nat) = false := letB_high (by omega)
      have r2 : digB (c : Nat) = false := digB_high (by omega)
      have r3 : ¬ ((c : Int) = 95) := by omega
      by_cases e : k = 0
      · subst e
        simp only [go_sem, reduceIte, Nat.reduceEqDiff, Nat.reduceAdd, Nat.reduceMul, Nat.reduceSub, Nat.reduceLeDiff, Nat.reduceLT, Nat.reduceBEq, reduceCtorEq, g0, g6, gH, hk, e227, e228, q1]
        simp [nameB_not0 hc r1]
      · have e' : ((k : Int) = 0) = False := by simp; omega
        simp only [go_sem, reduceIte, Nat.reduceEqDiff, Nat.reduceAdd, Nat.reduceMul, Nat.reduceSub, Nat.reduceLeDiff, Nat.reduceLT, Nat.reduceBEq, reduceCtorEq, g0, g6, gH, hk, e227, e228, q1, q2, q3, e']
        simp [nameB_not (by omega) hc (show restB (c : Nat) = false by simp [restB, r1, r2, r3])]
  · rintro T H M ⟨rfl, g0, g6, gH, hf0, hf⟩
    rcases Classical.propComplete ((0 : Int) < (s.length : Int)) with h1 | h1
    · rcases Classical.propComplete ((24 : Int) < (s.length : Int)) with h2 | h2
      · simp only [go_sem, reduceIte, Nat.reduceEqDiff, Nat.reduceAdd, Nat.reduceMul, Nat.reduceSub, Nat.reduceLeDiff, Nat.reduceLT, Nat.reduceBEq, reduceCtorEq, g0, g6, gH, Nat.lt_irrefl, h1, h2]
        have h2' := of_eq_true h2
        cases s with
        | nil => simp [nameB]
        | cons c r => simp [nameB]; intro h; simp at h2'; omega
      · simp only [go_sem, reduceIte, Nat.reduceEqDiff, Nat.reduceAdd, Nat.reduceMul, Nat.reduceSub, Nat.reduceLeDiff, Nat.reduceLT, Nat.reduceBEq, reduceCtorEq, g0, g6, gH, Nat.lt_irrefl, h1, h2]
        have h1' := of_eq_true h1
        have h2' := of_eq_false h2
        have := nameB_at (s := s) (by intro e; rw [e] at h1'; simp at h1') (by omega) (fun d hd => hf0 d (by omega) hd) (fun i d hi hd => hf i d hi (List.getElem?_eq_some_iff.1 hd).1 hd)
        simp [this]
    · simp only [go_sem, reduceIte, Nat.reduceEqDiff, Nat.reduceAdd, Nat.reduceMul, Nat.reduceSub, Nat.reduceLeDiff, Nat.reduceLT, Nat.reduceBEq, reduceCtorEq, g0, g6, gH, Nat.lt_irrefl, h1]
      have h1' := of_eq_false h1
      have : s = [] := List.length_eq_zero_iff.1 (by omega)
      subst this
      simp [nameB]
end Go.Sim

/-
The reference: small functions.
-/
namespace Go.Sim
open Go Go.Proofs
set_option maxRecDepth 100000
set_option maxHeartbeats 1000000
theorem pair_inj {f : Bool × Int → List AV} (hf : f = fun x => [.bool x.1, i64 x.2]) (x y : Bool × Int) (h : f x = f y) : x = y := by
  subst hf; obtain ⟨a, b⟩ := x; obtain ⟨c, d⟩ := y; simp at h; obtain ⟨rfl, rfl⟩ := h; rfl
theorem intRows_inj (x y : List Int) (h : [AV.ps .unk (intRows x)] = [AV.ps .unk (intRows y)]) : x = y := by
  simp only [List.cons.injEq, AV.ps.injEq, and_true, true_and] at h
  exact map_inj (by intro a b e; simpa using e) h
noncomputable def p48 : List AV → Option AV := primOf (α := Bool × Int) (fun x => [.bool x.1, i64 x.2]) (fun _ => True) (fun x => i64 (whenI x.1 x.2))
theorem pok48 : ∀ args v, p48 args = some v → ∀ lo H, CallOk NC lo 48 args H v H := by
  intro args v h
  obtain ⟨x, rfl, hp, rfl⟩ := primOf_inv h
  clear h
  revert x
  intro x; exact c48 x.1 x.2
theorem pe48 (x : Bool × Int) (hp : (fun _ => True) x) : p48 ((fun x => [.bool x.1, i64 x.2]) x) = some ((fun x => i64 (whenI x.1 x.2)) x) := primOf_enc (by intro x y h; exact pair_inj rfl x y h) x hp
theorem e48 (b : Bool) (e : Int) : p48 [.bool b, .int .i64 e] = some (.int .i64 (whenI b e)) := pe48 (b, e) trivial
noncomputable def p121 : List AV → Option AV := primOf (α := Bool × Int) (fun x => [.bool x.1, i64 x.2]) (fun _ => True) (fun x => i64 (whenI x.1 x.2))
theorem pok121 : ∀ args v, p121 args = some v → ∀ lo H, CallOk NC lo 121 args H v H := by
  intro args v h
  obtain ⟨x, rfl, hp, rfl⟩ := primOf_inv h
  clear h
  revert x
  intro x; exact c121 x.1 x.2
theorem pe121 (x : Bool × Int) (hp : (fun _ => True) x) : p121 ((fun x => [.bool x.1, i64 x.2]) x) = some ((fun x => i64 (whenI x.1 x.2)) x) := primOf_enc (by intro x y h; exact pair_inj rfl x y h) x hp
theorem e121 (b : Bool) (e : Int) : p121 [.bool b, .int .i64 e] = some (.int .i64 (whenI b e)) := pe121 (b, e) trivial
noncomputable def p34 : List AV → Option AV := primOf (α := List Int) (fun x => [.ps .unk (intRows x)]) (fun x => x.length ≤ maxRows) (fun x => i64 (firstI x))
theorem pok34 : ∀ args v, p34 args = some v → ∀ lo H, CallOk NC lo 34 args H v H := by
  intro args v h
  obtain ⟨x, rfl, hp, rfl⟩ := primOf_inv h
  clear h
  revert x
  intro x hx; exact c34 x hx
theorem pe34 (x : List Int) (hp : (fun x => x.length ≤ maxRows) x) : p34 ((fun x => [.ps .unk (intRows x)]) x) = some ((fun x => i64 (firstI x)) x) := primOf_enc (by intro x y h; exact intRows_inj x y h) x hp
theorem e34_2 (a b : Int) : p34 [.ps .unk [[.int .i64 a], [.int .i64 b]]] = some (.int .i64 (firstI [a, b])) := pe34 [a, b] (by show 2 ≤ 1073741824; decide)
noncomputable def p111 : List AV → Option AV := primOf (α := List Int) (fun x => [.ps .unk (intRows x)]) (fun x => x.length ≤ maxRows) (fun x => i64 (firstI x))
theorem pok111 : ∀ args v, p111 args = some v → ∀ lo H, CallOk NC lo 111 args H v H := by
  intro args v h
  obtain ⟨x, rfl, hp, rfl⟩ := primOf_inv h
  clear h
  revert x
  intro x hx; exact c111 x hx
theorem pe111 (x : List Int) (hp : (fun x => x.length ≤ maxRows) x) : p111 ((fun x => [.ps .unk (intRows x)]) x) = some ((fun x => i64 (firstI x)) x) := primOf_enc (by intro x y h; exact intRows_inj x y h) x hp
theorem e111_2 (a b : Int) : p111 [.ps .unk [[.int .i64 a], [.int .i64 b]]] = some (.int .i64 (firstI [a, b])) := pe111 [a, b] (by show 2 ≤ 1073741824; decide)
theorem e111_5 (a b c d e : Int) : p111 [.ps .unk [[.int .i64 a], [.int .i64 b], [.int .i64 c], [.int .i64 d], [.int .i64 e]]] = some (.int .i64 (firstI [a, b, c, d, e])) := pe111 [a, b, c, d, e] (by show 5 ≤ 1073741824; decide)
noncomputable def p26 : List AV → Option AV := primOf (α := Ln) (fun x => [.agg x.row]) (fun x => x.ps.length ≤ maxRows) (fun x => i64 (sumW x.ps 0))
theorem pok26 : ∀ args v, p26 args = some v → ∀ lo H, CallOk NC lo 26 args H v H := by
  intro args v h
  obtain ⟨x, rfl, hp, rfl⟩ := primOf_inv h
  clear h
  revert x
  intro x hx; exact c26 x hx
noncomputable def p178 : List AV → Option AV := primOf (α := Pc) (fun x => [.agg x.row]) (fun _ => True) (fun x => i64 (stepI x.back))
theorem pok178 : ∀ args v, p178 args = some v → ∀ lo H, CallOk NC lo 178 args H v H := by
  intro args v h
  obtain ⟨x, rfl, hp, rfl⟩ := primOf_inv h
  clear h
  revert x
  intro x; exact c178 x
noncomputable def p109 : List AV → Option AV := primOf (α := Pc × Int) (fun x => [.agg x.1.row, i64 x.2]) (fun _ => True) (fun x => i64 (postI x.1 x.2))
theorem pok109 : ∀ args v, p109 args = some v → ∀ lo H, CallOk NC lo 109 args H v H := by
  intro args v h
  obtain ⟨x, rfl, hp, rfl⟩ := primOf_inv h
  clear h
  revert x
  intro x; exact c109 x.1 x.2
noncomputable def p108 : List AV → Option AV := primOf (α := Ln × Nat) (fun x => [.agg x.1.row, i64 x.2]) (fun x => x.2 ≤ x.1.ps.length ∧ x.1.ps.length ≤ maxRows) (fun x => i64 (sumW (x.1.ps.take x.2) 0))
theorem pok108 : ∀ args v, p108 args = some v → ∀ lo H, CallOk NC lo 108 args H v H := by
  intro args v h
  obtain ⟨x, rfl, hp, rfl⟩ := primOf_inv h
  clear h
  revert x
  intro x hx; exact c108 x.1 x.2 hx.1 hx.2
noncomputable def p27 : List AV → Option AV := primOf (α := Net × List Nat) (fun x => [.agg x.1.cells, .str x.2]) (fun x => x.1.lines.length ≤ maxRows) (fun x => i64 (findI x.1.lines x.2))
theorem pok27 : ∀ args v, p27 args = some v → ∀ lo H, CallOk NC lo 27 args H v H := by
  intro args v h
  obtain ⟨x, rfl, hp, rfl⟩ := primOf_inv h
  clear h
  revert x
  intro x hx; exact c27 x.1 x.2 hx
noncomputable def p97 : List AV → Option AV := primOf (α := List Nat) (fun x => [.str x]) (fun _ => True) (fun x => .bool (shortB x))
theorem pok97 : ∀ args v, p97 args = some v → ∀ lo H, CallOk NC lo 97 args H v H := by
  intro args v h
  obtain ⟨x, rfl, hp, rfl⟩ := primOf_inv h
  clear h
  revert x
  intro x; exact c97 x
theorem pe97 (x : List Nat) (hp : (fun _ => True) x) : p97 ((fun x => [.str x]) x) = some ((fun x => .bool (shortB x)) x) := primOf_enc (by intro x y h; simpa using h) x hp
theorem e97 (s : List Nat) : p97 [.str s] = some (.bool (shortB s)) := pe97 s trivial
noncomputable def p122 : List AV → Option AV := primOf (α := List Nat) (fun x => [.str x]) (fun _ => True) (fun x => .bool (nameB x))
theorem pok122 : ∀ args v, p122 args = some v → ∀ lo H, CallOk NC lo 122 args H v H := by
  intro args v h
  obtain ⟨x, rfl, hp, rfl⟩ := primOf_inv h
  clear h
  revert x
  intro x; exact c122 x
theorem pe122 (x : List Nat) (hp : (fun _ => True) x) : p122 ((fun x => [.str x]) x) = some ((fun x => .bool (nameB x)) x) := primOf_enc (by intro x y h; simpa using h) x hp
theorem e122 (s : List Nat) : p122 [.str s] = some (.bool (nameB s)) := pe122 s trivial
noncomputable def p182 : List AV → Option AV := primOf (α := List Nat) (fun x => [.str x]) (fun x => x.length ≤ maxRows) (fun x => .bool (nameB x))
theorem pok182 : ∀ args v, p182 args = some v → ∀ lo H, CallOk NC lo 182 args H v H := by
  intro args v h
  obtain ⟨x, rfl, hp, rfl⟩ := primOf_inv h
  clear h
  revert x
  intro x hx; exact c182 x hx
theorem pe182 (x : List Nat) (hp : (fun x => x.length ≤ maxRows) x) : p182 ((fun x => [.str x]) x) = some ((fun x => .bool (nameB x)) x) := primOf_enc (by intro x y h; simpa using h) x hp
theorem e182 (s : List Nat) (hs : s.length ≤ maxRows) : p182 [.str s] = some (.bool (nameB s)) := pe182 s hs
noncomputable def PPB : FuncId → Option (List AV → Option AV) := addPrim 182 p182 (addPrim 122 p122 (addPrim 97 p97 (addPrim 27 p27 (addPrim 108 p108 (addPrim 109 p109 (addPrim 178 p178 (addPrim 26 p26 (addPrim 111 p111 (addPrim 34 p34 (addPrim 121 p121 (addPrim 48 p48 (fun _ => none))))))))))))
theorem primsB : PrimsOk NC PPB := primsOk_add (primsOk_add (primsOk_add (primsOk_add (primsOk_add (primsOk_add (primsOk_add (primsOk_add (primsOk_add (primsOk_add (primsOk_add (primsOk_add (primsOk_none) (by kernel_rfl) (by kernel_rfl) pok48) (by kernel_rfl) (by kernel_rfl) pok121) (by kernel_rfl) (by kernel_rfl) pok34) (by kernel_rfl) (by kernel_rfl) pok111) (by kernel_rfl) (by kernel_rfl) pok26) (by kernel_rfl) (by kernel_rfl) pok178) (by kernel_rfl) (by kernel_rfl) pok109) (by kernel_rfl) (by kernel_rfl) pok108) (by kernel_rfl) (by kernel_rfl) pok27) (by kernel_rfl) (by kernel_rfl) pok97) (by kernel_rfl) (by kernel_rfl) pok122) (by kernel_rfl) (by kernel_rfl) pok182
theorem enB_48 : En PPB 48 p48 := enter_prim (by rfl) (by kernel_rfl)
theorem enB_121 : En PPB 121 p121 := enter_prim (by rfl) (by kernel_rfl)
theorem enB_34 : En PPB 34 p34 := enter_prim (by rfl) (by kernel_rfl)
theorem enB_111 : En PPB 111 p111 := enter_prim (by rfl) (by kernel_rfl)
theorem enB_26 : En PPB 26 p26 := enter_prim (by rfl) (by kernel_rfl)
theorem enB_178 : En PPB 178 p178 := enter_prim (by rfl) (by kernel_rfl)
theorem enB_109 : En PPB 109 p109 := enter_prim (by rfl) (by kernel_rfl)
theorem enB_108 : En PPB 108 p108 := enter_prim (by rfl) (by kernel_rfl)
theorem enB_27 : En PPB 27 p27 := enter_prim (by rfl) (by kernel_rfl)
theorem enB_97 : En PPB 97 p97 := enter_prim (by rfl) (by kernel_rfl)
theorem enB_122 : En PPB 122 p122 := enter_prim (by rfl) (by kernel_rfl)
theorem enB_182 : En PPB 182 p182 := enter_prim (by rfl) (by kernel_rfl)
attribute [go_sem ↓] enB_48 enB_121 enB_34 enB_111 enB_26 enB_178 enB_109 enB_108 enB_27 enB_97 enB_122 enB_182
def rangeI (n a b : Int) : Int := whenI (decide (n < a) || decide (b < n)) 3
theorem c35 (n a b : Int) : ∀ lo H, CallOk NC lo 35 [i64 n, i64 a, i64 b] H (i64 (rangeI n a b)) H := by
  refine contract saneNC primsB (fn := Tryz.f35) (by kernel_rfl) Tryz.func35 rfl rfl (by rfl) (by rfl) ?_
  rcases Classical.propComplete (n < a) with h1 | h1 <;> rcases Classical.propComplete (b < n) with h2 | h2 <;> simp only [go_sem, reduceIte, Nat.reduceEqDiff, Nat.reduceAdd, Nat.reduceMul, Nat.reduceSub, Nat.reduceLeDiff, Nat.reduceLT, Nat.reduceBEq, reduceCtorEq, e48, h1, h2] <;> simp [rangeI, h1, h2]
theorem c115 (n a b : Int) : ∀ lo H, CallOk NC lo 115 [i64 n, i64 a, i64 b] H (i64 (rangeI n a b)) H := by
  refine contract saneNC primsB (fn := Tryz.f115) (by kernel_rfl) Tryz.func115 rfl rfl (by rfl) (by rfl) ?_
  rcases Classical.propComplete (n < a) with h1 | h1 <;> rcases Classical.propComplete (b < n) with h2 | h2 <;> simp only [go_sem, reduceIte, Nat.reduceEqDiff, Nat.reduceAdd, Nat.reduceMul, Nat.reduceSub, Nat.reduceLeDiff, Nat.reduceLT, Nat.reduceBEq, reduceCtorEq, e121, h1, h2] <;> simp [rangeI, h1, h2]
theorem c36 (s : List Nat) : ∀ lo H, CallOk NC lo 36 [.str s] H (i64 (whenI (!nameB s) 8)) H := by
  refine contract saneNC primsB (fn := Tryz.f36) (by kernel_rfl) Tryz.func36 rfl rfl (by rfl) (by rfl) ?_
  simp only [go_sem, reduceIte, Nat.reduceEqDiff, Nat.reduceAdd, Nat.reduceMul, Nat.reduceSub, Nat.reduceLeDiff, Nat.reduceLT, Nat.reduceBEq, reduceCtorEq, e122, e48]
end Go.Sim

/-
Pieces, places and metres.
-/
namespace Go.Sim
open Go Go.Proofs
set_option maxRecDepth 100000
set_option maxHeartbeats 1000000
noncomputable def p35 : List AV → Option AV := primOf (α := Int × Int × Int) (fun x => [i64 x.1, i64 x.2.1, i64 x.2.2]) (fun _ => True) (fun x => i64 (rangeI x.1 x.2.1 x.2.2))
theorem pok35 : ∀ args v, p35 args = some v → ∀ lo H, CallOk NC lo 35 args H v H := by
  intro args v h
  obtain ⟨x, rfl, hp, rfl⟩ := primOf_inv h
  clear h
  revert x
  intro x; exact c35 x.1 x.2.1 x.2.2
theorem pe35 (x : Int × Int × Int) (hp : (fun _ => True) x) : p35 ((fun x => [i64 x.1, i64 x.2.1, i64 x.2.2]) x) = some ((fun x => i64 (rangeI x.1 x.2.1 x.2.2)) x) := primOf_enc (by intro x y h; (obtain ⟨a, b, c⟩ := x; obtain ⟨d, e, f⟩ := y; simp at h; obtain ⟨rfl, rfl, rfl⟩ := h; rfl)) x hp
theorem e35 (n a b : Int) : p35 [.int .i64 n, .int .i64 a, .int .i64 b] = some (.int .i64 (rangeI n a b)) := pe35 (n, a, b) trivial
noncomputable def p115 : List AV → Option AV := primOf (α := Int × Int × Int) (fun x => [i64 x.1, i64 x.2.1, i64 x.2.2]) (fun _ => True) (fun x => i64 (rangeI x.1 x.2.1 x.2.2))
theorem pok115 : ∀ args v, p115 args = some v → ∀ lo H, CallOk NC lo 115 args H v H := by
  intro args v h
  obtain ⟨x, rfl, hp, rfl⟩ := primOf_inv h
  clear h
  revert x
  intro x; exact c115 x.1 x.2.1 x.2.2
theorem pe115 (x : Int × Int × Int) (hp : (fun _ => True) x) : p115 ((fun x => [i64 x.1, i64 x.2.1, i64 x.2.2]) x) = some ((fun x => i64 (rangeI x.1 x.2.1 x.2.2)) x) := primOf_enc (by intro x y h; (obtain ⟨a, b, c⟩ := x; obtain ⟨d, e, f⟩ := y; simp at h; obtain ⟨rfl, rfl, rfl⟩ := h; rfl)) x hp
theorem e115 (n a b : Int) : p115 [.int .i64 n, .int .i64 a, .int .i64 b] = some (.int .i64 (rangeI n a b)) := pe115 (n, a, b) trivial
noncomputable def p36 : List AV → Option AV := primOf (α := List Nat) (fun x => [.str x]) (fun _ => True) (fun x => i64 (whenI (!nameB x) 8))
theorem pok36 : ∀ args v, p36 args = some v → ∀ lo H, CallOk NC lo 36 args H v H := by
  intro args v h
  obtain ⟨x, rfl, hp, rfl⟩ := primOf_inv h
  clear h
  revert x
  intro x; exact c36 x
theorem pe36 (x : List Nat) (hp : (fun _ => True) x) : p36 ((fun x => [.str x]) x) = some ((fun x => i64 (whenI (!nameB x) 8)) x) := primOf_enc (by intro x y h; simpa using h) x hp
theorem e36 (s : List Nat) : p36 [.str s] = some (.int .i64 (whenI (!nameB s) 8)) := pe36 s trivial
end Go.Sim

/-
The reference: CheckNetwork.
-/
namespace Go.Sim
open Go Go.Proofs
set_option maxRecDepth 100000
set_option maxHeartbeats 2000000
theorem errs_at {f : Nat → Int} {n k : Nat} (h : k < n) : ((List.range n).map f)[k]? = some (f k) := by simp [h]
def allR (f : Nat → Int) (n : Nat) : Int := firstI ((List.range n).map f)
theorem allR_step {f : Nat → Int} {n k : Nat} (h : k < n) : firstI (((List.range n).map f).drop k) = if f k = 0 then firstI (((List.range n).map f).drop (k + 1)) else f k := firstI_drop (errs_at h)
theorem allR_end (f : Nat → Int) (n : Nat) : firstI (((List.range n).map f).drop n) = 0 := by
  rw [List.drop_eq_nil_of_le (by simp)]; rfl
end Go.Sim

/-
The program: Placed; the calls that check first.
-/
namespace Go.Sim
open Go Go.Proofs
set_option maxRecDepth 100000
set_option maxHeartbeats 8000000
def noPlace : AV := .agg [.str [], i64 0]
end Go.Sim

/-
The plain law: the program's errors are the reference's.
-/
namespace Go.Sim
open Go
theorem whenI_false (e : Int) : whenI false e = 0 := rfl
theorem firstI_cons (e : Int) (r : List Int) : firstI (e :: r) = if e = 0 then firstI r else e := rfl
theorem firstI_nil : firstI [] = 0 := rfl
theorem beqL_iff : ∀ (a b : List Nat), beqL a b = true ↔ a = b
  | [], [] => by simp [beqL]
  | [], _ :: _ => by simp [beqL]
  | _ :: _, [] => by simp [beqL]
  | a :: x, b :: y => by
    unfold beqL
    by_cases h : a = b
    · subst h
      have : Nat.beq a a = true := Nat.beq_refl a
      rw [this]
      simp [beqL_iff x y]
    · have : Nat.beq a b = false := by
        cases hb : Nat.beq a b with
        | false => rfl
        | true => exact absurd (Nat.eq_of_beq_eq_true hb) h
      rw [this]
      simp [h]
theorem rangeI_zero {n a b : Int} (h : rangeI n a b = 0) : a ≤ n ∧ n ≤ b := by
  unfold rangeI whenI at h
  by_cases h1 : n < a
  · simp [h1] at h
  · by_cases h2 : b < n
    · simp [h2] at h
    · omega
theorem wrap_small {x : Int} (h : -1000000000 ≤ x) (h2 : x ≤ 1000000000) : wrapq .i64 x = x := wrapq_i64 (by omega) (by omega)
end Go.Sim

/-
The plain law: addresses and places of valid networks.
-/
namespace Go.Sim
open Go
theorem firstI_zero : ∀ {es : List Int}, firstI es = 0 → ∀ e ∈ es, e = 0
  | [], _, e, he => by simp at he
  | a :: r, h, e, he => by
    rw [firstI_cons] at h
    by_cases ha : a = 0
    · rw [if_pos ha] at h
      rcases List.mem_cons.1 he with rfl | he
      · exact ha
      · exact firstI_zero h e he
    · rw [if_neg ha] at h; exact absurd h ha
theorem allR_zero {f : Nat → Int} {n : Nat} (h : allR f n = 0) {i : Nat} (hi : i < n) : f i = 0 :=
  firstI_zero h _ (List.mem_map.2 ⟨i, by simpa using hi, rfl⟩)
structure Ln.Good (l : Ln) : Prop where
  few : l.ps.length ≤ 8
  piece : ∀ p ∈ l.ps, 1 ≤ p.len ∧ p.len ≤ 100000 ∧ 0 ≤ p.post ∧ p.post ≤ 9999999
variable {l : Ln}
end Go.Sim

/-
Maps: data; the small functions, of the program and of the reference.
-/
namespace Go.Sim
open Go Go.Proofs
set_option maxRecDepth 100000
set_option maxHeartbeats 4000000
structure Mv where
  line : List Nat
  fr : Int
  len : Int
  other : List Nat
  to : Int
  turned : Bool
def Mv.row (x : Mv) : List AV := [.str x.line, i64 x.fr, i64 x.len, .str x.other, i64 x.to, .bool x.turned]
theorem Mv.row_inj (a b : Mv) (h : a.row = b.row) : a = b := by
  cases a; cases b; simp [Mv.row] at h; obtain ⟨rfl, rfl, rfl, rfl, rfl, rfl⟩ := h; rfl
theorem Mv.row_len (p : Mv) : p.row.length = 6 := rfl
theorem Net.cells_iff (a b : Net) : a.cells = b.cells ↔ a = b := ⟨Net.cells_inj a b, fun h => by rw [h]⟩
theorem Ln.row_iff (a b : Ln) : a.row = b.row ↔ a = b := ⟨Ln.row_inj a b, fun h => by rw [h]⟩
theorem Pc.row_iff (a b : Pc) : a.row = b.row ↔ a = b := ⟨Pc.row_inj a b, fun h => by rw [h]⟩
theorem Mv.row_iff (a b : Mv) : a.row = b.row ↔ a = b := ⟨Mv.row_inj a b, fun h => by rw [h]⟩
theorem lns_iff (a b : List Ln) : a.map Ln.row = b.map Ln.row ↔ a = b := ⟨fun h => map_inj Ln.row_inj h, fun h => by rw [h]⟩
theorem pcs_iff (a b : List Pc) : a.map Pc.row = b.map Pc.row ↔ a = b := ⟨fun h => map_inj Pc.row_inj h, fun h => by rw [h]⟩
theorem mvs_iff (a b : List Mv) : a.map Mv.row = b.map Mv.row ↔ a = b := ⟨fun h => map_inj Mv.row_inj h, fun h => by rw [h]⟩
structure MapOk (m : List Mv) : Prop where
  few : m.length ≤ maxRows
  word : ∀ x ∈ m, x.line.length ≤ maxRows ∧ x.other.length ≤ maxRows
noncomputable def PPF193 : FuncId → Option (List AV → Option AV) := addPrim 182 p182 (fun _ => none)
theorem primsF193 : PrimsOk NC PPF193 := primsOk_add (primsOk_none) (by kernel_rfl) (by kernel_rfl) pok182
theorem enF193_182 : En PPF193 182 p182 := enter_prim (by rfl) (by kernel_rfl)
attribute [go_sem ↓] enF193_182
theorem c193 (s : List Nat) (hp : s.length ≤ maxRows) : ∀ lo H, CallOk NC lo 193 [.str s] H (.bool (nameB s)) H := by
  refine contract saneNC primsF193 (fn := Tryz.f193) (by kernel_rfl) Tryz.func193 rfl rfl (by rfl) (by first | rfl | (split <;> first | rfl | (split <;> rfl))) ?_
  simp only [go_sem, reduceIte, Nat.reduceEqDiff, Nat.reduceAdd, Nat.reduceMul, Nat.reduceSub, Nat.reduceLeDiff, Nat.reduceLT, Nat.reduceBEq, reduceCtorEq, e182 s hp]
noncomputable def p193 : List AV → Option AV := primOf (α := (List Nat)) (fun x => [.str x]) (fun x => x.length ≤ maxRows) (fun x => .bool (nameB x))
theorem pok193 : ∀ args v, p193 args = some v → ∀ lo H, CallOk NC lo 193 args H v H := by
  intro args v h
  obtain ⟨x, rfl, hp, rfl⟩ := primOf_inv h
  exact c193 x hp
theorem pe193 (s : List Nat) (hp : s.length ≤ maxRows) : p193 [.str s] = some (.bool (nameB s)) := primOf_enc (α := (List Nat)) (enc := fun x => [.str x]) (pre := fun x => x.length ≤ maxRows) (spec := fun x => .bool (nameB x)) (by intro x y h; (simp only [List.cons.injEq, AV.agg.injEq, AV.str.injEq, AV.int.injEq, AV.ps.injEq, AV.bool.injEq, Net.cells_iff, Ln.row_iff, Pc.row_iff, Mv.row_iff, lns_iff, pcs_iff, mvs_iff, true_and, and_true] at h; first | simpa only [Prod.ext_iff] using h | simpa only [Prod.ext_iff, and_assoc] using h)) s hp
def endI (x : Mv) : Int := wrapq .i64 (Int.add x.fr x.len)
noncomputable def PPF128 : FuncId → Option (List AV → Option AV) := fun _ => none
theorem primsF128 : PrimsOk NC PPF128 := primsOk_none
theorem c128 (x : Mv) : ∀ lo H, CallOk NC lo 128 [.agg x.row] H (i64 (endI x)) H := by
  refine contract saneNC primsF128 (fn := Tryz.f128) (by kernel_rfl) Tryz.func128 rfl rfl (by rfl) (by first | rfl | (split <;> first | rfl | (split <;> rfl))) ?_
  obtain ⟨a, b, c, d, e, f⟩ := x
  simp only [go_sem, reduceIte, Nat.reduceEqDiff, Nat.reduceAdd, Nat.reduceMul, Nat.reduceSub, Nat.reduceLeDiff, Nat.reduceLT, Nat.reduceBEq, reduceCtorEq, Mv.row]
  rfl
noncomputable def p128 : List AV → Option AV := primOf (α := (Mv)) (fun x => [.agg x.row]) (fun x => True) (fun x => i64 (endI x))
theorem pok128 : ∀ args v, p128 args = some v → ∀ lo H, CallOk NC lo 128 args H v H := by
  intro args v h
  obtain ⟨x, rfl, hp, rfl⟩ := primOf_inv h
  exact c128 x
theorem pe128 (x : Mv) : p128 [.agg x.row] = some (.int .i64 (endI x)) := primOf_enc (α := (Mv)) (enc := fun x => [.agg x.row]) (pre := fun x => True) (spec := fun x => i64 (endI x)) (by intro x y h; (simp only [List.cons.injEq, AV.agg.injEq, AV.str.injEq, AV.int.injEq, AV.ps.injEq, AV.bool.injEq, Net.cells_iff, Ln.row_iff, Pc.row_iff, Mv.row_iff, lns_iff, pcs_iff, mvs_iff, true_and, and_true] at h; first | simpa only [Prod.ext_iff] using h | simpa only [Prod.ext_iff, and_assoc] using h)) x trivial
def atI (x : Mv) (k : Int) : Int := if x.turned then wrapq .i64 (Int.sub (wrapq .i64 (Int.sub (wrapq .i64 (Int.add x.to x.len)) 1)) (wrapq .i64 (Int.sub k x.fr))) else wrapq .i64 (Int.sub (wrapq .i64 (Int.add x.to k)) x.fr)
noncomputable def PPF192 : FuncId → Option (List AV → Option AV) := fun _ => none
theorem primsF192 : PrimsOk NC PPF192 := primsOk_none
theorem c192 (x : Mv) (k : Int) : ∀ lo H, CallOk NC lo 192 [.agg x.row, i64 k] H (i64 (atI x k)) H := by
  refine contract saneNC primsF192 (fn := Tryz.f192) (by kernel_rfl) Tryz.func192 rfl rfl (by rfl) (by first | rfl | (split <;> first | rfl | (split <;> rfl))) ?_
  obtain ⟨a, b, c, d, e, f⟩ := x
  cases f <;> simp only [go_sem, reduceIte, Nat.reduceEqDiff, Nat.reduceAdd, Nat.reduceMul, Nat.reduceSub, Nat.reduceLeDiff, Nat.reduceLT, Nat.reduceBEq, reduceCtorEq, Mv.row] <;> simp [atI]
noncomputable def p192 : List AV → Option AV := primOf (α := (Mv) × (Int)) (fun x => [.agg x.1.row, i64 x.2]) (fun x => True) (fun x => i64 (atI x.1 x.2))
theorem pok192 : ∀ args v, p192 args = some v → ∀ lo H, CallOk NC lo 192 args H v H := by
  intro args v h
  obtain ⟨x, rfl, hp, rfl⟩ := primOf_inv h
  exact c192 x.1 x.2
theorem pe192 (x : Mv) (k : Int) : p192 [.agg x.row, .int .i64 k] = some (.int .i64 (atI x k)) := primOf_enc (α := (Mv) × (Int)) (enc := fun x => [.agg x.1.row, i64 x.2]) (pre := fun x => True) (spec := fun x => i64 (atI x.1 x.2)) (by intro x y h; (simp only [List.cons.injEq, AV.agg.injEq, AV.str.injEq, AV.int.injEq, AV.ps.injEq, AV.bool.injEq, Net.cells_iff, Ln.row_iff, Pc.row_iff, Mv.row_iff, lns_iff, pcs_iff, mvs_iff, true_and, and_true] at h; first | simpa only [Prod.ext_iff] using h | simpa only [Prod.ext_iff, and_assoc] using h)) (x, k) trivial
def overB (a b : Mv) : Bool := beqL a.other b.other && decide (a.to < wrapq .i64 (Int.add b.to b.len)) && decide (b.to < wrapq .i64 (Int.add a.to a.len))
noncomputable def PPF125 : FuncId → Option (List AV → Option AV) := fun _ => none
theorem primsF125 : PrimsOk NC PPF125 := primsOk_none
theorem c125 (x y : Mv) : ∀ lo H, CallOk NC lo 125 [.agg x.row, .agg y.row] H (.bool (overB x y)) H := by
  refine contract saneNC primsF125 (fn := Tryz.f125) (by kernel_rfl) Tryz.func125 rfl rfl (by rfl) (by first | rfl | (split <;> first | rfl | (split <;> rfl))) ?_
  obtain ⟨a, b, c, d, e, f⟩ := x
  obtain ⟨a', b', c', d', e', f'⟩ := y
  simp only [go_sem, reduceIte, Nat.reduceEqDiff, Nat.reduceAdd, Nat.reduceMul, Nat.reduceSub, Nat.reduceLeDiff, Nat.reduceLT, Nat.reduceBEq, reduceCtorEq, Mv.row]
  repeat' (first
    | (refine branch_cases (fun hc => ?_) (fun hc => ?_) <;> (try simp only [decide_eq_true_eq, decide_eq_false_iff_not, Bool.not_eq_true', Bool.not_eq_false', Bool.and_eq_true, Bool.or_eq_false_iff] at hc) <;> (try simp only [go_sem, reduceIte, Nat.reduceEqDiff, Nat.reduceAdd, Nat.reduceMul, Nat.reduceSub, Nat.reduceLeDiff, Nat.reduceLT, Nat.reduceBEq, reduceCtorEq, *]))
    | (refine guardT_cases (fun hc => ?_) (fun hc => ?_) <;> (try simp only [decide_eq_true_eq, decide_eq_false_iff_not, Bool.not_eq_true', Bool.not_eq_false', Bool.and_eq_true, Bool.or_eq_false_iff] at hc) <;> (try simp only [go_sem, reduceIte, Nat.reduceEqDiff, Nat.reduceAdd, Nat.reduceMul, Nat.reduceSub, Nat.reduceLeDiff, Nat.reduceLT, Nat.reduceBEq, reduceCtorEq, *]))
    | (refine guardF_cases (fun hc => ?_) (fun hc => ?_) <;> (try simp only [decide_eq_true_eq, decide_eq_false_iff_not, Bool.not_eq_true', Bool.not_eq_false', Bool.and_eq_true, Bool.or_eq_false_iff] at hc) <;> (try simp only [go_sem, reduceIte, Nat.reduceEqDiff, Nat.reduceAdd, Nat.reduceMul, Nat.reduceSub, Nat.reduceLeDiff, Nat.reduceLT, Nat.reduceBEq, reduceCtorEq, *]))
    | (refine pick_cases (fun hc => ?_) (fun hc => ?_) <;> (try simp only [decide_eq_true_eq, decide_eq_false_iff_not, Bool.not_eq_true', Bool.not_eq_false', Bool.and_eq_true, Bool.or_eq_false_iff] at hc) <;> (try simp only [go_sem, reduceIte, Nat.reduceEqDiff, Nat.reduceAdd, Nat.reduceMul, Nat.reduceSub, Nat.reduceLeDiff, Nat.reduceLT, Nat.reduceBEq, reduceCtorEq, *])))
  all_goals simp only [go_sem, reduceIte, Nat.reduceEqDiff, Nat.reduceAdd, Nat.reduceMul, Nat.reduceSub, Nat.reduceLeDiff, Nat.reduceLT, Nat.reduceBEq, reduceCtorEq, overB, *]
noncomputable def p125 : List AV → Option AV := primOf (α := (Mv) × (Mv)) (fun x => [.agg x.1.row, .agg x.2.row]) (fun x => True) (fun x => .bool (overB x.1 x.2))
theorem pok125 : ∀ args v, p125 args = some v → ∀ lo H, CallOk NC lo 125 args H v H := by
  intro args v h
  obtain ⟨x, rfl, hp, rfl⟩ := primOf_inv h
  exact c125 x.1 x.2
theorem pe125 (x y : Mv) : p125 [.agg x.row, .agg y.row] = some (.bool (overB x y)) := primOf_enc (α := (Mv) × (Mv)) (enc := fun x => [.agg x.1.row, .agg x.2.row]) (pre := fun x => True) (spec := fun x => .bool (overB x.1 x.2)) (by intro x y h; (simp only [List.cons.injEq, AV.agg.injEq, AV.str.injEq, AV.int.injEq, AV.ps.injEq, AV.bool.injEq, Net.cells_iff, Ln.row_iff, Pc.row_iff, Mv.row_iff, lns_iff, pcs_iff, mvs_iff, true_and, and_true] at h; first | simpa only [Prod.ext_iff] using h | simpa only [Prod.ext_iff, and_assoc] using h)) (x, y) trivial
end Go.Sim

/-
The law: what it takes for short.
-/
namespace Go.Sim
open Go Go.Proofs
set_option maxRecDepth 100000
set_option maxHeartbeats 8000000
theorem all_false {α : Type} {f : α → Bool} {l : List α} {k : Nat} {x : α} (h : l[k]? = some x) (hf : f x = false) : l.all f = false := by
  rw [List.all_eq_false]; exact ⟨x, List.mem_of_getElem? h, by simp [hf]⟩
theorem all_true {α : Type} {f : α → Bool} {l : List α} (h : ∀ (j : Nat) x, j < l.length → l[j]? = some x → f x = true) : l.all f = true := by
  rw [List.all_eq_true]
  intro x hx
  obtain ⟨j, hj⟩ := List.mem_iff_getElem?.1 hx
  exact h j x (List.getElem?_eq_some_iff.1 hj).1 hj
end Go.Sim

/-
The law: the network told to the program.
-/
namespace Go.Sim
open Go Go.Proofs
set_option maxRecDepth 100000
set_option maxHeartbeats 16000000
def App (H : Heap) (t : Tok) (rows : List (List AV)) (sz : Nat) (e : TypeId) : Prop := (t = .nil ∧ rows = []) ∨ ∃ j, t = .tok j ∧ rows ≠ [] ∧ j < H.n ∧ H.get j = .row [] sz e
theorem App.push {H : Heap} {t : Tok} {rows : List (List AV)} {sz : Nat} {e : TypeId} (h : App H t rows sz e) (b : ABlk) : App (H.push b) t rows sz e := by
  rcases h with h | ⟨j, h1, h2, h3, h4⟩
  · exact .inl h
  · exact .inr ⟨j, h1, h2, by simp; omega, by rw [Heap.get_push, if_neg (by omega)]; exact h4⟩
theorem App.set {H : Heap} {t : Tok} {rows : List (List AV)} {sz : Nat} {e : TypeId} (h : App H t rows sz e) {i : Nat} (b : ABlk) (hi : H.get i ≠ .row [] sz e) : App (H.set i b) t rows sz e := by
  rcases h with h | ⟨j, h1, h2, h3, h4⟩
  · exact .inl h
  · exact .inr ⟨j, h1, h2, h3, by rw [Heap.get_set, if_neg (fun he => hi (by rw [← he]; exact h4))]; exact h4⟩
theorem App.fresh {H : Heap} {t : Tok} {rows : List (List AV)} {sz : Nat} {e : TypeId} (h : App H t rows sz e) (b c : ABlk) {i : Nat} (hi : i = H.n) : App ((H.push b).set i c) t rows sz e := by
  subst hi
  rcases h with h | ⟨j, h1, h2, h3, h4⟩
  · exact .inl h
  · exact .inr ⟨j, h1, h2, by simp; omega, by rw [Heap.get_set, if_neg (by omega), Heap.get_push, if_neg (by omega)]; exact h4⟩
theorem app_any {H : Heap} {t : Tok} {rows : List (List AV)} {sz : Nat} {e : TypeId} (h : App H t rows sz e) {r : List AV} (h1 : rows.length + 1 ≤ maxRows) (h2 : pureRow r = true) (h3 : 0 < sz) (h4 : rows.all (fun r => r.length = sz) = true) :
    ∃ t' H', appP 0 H sz e (.ps t rows) [r] = some (.ps t' (rows ++ [r.map AV.strip0]), H') ∧ App H' t' (rows ++ [r.map AV.strip0]) sz e ∧ H.n ≤ H'.n ∧ (∀ i c u, i < H.n → H.get i = .cells c u → H'.get i = .cells c u) ∧
      ∀ t2 rows2 sz2 e2, ¬ (sz2 = sz ∧ e2 = e) → App H t2 rows2 sz2 e2 → App H' t2 rows2 sz2 e2 := by
  rcases h with ⟨rfl, rfl⟩ | ⟨j, rfl, h6, h7, h8⟩
  · refine ⟨.tok H.n, H.push (.row [] sz e), app_first (by simp) (by show 1 ≤ 1073741824; decide) (by simp [h2]) h3, .inr ⟨H.n, rfl, by simp, by simp, by rw [Heap.get_push, if_pos rfl]⟩, by simp, fun i c u hi hc => ?_, fun t2 rows2 sz2 e2 _ ha => ha.push _⟩
    rw [Heap.get_push, if_neg (by omega)]; exact hc
  · refine ⟨.tok H.n, (H.set j .dead).push (.row [] sz e), app_next (by simp) (by simpa using h1) (by simp [h2]) h3 h4 h8 (Nat.zero_le _) h6, .inr ⟨H.n, rfl, by simp, by simp, by rw [Heap.get_push, if_pos (by simp)]⟩, by simp, fun i c u hi hc => ?_, fun t2 rows2 sz2 e2 hne ha => ?_⟩
    · rw [Heap.get_push, if_neg (by simp; omega), Heap.get_set, if_neg (fun he => by rw [he, h8] at hc; cases hc)]; exact hc
    · exact (ha.set _ (by rw [h8]; intro he; cases he; exact hne ⟨rfl, rfl⟩)).push _
theorem rows_all {α : Type} {f : α → List AV} {sz : Nat} (hf : ∀ x, (f x).length = sz) (l : List α) : (l.map f).all (fun r => decide (r.length = sz)) = true := by
  rw [List.all_eq_true]
  intro r hr
  obtain ⟨x, _, rfl⟩ := List.mem_map.1 hr
  simp [hf x]
theorem strip_ps (t : Tok) (rows : List (List AV)) : AV.strip0 (.ps t rows) = .ps .unk rows := rfl
attribute [go_sem] strip_ps
theorem take_map {α β : Type} {f : α → β} {l : List α} {k : Nat} {x : α} (h : l[k]? = some x) : (l.take (k + 1)).map f = (l.take k).map f ++ [f x] := by
  rw [List.take_add_one, h]; simp
end Go.Sim

/-
Maps: CheckMap, of the program and of the reference.
-/
namespace Go.Sim
open Go Go.Proofs
set_option maxRecDepth 100000
set_option maxHeartbeats 8000000
/-! ### The program -/
def mvP (x : Mv) : Int :=
  let e := firstI [whenI (!nameB x.line) 8, whenI (!nameB x.other) 8, rangeI x.fr 0 800000, rangeI x.len 1 800000, rangeI x.to 0 800000]
  if e = 0 then whenI (decide (800000 < wrapq .i64 (Int.add (maxI x.fr x.to) x.len))) 4 else e
noncomputable def PPF127 : FuncId → Option (List AV → Option AV) := addPrim 111 p111 (addPrim 115 p115 (addPrim 121 p121 (addPrim 193 p193 (fun _ => none))))
theorem primsF127 : PrimsOk NC PPF127 := primsOk_add (primsOk_add (primsOk_add (primsOk_add (primsOk_none) (by kernel_rfl) (by kernel_rfl) pok193) (by kernel_rfl) (by kernel_rfl) pok121) (by kernel_rfl) (by kernel_rfl) pok115) (by kernel_rfl) (by kernel_rfl) pok111
theorem enF127_193 : En PPF127 193 p193 := enter_prim (by rfl) (by kernel_rfl)
theorem enF127_121 : En PPF127 121 p121 := enter_prim (by rfl) (by kernel_rfl)
theorem enF127_115 : En PPF127 115 p115 := enter_prim (by rfl) (by kernel_rfl)
theorem enF127_111 : En PPF127 111 p111 := enter_prim (by rfl) (by kernel_rfl)
attribute [go_sem ↓] enF127_193 enF127_121 enF127_115 enF127_111
theorem c127 (x : Mv) (hp : x.line.length ≤ maxRows ∧ x.other.length ≤ maxRows) : ∀ lo H, CallOk NC lo 127 [.agg x.row] H (i64 (mvP x)) H := by
  refine contract saneNC primsF127 (fn := Tryz.f127) (by kernel_rfl) Tryz.func127 rfl rfl (by rfl) (by first | rfl | (split <;> first | rfl | (split <;> rfl))) ?_
  have h1 := pe193 x.line hp.1
  have h2 := pe193 x.other hp.2
  obtain ⟨a, b, c, d, e, f⟩ := x
  simp only at h1 h2
  generalize hE : firstI [whenI (!nameB a) 8, whenI (!nameB d) 8, rangeI b 0 800000, rangeI c 1 800000, rangeI e 0 800000] = E
  have hsp : mvP ⟨a, b, c, d, e, f⟩ = if E = 0 then whenI (decide (800000 < wrapq .i64 (Int.add (maxI b e) c))) 4 else E := by unfold mvP; simp only [hE]
  rw [hsp]
  rcases Classical.propComplete (E = 0) with z | z <;> simp only [go_sem, reduceIte, Nat.reduceEqDiff, Nat.reduceAdd, Nat.reduceMul, Nat.reduceSub, Nat.reduceLeDiff, Nat.reduceLT, Nat.reduceBEq, reduceCtorEq, Mv.row, h1, h2, e115, e121, e111_5, hE, z]
noncomputable def p127 : List AV → Option AV := primOf (α := (Mv)) (fun x => [.agg x.row]) (fun x => x.line.length ≤ maxRows ∧ x.other.length ≤ maxRows) (fun x => i64 (mvP x))
theorem pok127 : ∀ args v, p127 args = some v → ∀ lo H, CallOk NC lo 127 args H v H := by
  intro args v h
  obtain ⟨x, rfl, hp, rfl⟩ := primOf_inv h
  exact c127 x hp
theorem pe127 (x : Mv) (hp : x.line.length ≤ maxRows ∧ x.other.length ≤ maxRows) : p127 [.agg x.row] = some (.int .i64 (mvP x)) := primOf_enc (α := (Mv)) (enc := fun x => [.agg x.row]) (pre := fun x => x.line.length ≤ maxRows ∧ x.other.length ≤ maxRows) (spec := fun x => i64 (mvP x)) (by intro x y h; (simp only [List.cons.injEq, AV.agg.injEq, AV.str.injEq, AV.int.injEq, AV.ps.injEq, AV.bool.injEq, Net.cells_iff, Ln.row_iff, Pc.row_iff, Mv.row_iff, lns_iff, pcs_iff, mvs_iff, true_and, and_true] at h; first | simpa only [Prod.ext_iff] using h | simpa only [Prod.ext_iff, and_assoc] using h)) x hp
def meetB (x y : Mv) : Bool := beqL y.other x.other && decide (maxI y.to x.to < minI (wrapq .i64 (Int.add y.to y.len)) (wrapq .i64 (Int.add x.to x.len)))
variable {P : FuncId → Option (List AV → Option AV)}
theorem r129 (lo : Nat) (x y : Mv) (c : Nat) (H : Heap) (hc : c < H.n) (hs : H.get c = .cells x.row 130) : R (NC.withPrims P) (.call lo 129 [.agg y.row, .ptr c 0] H) = some (.ofVal (.bool (meetB x y)) (H.push (.cells y.row 130))) := by
  have hne : (c = H.n) = False := by simp; omega
  obtain ⟨v, H', h1, h2, h3⟩ := R_of_body (C := NC.withPrims P) (f := 129) (lo := lo) (args := [.agg y.row, .ptr c 0]) (H := H) (fn := Tryz.f129) (Q := fun v H' => v = .bool (meetB x y) ∧ H' = H.push (.cells y.row 130)) (by kernel_rfl) Tryz.func129 rfl rfl (by
    obtain ⟨a, b, c, d, e, f⟩ := x
    obtain ⟨a', b', c', d', e', f'⟩ := y
    simp only [Mv.row] at hs
    simp only [go_sem, reduceIte, Nat.reduceEqDiff, Nat.reduceAdd, Nat.reduceMul, Nat.reduceSub, Nat.reduceLeDiff, Nat.reduceLT, Nat.reduceBEq, reduceCtorEq, Mv.row, hs, hne]
    repeat' (first
      | (refine branch_cases (fun hc => ?_) (fun hc => ?_) <;> (try simp only [decide_eq_true_eq, decide_eq_false_iff_not, Bool.not_eq_true', Bool.not_eq_false', Bool.and_eq_true, Bool.or_eq_false_iff] at hc) <;> (try simp only [go_sem, reduceIte, Nat.reduceEqDiff, Nat.reduceAdd, Nat.reduceMul, Nat.reduceSub, Nat.reduceLeDiff, Nat.reduceLT, Nat.reduceBEq, reduceCtorEq, Mv.row, hne, *]))
      | (refine guardT_cases (fun hc => ?_) (fun hc => ?_) <;> (try simp only [decide_eq_true_eq, decide_eq_false_iff_not, Bool.not_eq_true', Bool.not_eq_false', Bool.and_eq_true, Bool.or_eq_false_iff] at hc) <;> (try simp only [go_sem, reduceIte, Nat.reduceEqDiff, Nat.reduceAdd, Nat.reduceMul, Nat.reduceSub, Nat.reduceLeDiff, Nat.reduceLT, Nat.reduceBEq, reduceCtorEq, Mv.row, hne, *]))
      | (refine guardF_cases (fun hc => ?_) (fun hc => ?_) <;> (try simp only [decide_eq_true_eq, decide_eq_false_iff_not, Bool.not_eq_true', Bool.not_eq_false', Bool.and_eq_true, Bool.or_eq_false_iff] at hc) <;> (try simp only [go_sem, reduceIte, Nat.reduceEqDiff, Nat.reduceAdd, Nat.reduceMul, Nat.reduceSub, Nat.reduceLeDiff, Nat.reduceLT, Nat.reduceBEq, reduceCtorEq, Mv.row, hne, *]))
      | (refine pick_cases (fun hc => ?_) (fun hc => ?_) <;> (try simp only [decide_eq_true_eq, decide_eq_false_iff_not, Bool.not_eq_true', Bool.not_eq_false', Bool.and_eq_true, Bool.or_eq_false_iff] at hc) <;> (try simp only [go_sem, reduceIte, Nat.reduceEqDiff, Nat.reduceAdd, Nat.reduceMul, Nat.reduceSub, Nat.reduceLeDiff, Nat.reduceLT, Nat.reduceBEq, reduceCtorEq, Mv.row, hne, *])))
    all_goals simp only [go_sem, reduceIte, Nat.reduceEqDiff, Nat.reduceAdd, Nat.reduceMul, Nat.reduceSub, Nat.reduceLeDiff, Nat.reduceLT, Nat.reduceBEq, reduceCtorEq, meetB, *])
  rw [h1, h2, h3]
theorem en129 {P : FuncId → Option (List AV → Option AV)} (hP : P 129 = none) {lo : Nat} {args : List AV} {H : Heap} {K : AV → Heap → Prop} : VO (aenter (NC.withPrims P) (R (NC.withPrims P)) lo 129 args H) K = AO (R (NC.withPrims P) (.call H.n 129 args H)) fun o => o.val.strip.pure = true ∧ K o.val.strip H := by
  refine enter_pure rfl ?_ (by kernel_rfl) (by kernel_rfl) (by kernel_rfl)
  show (match NC.prim 129 with | some p => some p | none => P 129) = none
  rw [hP]; kernel_rfl
theorem en194 {P : FuncId → Option (List AV → Option AV)} (hP : P 194 = none) {lo : Nat} {args : List AV} {H : Heap} {K : AV → Heap → Prop} : VO (aenter (NC.withPrims P) (R (NC.withPrims P)) lo 194 args H) K = AO (R (NC.withPrims P) (.call H.n 194 args H)) fun o => o.val.strip.pure = true ∧ K o.val.strip H := by
  refine enter_pure rfl ?_ (by kernel_rfl) (by kernel_rfl) (by kernel_rfl)
  show (match NC.prim 194 with | some p => some p | none => P 194) = none
  rw [hP]; kernel_rfl
theorem en130 {P : FuncId → Option (List AV → Option AV)} (hP : P 130 = none) {lo : Nat} {args : List AV} {H : Heap} {K : AV → Heap → Prop} : VO (aenter (NC.withPrims P) (R (NC.withPrims P)) lo 130 args H) K = AO (R (NC.withPrims P) (.call H.n 130 args H)) fun o => o.val.strip.pure = true ∧ K o.val.strip H := by
  refine enter_pure rfl ?_ (by kernel_rfl) (by kernel_rfl) (by kernel_rfl)
  show (match NC.prim 130 with | some p => some p | none => P 130) = none
  rw [hP]; kernel_rfl
def anyI {α : Type} (f : α → Bool) (l : List α) : Int := match l.findIdx? f with
  | some i => (i : Int)
  | none => -1
theorem anyI_at {α : Type} {f : α → Bool} {l : List α} {k : Nat} {x : α} (h0 : ∀ j y, j < k → l[j]? = some y → f y = false) (hk : l[k]? = some x) (hf : f x = true) : anyI f l = k := by
  have hlt := (List.getElem?_eq_some_iff.1 hk)
  have : l.findIdx? f = some k := by
    rw [List.findIdx?_eq_some_iff_getElem]
    refine ⟨hlt.1, by rw [hlt.2]; exact hf, fun j hj => ?_⟩
    have := h0 j (l[j]'(by have := hlt.1; omega)) hj (by simp)
    rw [this]; simp
  unfold anyI; rw [this]
theorem anyI_none {α : Type} {f : α → Bool} {l : List α} (h0 : ∀ j y, j < l.length → l[j]? = some y → f y = false) : anyI f l = -1 := by
  have : l.findIdx? f = none := by
    rw [List.findIdx?_eq_none_iff]
    intro y hy
    obtain ⟨j, hj⟩ := List.mem_iff_getElem?.1 hy
    exact h0 j y (List.getElem?_eq_some_iff.1 hj).1 hj
  unfold anyI; rw [this]
theorem anyI_neg {α : Type} (f : α → Bool) (l : List α) : decide (anyI f l < 0) = !l.any f := by
  unfold anyI
  cases h : l.findIdx? f with
  | none =>
    rw [List.findIdx?_eq_none_iff] at h
    have : l.any f = false := by rw [List.any_eq_false]; intro x hx; simp [h x hx]
    simp [this]
  | some i =>
    rw [List.findIdx?_eq_some_iff_getElem] at h
    obtain ⟨hlt, hf, _⟩ := h
    have : l.any f = true := by rw [List.any_eq_true]; exact ⟨l[i], by simp, hf⟩
    simp [this]
theorem r194 (hP : P 129 = none) (lo : Nat) (x : Mv) (m : List Mv) (c : Nat) (H : Heap) (hl : m.length ≤ maxRows) (hc : c < H.n) (hs : H.get c = .cells x.row 130) :
    ∃ H', R (NC.withPrims P) (.call lo 194 [.ps .unk (m.map Mv.row), .fn 129 [] [.ptr c 0]] H) = some (.ofVal (i64 (anyI (meetB x) m)) H') := by
  obtain ⟨v, H', h1, h2⟩ := R_of_body (C := NC.withPrims P) (f := 194) (lo := lo) (args := [.ps .unk (m.map Mv.row), .fn 129 [] [.ptr c 0]]) (H := H) (fn := Tryz.f194) (Q := fun v H' => v = i64 (anyI (meetB x) m)) (by kernel_rfl) Tryz.func194 rfl rfl (by
    simp only [go_sem, reduceIte, Nat.reduceEqDiff, Nat.reduceAdd, Nat.reduceMul, Nat.reduceSub, Nat.reduceLeDiff, Nat.reduceLT, Nat.reduceBEq, reduceCtorEq]
    refine W_for (fun k T H' M => M = [] ∧ getT T 0 = .ps .unk (m.map Mv.row) ∧ getT T 1 = .fn 129 [] [.ptr c 0] ∧ getT T 7 = i64 (m.length : Nat) ∧ getT T 8 = i64 k ∧ c < H'.n ∧ H'.get c = .cells x.row 130 ∧ ∀ (j : Nat) (y : Mv), j < k → m[j]? = some y → meetB x y = false) m.length ?_ ?_ ?_
    · simp only [go_sem, reduceIte, Nat.reduceEqDiff, Nat.reduceAdd, Nat.reduceMul, Nat.reduceSub, Nat.reduceLeDiff, Nat.reduceLT, Nat.reduceBEq, reduceCtorEq, List.length_map]; exact ⟨hc, hs, fun j l hj => absurd hj (by omega)⟩
    · rintro k T H' M hk ⟨rfl, g0, g1, g7, g8, gc, gs, hf⟩
      obtain ⟨y, hy⟩ : ∃ p, m[k]? = some p := ⟨m[k], by simp⟩
      have hr := map_at (f := Mv.row) hy
      have hw := wrap_succ hk hl
      have hcall := fun lo => r129 (P := P) lo x y c H' gc gs
      simp only [Mv.row] at hr hcall
      cases hb : meetB x y with
      | true =>
        simp only [hb] at hcall
        simp only [go_sem, reduceIte, Nat.reduceEqDiff, Nat.reduceAdd, Nat.reduceMul, Nat.reduceSub, Nat.reduceLeDiff, Nat.reduceLT, Nat.reduceBEq, reduceCtorEq, g0, g1, g7, g8, List.length_map, hk, hr, hw, en129 hP, hcall, ofVal_v, ofVal_H]
        rw [anyI_at hf hy hb]
      | false =>
        simp only [hb] at hcall
        simp only [go_sem, reduceIte, Nat.reduceEqDiff, Nat.reduceAdd, Nat.reduceMul, Nat.reduceSub, Nat.reduceLeDiff, Nat.reduceLT, Nat.reduceBEq, reduceCtorEq, g0, g1, g7, g8, List.length_map, hk, hr, hw, en129 hP, hcall, ofVal_v, ofVal_H]
        refine ⟨gc, gs, fun j l' hj hl' => ?_⟩
        by_cases e : j = k
        · subst e; rw [hy] at hl'; cases hl'; exact hb
        · exact hf j l' (by omega) hl'
    · rintro T H' M ⟨rfl, g0, g1, g7, g8, gc, gs, hf⟩
      simp only [go_sem, reduceIte, Nat.reduceEqDiff, Nat.reduceAdd, Nat.reduceMul, Nat.reduceSub, Nat.reduceLeDiff, Nat.reduceLT, Nat.reduceBEq, reduceCtorEq, g0, g1, g7, g8, List.length_map, Nat.lt_irrefl]
      rw [anyI_none hf])
  exact ⟨H', by rw [h1, h2]⟩
theorem r130 (hP : P 129 = none) (hP2 : P 194 = none) (lo : Nat) (x : Mv) (m : List Mv) (c : Nat) (H : Heap) (hl : m.length ≤ maxRows) (hc : c < H.n) (hs : H.get c = .cells x.row 130) :
    ∃ H', R (NC.withPrims P) (.call lo 130 [.ps .unk (m.map Mv.row), .fn 129 [] [.ptr c 0]] H) = some (.ofVal (.bool (m.any (meetB x))) H') := by
  obtain ⟨H1, hr⟩ := r194 hP H.n x m c H hl hc hs
  obtain ⟨v, H', h1, h2⟩ := R_of_body (C := NC.withPrims P) (f := 130) (lo := lo) (args := [.ps .unk (m.map Mv.row), .fn 129 [] [.ptr c 0]]) (H := H) (fn := Tryz.f130) (Q := fun v H' => v = .bool (m.any (meetB x))) (by kernel_rfl) Tryz.func130 rfl rfl (by
    simp only [go_sem, reduceIte, Nat.reduceEqDiff, Nat.reduceAdd, Nat.reduceMul, Nat.reduceSub, Nat.reduceLeDiff, Nat.reduceLT, Nat.reduceBEq, reduceCtorEq, en194 hP2, hr, ofVal_v, ofVal_H, anyI_neg, Bool.not_not])
  exact ⟨H', by rw [h1, h2]⟩
def orderB (l x : Mv) : Bool := strLt x.line l.line || (beqL x.line l.line && decide (x.fr < endI l))
def moveP (m : List Mv) (i : Nat) : Int := match m[i]? with
  | none => 0
  | some x => if mvP x = 0 then (if (match i with | 0 => false | j + 1 => match m[j]? with | none => false | some l => orderB l x) then 11 else if (m.take i).any (meetB x) then 15 else 0) else mvP x
def mapP (m : List Mv) : Int := if (24 : Int) < m.length then 5 else allR (moveP m) m.length
noncomputable def PPF49 : FuncId → Option (List AV → Option AV) := addPrim 128 p128 (addPrim 127 p127 (fun _ => none))
theorem primsF49 : PrimsOk NC PPF49 := primsOk_add (primsOk_add (primsOk_none) (by kernel_rfl) (by kernel_rfl) pok127) (by kernel_rfl) (by kernel_rfl) pok128
theorem enF49_127 : En PPF49 127 p127 := enter_prim (by rfl) (by kernel_rfl)
theorem enF49_128 : En PPF49 128 p128 := enter_prim (by rfl) (by kernel_rfl)
attribute [go_sem ↓] enF49_127 enF49_128
theorem c49 (m : List Mv) (hp : MapOk m) : ∀ lo H, CallOk NC lo 49 [.ps .unk (m.map Mv.row)] H (i64 (mapP m)) H := by
  refine contract saneNC primsF49 (fn := Tryz.f49) (by kernel_rfl) Tryz.func49 rfl rfl (by rfl) (by first | rfl | (split <;> first | rfl | (split <;> rfl))) ?_
  have hl := hp.few
  rcases Classical.propComplete ((24 : Int) < m.length) with q1 | q1
  · simp only [go_sem, reduceIte, Nat.reduceEqDiff, Nat.reduceAdd, Nat.reduceMul, Nat.reduceSub, Nat.reduceLeDiff, Nat.reduceLT, Nat.reduceBEq, reduceCtorEq, List.length_map, q1]
    simp [mapP, q1]
  simp only [go_sem, reduceIte, Nat.reduceEqDiff, Nat.reduceAdd, Nat.reduceMul, Nat.reduceSub, Nat.reduceLeDiff, Nat.reduceLT, Nat.reduceBEq, reduceCtorEq, List.length_map, q1]
  refine W_for (fun k T H M => M = [] ∧ getT T 0 = .ps .unk (m.map Mv.row) ∧ getT T 11 = .ps .unk (m.map Mv.row) ∧ getT T 12 = i64 (m.length : Nat) ∧ getT T 13 = i64 k ∧ allR (moveP m) m.length = firstI (((List.range m.length).map (moveP m)).drop k)) m.length ?_ ?_ ?_
  · simp only [go_sem, reduceIte, Nat.reduceEqDiff, Nat.reduceAdd, Nat.reduceMul, Nat.reduceSub, Nat.reduceLeDiff, Nat.reduceLT, Nat.reduceBEq, reduceCtorEq, List.length_map]; rfl
  · rintro k T H M hk ⟨rfl, g0, g11, g12, g13, hf⟩
    obtain ⟨x, hx⟩ : ∃ p, m[k]? = some p := ⟨m[k], by simp⟩
    have hr := map_at (f := Mv.row) hx
    have hw := wrap_succ hk hl
    have hfd := allR_step (f := moveP m) hk
    have e127 := pe127 x (hp.word x (List.mem_of_getElem? hx))
    have hms : moveP m k = if mvP x = 0 then (if (match k with | 0 => false | j + 1 => match m[j]? with | none => false | some l => orderB l x) then 11 else if (m.take k).any (meetB x) then 15 else 0) else mvP x := by
      unfold moveP; simp only [hx]
    have htk := fun c => aslice_take (P := NC.P) (t := 83) un_83 sz_130 (rows_all Mv.row_len m) (n := k) (k := c) (by simp; omega)
    have hany : ∀ lo (H' : Heap) c, c < H'.n → H'.get c = .cells x.row 130 → R (NC.withPrims PPF49) (.call lo 130 [.ps .unk ((m.map Mv.row).take k), .fn 129 [] [.ptr c 0]] H') = some (.ofVal (.bool ((m.take k).any (meetB x))) (hEnd (NC.withPrims PPF49) (.call lo 130 [.ps .unk ((m.map Mv.row).take k), .fn 129 [] [.ptr c 0]] H'))) := fun lo H' c h1 h2 => by
      have := ex_eq (r130 (P := PPF49) rfl rfl lo x (m.take k) c H' (by simp; omega) h1 h2)
      rwa [List.map_take] at this
    have hwp : 0 < k → wrapq .i64 (Int.sub (k : Int) 1) = ((k - 1 : Nat) : Int) := fun h => wrap_pred h (Nat.le_of_lt hk) hl
    obtain ⟨l, hl1⟩ : ∃ p, m[k - 1]? = some p := ⟨m[k - 1]'(by omega), by simp⟩
    have hr1 := map_at (f := Mv.row) hl1
    have hk1 : (k - 1 < m.length) = True := by simp; omega
    have hpos : ((0 : Int) < (k : Int)) = (0 < k) := by simp
    have e128 := pe128 l
    have hms' : moveP m k = if mvP x = 0 then (if decide (0 < k) && orderB l x then 11 else if (m.take k).any (meetB x) then 15 else 0) else mvP x := by
      rw [hms]
      cases k with
      | zero => simp
      | succ j => simp at hl1; simp [hl1]
    clear hms
    obtain ⟨a, b, c, d, e, f⟩ := x
    obtain ⟨a', b', c', d', e', f'⟩ := l
    simp only [Mv.row] at hr hr1 e127 hany e128
    simp only [go_sem, reduceIte, Nat.reduceEqDiff, Nat.reduceAdd, Nat.reduceMul, Nat.reduceSub, Nat.reduceLeDiff, Nat.reduceLT, Nat.reduceBEq, reduceCtorEq, g0, g11, g12, g13, List.length_map, hk, hr, hw, e127, hpos]
    repeat' (first
      | (refine branch_cases (fun hc => ?_) (fun hc => ?_) <;> (try simp only [decide_eq_true_eq, decide_eq_false_iff_not, Bool.not_eq_true', Bool.not_eq_false', Bool.and_eq_true, Bool.or_eq_false_iff] at hc) <;> (try simp only [go_sem, reduceIte, Nat.reduceEqDiff, Nat.reduceAdd, Nat.reduceMul, Nat.reduceSub, Nat.reduceLeDiff, Nat.reduceLT, Nat.reduceBEq, reduceCtorEq, en130 (show PPF49 130 = none from rfl), *]))
      | (refine guardT_cases (fun hc => ?_) (fun hc => ?_) <;> (try simp only [decide_eq_true_eq, decide_eq_false_iff_not, Bool.not_eq_true', Bool.not_eq_false', Bool.and_eq_true, Bool.or_eq_false_iff] at hc) <;> (try simp only [go_sem, reduceIte, Nat.reduceEqDiff, Nat.reduceAdd, Nat.reduceMul, Nat.reduceSub, Nat.reduceLeDiff, Nat.reduceLT, Nat.reduceBEq, reduceCtorEq, en130 (show PPF49 130 = none from rfl), *]))
      | (refine guardF_cases (fun hc => ?_) (fun hc => ?_) <;> (try simp only [decide_eq_true_eq, decide_eq_false_iff_not, Bool.not_eq_true', Bool.not_eq_false', Bool.and_eq_true, Bool.or_eq_false_iff] at hc) <;> (try simp only [go_sem, reduceIte, Nat.reduceEqDiff, Nat.reduceAdd, Nat.reduceMul, Nat.reduceSub, Nat.reduceLeDiff, Nat.reduceLT, Nat.reduceBEq, reduceCtorEq, en130 (show PPF49 130 = none from rfl), *]))
      | (refine pick_cases (fun hc => ?_) (fun hc => ?_) <;> (try simp only [decide_eq_true_eq, decide_eq_false_iff_not, Bool.not_eq_true', Bool.not_eq_false', Bool.and_eq_true, Bool.or_eq_false_iff] at hc) <;> (try simp only [go_sem, reduceIte, Nat.reduceEqDiff, Nat.reduceAdd, Nat.reduceMul, Nat.reduceSub, Nat.reduceLeDiff, Nat.reduceLT, Nat.reduceBEq, reduceCtorEq, en130 (show PPF49 130 = none from rfl), *])))
    all_goals simp [mapP, q1, hf, hfd, hms', orderB, *]
  · rintro T H M ⟨rfl, g0, g11, g12, g13, hf⟩
    rw [allR_end] at hf
    simp only [go_sem, reduceIte, Nat.reduceEqDiff, Nat.reduceAdd, Nat.reduceMul, Nat.reduceSub, Nat.reduceLeDiff, Nat.reduceLT, Nat.reduceBEq, reduceCtorEq, g0, g11, g12, g13, List.length_map, Nat.lt_irrefl]
    simp [mapP, q1, hf]
noncomputable def p49 : List AV → Option AV := primOf (α := (List Mv)) (fun x => [.ps .unk (x.map Mv.row)]) (fun x => MapOk x) (fun x => i64 (mapP x))
theorem pok49 : ∀ args v, p49 args = some v → ∀ lo H, CallOk NC lo 49 args H v H := by
  intro args v h
  obtain ⟨x, rfl, hp, rfl⟩ := primOf_inv h
  exact c49 x hp
theorem pe49 (m : List Mv) (hp : MapOk m) : p49 [.ps .unk (m.map Mv.row)] = some (.int .i64 (mapP m)) := primOf_enc (α := (List Mv)) (enc := fun x => [.ps .unk (x.map Mv.row)]) (pre := fun x => MapOk x) (spec := fun x => i64 (mapP x)) (by intro x y h; (simp only [List.cons.injEq, AV.agg.injEq, AV.str.injEq, AV.int.injEq, AV.ps.injEq, AV.bool.injEq, Net.cells_iff, Ln.row_iff, Pc.row_iff, Mv.row_iff, lns_iff, pcs_iff, mvs_iff, true_and, and_true] at h; first | simpa only [Prod.ext_iff] using h | simpa only [Prod.ext_iff, and_assoc] using h)) m hp
end Go.Sim

/-
Slices that are made by append, over blocks that stay.
-/
namespace Go.Sim
open Go Go.Proofs
def AppB (b : Nat) (H : Heap) (t : Tok) (rows : List (List AV)) (sz : Nat) (e : TypeId) : Prop := (t = .nil ∧ rows = []) ∨ ∃ j, t = .tok j ∧ rows ≠ [] ∧ b ≤ j ∧ j < H.n ∧ H.get j = .row [] sz e
def Old (b : Nat) (H H' : Heap) : Prop := b ≤ H'.n ∧ ∀ i, i < b → H'.get i = H.get i
theorem Old.refl (H : Heap) : Old H.n H H := ⟨Nat.le_refl _, fun _ _ => rfl⟩
theorem Old.push {b : Nat} {H H' : Heap} (h : Old b H H') (x : ABlk) : Old b H (H'.push x) := ⟨by simp; have := h.1; omega, fun i hi => by rw [Heap.get_push, if_neg (by have := h.1; omega)]; exact h.2 i hi⟩
theorem Old.set {b : Nat} {H H' : Heap} (h : Old b H H') {j : Nat} (hj : b ≤ j) (x : ABlk) : Old b H (H'.set j x) := ⟨by simpa using h.1, fun i hi => by rw [Heap.get_set, if_neg (by omega)]; exact h.2 i hi⟩
theorem Old.new {b : Nat} {H H' : Heap} (h : Old b H H') (x y : ABlk) : Old b H ((H'.push x).set H'.n y) := (h.push x).set h.1 y
theorem Old.trans {b : Nat} {H H1 H2 : Heap} (h : Old b H H1) (h2 : Old b H1 H2) : Old b H H2 := ⟨h2.1, fun i hi => (h2.2 i hi).trans (h.2 i hi)⟩
theorem AppB.push {b : Nat} {H : Heap} {t : Tok} {rows : List (List AV)} {sz : Nat} {e : TypeId} (h : AppB b H t rows sz e) (x : ABlk) : AppB b (H.push x) t rows sz e := by
  rcases h with h | ⟨j, h1, h2, h3, h4, h5⟩
  · exact .inl h
  · exact .inr ⟨j, h1, h2, h3, by simp; omega, by rw [Heap.get_push, if_neg (by omega)]; exact h5⟩
theorem AppB.set {b : Nat} {H : Heap} {t : Tok} {rows : List (List AV)} {sz : Nat} {e : TypeId} (h : AppB b H t rows sz e) {i : Nat} (x : ABlk) (hi : H.get i ≠ .row [] sz e) : AppB b (H.set i x) t rows sz e := by
  rcases h with h | ⟨j, h1, h2, h3, h4, h5⟩
  · exact .inl h
  · exact .inr ⟨j, h1, h2, h3, h4, by rw [Heap.get_set, if_neg (fun he => hi (by rw [← he]; exact h5))]; exact h5⟩
theorem AppB.new {b : Nat} {H : Heap} {t : Tok} {rows : List (List AV)} {sz : Nat} {e : TypeId} (h : AppB b H t rows sz e) (x y : ABlk) : AppB b ((H.push x).set H.n y) t rows sz e := by
  rcases h with h | ⟨j, h1, h2, h3, h4, h5⟩
  · exact .inl h
  · exact .inr ⟨j, h1, h2, h3, by simp; omega, by rw [Heap.get_set, if_neg (by omega), Heap.get_push, if_neg (by omega)]; exact h5⟩
theorem app_b {b : Nat} {H : Heap} {t : Tok} {rows : List (List AV)} {sz lo : Nat} {e : TypeId} (h : AppB b H t rows sz e) (hb : b ≤ H.n) (hlo : lo ≤ b) {r : List AV} (h1 : rows.length + 1 ≤ maxRows) (h2 : pureRow r = true) (h3 : 0 < sz) (h4 : rows.all (fun r => r.length = sz) = true) :
    ∃ t' H', appP lo H sz e (.ps t rows) [r] = some (.ps t' (rows ++ [r.map AV.strip0]), H') ∧ AppB b H' t' (rows ++ [r.map AV.strip0]) sz e ∧ H.n ≤ H'.n ∧ Old b H H' ∧ (∀ i c u, i < H.n → H.get i = .cells c u → H'.get i = .cells c u) := by
  rcases h with ⟨rfl, rfl⟩ | ⟨j, rfl, h6, hj, h7, h8⟩
  · refine ⟨.tok H.n, H.push (.row [] sz e), app_first (by simp) (by show 1 ≤ 1073741824; decide) (by simp [h2]) h3, .inr ⟨H.n, rfl, by simp, hb, by simp, by rw [Heap.get_push, if_pos rfl]⟩, by simp, ⟨by simp; omega, fun i hi => by rw [Heap.get_push, if_neg (by omega)]⟩, fun i c u hi hc => ?_⟩
    rw [Heap.get_push, if_neg (by omega)]; exact hc
  · refine ⟨.tok H.n, (H.set j .dead).push (.row [] sz e), app_next (by simp) (by simpa using h1) (by simp [h2]) h3 h4 h8 (by omega) h6, .inr ⟨H.n, rfl, by simp, hb, by simp, by rw [Heap.get_push, if_pos (by simp)]⟩, by simp, ⟨by simp; omega, fun i hi => by rw [Heap.get_push, if_neg (by simp; omega), Heap.get_set, if_neg (by omega)]⟩, fun i c u hi hc => ?_⟩
    rw [Heap.get_push, if_neg (by simp; omega), Heap.get_set, if_neg (fun he => by rw [he, h8] at hc; cases hc)]; exact hc
end Go.Sim

/-
Maps: Fits, of the program and of the reference; what a map carries.
-/
namespace Go.Sim
open Go Go.Proofs
set_option maxRecDepth 100000
set_option maxHeartbeats 8000000
variable {P : FuncId → Option (List AV → Option AV)}
def hitMv (s : List Nat) (k : Int) (x : Mv) : Bool := beqL x.line s && !decide (k < x.fr) && decide (k < endI x)
def carP (m : List Mv) (s : List Nat) (k : Int) : List AV := match m.find? (hitMv s k) with
  | none => [noPlace, .bool false]
  | some x => [.agg [.str x.other, i64 (atI x k)], .bool true]
theorem find_at {α : Type} {f : α → Bool} {l : List α} {k : Nat} {x : α} (h0 : ∀ j y, j < k → l[j]? = some y → f y = false) (hk : l[k]? = some x) (hf : f x = true) : l.find? f = some x := by
  have hlt := (List.getElem?_eq_some_iff.1 hk)
  rw [List.find?_eq_some_iff_getElem]
  refine ⟨hf, k, hlt.1, hlt.2, fun j hj => ?_⟩
  have := h0 j (l[j]'(by have := hlt.1; omega)) hj (by simp)
  simp [this]
theorem find_no {α : Type} {f : α → Bool} {l : List α} (h0 : ∀ j y, j < l.length → l[j]? = some y → f y = false) : l.find? f = none := by
  rw [List.find?_eq_none]
  intro y hy
  obtain ⟨j, hj⟩ := List.mem_iff_getElem?.1 hy
  simp [h0 j y (List.getElem?_eq_some_iff.1 hj).1 hj]
end Go.Sim

/-
Maps: the reference's CheckMap, Fits, Carried; the program's Carried; the law's own helpers.
-/
namespace Go.Sim
open Go Go.Proofs
set_option maxRecDepth 100000
set_option maxHeartbeats 8000000
def mvR (m : List Mv) (i : Nat) : Int := match m[i]? with
  | none => 0
  | some x =>
    let e := firstI [whenI (!nameB x.line) 8, whenI (!nameB x.other) 8, rangeI x.fr 0 800000, rangeI x.len 1 800000, rangeI x.to 0 800000]
    if e = 0 then (if decide (800000 < endI x) || decide (800000 < wrapq .i64 (Int.add x.to x.len)) then 4 else
      if (match i with | 0 => false | j + 1 => match m[j]? with | none => false | some l => orderB l x) then 11 else if (m.take i).any (fun y => overB y x) then 15 else 0) else e
def mapR (m : List Mv) : Int := if (24 : Int) < m.length then 5 else allR (mvR m) m.length
theorem e34_5 (a b c d e : Int) : p34 [.ps .unk [[.int .i64 a], [.int .i64 b], [.int .i64 c], [.int .i64 d], [.int .i64 e]]] = some (.int .i64 (firstI [a, b, c, d, e])) := pe34 [a, b, c, d, e] (by show 5 ≤ 1073741824; decide)
theorem any_take {α : Type} {f : α → Bool} {m : List α} {i k : Nat} {y : α} (hk : k < i) (hy : m[k]? = some y) (hb : f y = true) : (m.take i).any f = true := by
  rw [List.any_eq_true]
  exact ⟨y, List.mem_of_getElem? (i := k) (by rw [List.getElem?_take_of_lt hk]; exact hy), hb⟩
theorem any_take_no {α : Type} {f : α → Bool} {m : List α} {i : Nat} (h : ∀ (j : Nat) (x : α), j < i → m[j]? = some x → f x = false) : (m.take i).any f = false := by
  rw [List.any_eq_false]
  intro x hx
  obtain ⟨j, hj⟩ := List.mem_iff_getElem?.1 hx
  rw [List.getElem?_take] at hj
  split at hj
  · rename_i hlt; simp [h j x hlt hj]
  · cases hj
noncomputable def PPF44 : FuncId → Option (List AV → Option AV) := addPrim 125 p125 (addPrim 34 p34 (addPrim 35 p35 (addPrim 36 p36 (fun _ => none))))
theorem primsF44 : PrimsOk NC PPF44 := primsOk_add (primsOk_add (primsOk_add (primsOk_add (primsOk_none) (by kernel_rfl) (by kernel_rfl) pok36) (by kernel_rfl) (by kernel_rfl) pok35) (by kernel_rfl) (by kernel_rfl) pok34) (by kernel_rfl) (by kernel_rfl) pok125
theorem enF44_36 : En PPF44 36 p36 := enter_prim (by rfl) (by kernel_rfl)
theorem enF44_35 : En PPF44 35 p35 := enter_prim (by rfl) (by kernel_rfl)
theorem enF44_34 : En PPF44 34 p34 := enter_prim (by rfl) (by kernel_rfl)
theorem enF44_125 : En PPF44 125 p125 := enter_prim (by rfl) (by kernel_rfl)
attribute [go_sem ↓] enF44_36 enF44_35 enF44_34 enF44_125
theorem c44 (m : List Mv) (hp : m.length ≤ maxRows) : ∀ lo H, CallOk NC lo 44 [.ps .unk (m.map Mv.row)] H (i64 (mapR m)) H := by
  refine contract saneNC primsF44 (fn := Tryz.f44) (by kernel_rfl) Tryz.func44 rfl rfl (by rfl) (by first | rfl | (split <;> first | rfl | (split <;> rfl))) ?_
  have hl := hp
  rcases Classical.propComplete ((24 : Int) < m.length) with q1 | q1
  · simp only [go_sem, reduceIte, Nat.reduceEqDiff, Nat.reduceAdd, Nat.reduceMul, Nat.reduceSub, Nat.reduceLeDiff, Nat.reduceLT, Nat.reduceBEq, reduceCtorEq, q1]
    simp [mapR, q1]
  simp only [go_sem, reduceIte, Nat.reduceEqDiff, Nat.reduceAdd, Nat.reduceMul, Nat.reduceSub, Nat.reduceLeDiff, Nat.reduceLT, Nat.reduceBEq, reduceCtorEq, q1]
  refine W_for (fun k T H M => M = [] ∧ getT T 0 = .ps .unk (m.map Mv.row) ∧ getT T 3 = i64 k ∧ allR (mvR m) m.length = firstI (((List.range m.length).map (mvR m)).drop k)) m.length ?_ ?_ ?_
  · simp only [go_sem, reduceIte, Nat.reduceEqDiff, Nat.reduceAdd, Nat.reduceMul, Nat.reduceSub, Nat.reduceLeDiff, Nat.reduceLT, Nat.reduceBEq, reduceCtorEq]; rfl
  · rintro k T H M hk ⟨rfl, g0, g3, hf⟩
    obtain ⟨x, hx⟩ : ∃ p, m[k]? = some p := ⟨m[k], by simp⟩
    have hr := map_at (f := Mv.row) hx
    have hw := wrap_succ hk hl
    have hfd := allR_step (f := mvR m) hk
    have hwp : 0 < k → wrapq .i64 (Int.sub (k : Int) 1) = ((k - 1 : Nat) : Int) := fun h => wrap_pred h (Nat.le_of_lt hk) hl
    obtain ⟨l, hl1⟩ : ∃ p, m[k - 1]? = some p := ⟨m[k - 1]'(by omega), by simp⟩
    have hr1 := map_at (f := Mv.row) hl1
    have hk1 : (k - 1 < m.length) = True := by simp; omega
    have hpos : ((0 : Int) < (k : Int)) = (0 < k) := by simp
    generalize hE : firstI [whenI (!nameB x.line) 8, whenI (!nameB x.other) 8, rangeI x.fr 0 800000, rangeI x.len 1 800000, rangeI x.to 0 800000] = E
    have hms : mvR m k = if E = 0 then (if decide (800000 < endI x) || decide (800000 < wrapq .i64 (Int.add x.to x.len)) then 4 else
      if decide (0 < k) && orderB l x then 11 else if (m.take k).any (fun y => overB y x) then 15 else 0) else E := by
      unfold mvR
      simp only [hx, hE]
      cases k with
      | zero => simp
      | succ j => simp at hl1; simp [hl1]
    obtain ⟨a, b, c, d, e, f⟩ := x
    obtain ⟨a', b', c', d', e', f'⟩ := l
    have h36a := e36 a
    have h36d := e36 d
    simp only [Mv.row] at hr hr1
    simp only at hE
    rcases Classical.propComplete (E = 0) with z | z
    case inr =>
      simp only [go_sem, reduceIte, Nat.reduceEqDiff, Nat.reduceAdd, Nat.reduceMul, Nat.reduceSub, Nat.reduceLeDiff, Nat.reduceLT, Nat.reduceBEq, reduceCtorEq, g0, g3, List.length_map, hk, hr, hw, e36, e35, e34_5, hE, z]
      simp [mapR, q1, hf, hfd, hms, z]
    rcases Classical.propComplete (800000 < endI ⟨a, b, c, d, e, f⟩) with z1 | z1 <;> rcases Classical.propComplete (800000 < wrapq .i64 (Int.add e c)) with z2 | z2
    case inr.inr =>
      have z1' := z1
      unfold endI at z1'
      simp only at z1'
      generalize hOr : (decide (0 < k) && orderB ⟨a', b', c', d', e', f'⟩ ⟨a, b, c, d, e, f⟩) = O at hms
      have hA : (O = true ∧ (0 < k) = True ∧ (strLt a a' = true ∨ (strLt a a' = false ∧ beqL a a' = true ∧ (b < wrapq .i64 (Int.add b' c')) = True))) ∨
          (O = false ∧ ((0 < k) = False ∨ ((0 < k) = True ∧ strLt a a' = false ∧ (beqL a a' = false ∨ (beqL a a' = true ∧ (b < wrapq .i64 (Int.add b' c')) = False))))) := by
        rw [← hOr]
        unfold orderB endI
        generalize wrapq .i64 (Int.add b' c') = W
        by_cases h1 : 0 < k <;> cases h2 : strLt a a' <;> cases h3 : beqL a a' <;> by_cases h4 : b < W <;> simp [h1, h4] <;> omega
      rcases hA with ⟨hO, h1, h2⟩ | ⟨hO, hB⟩
      · have h4 : mvR m k = 11 := by rw [hms]; unfold endI; simp only [z, z1', z2, hO, if_true, if_false, decide_false, Bool.or_self, Bool.false_eq_true]
        have hwp' := hwp (of_eq_true h1)
        rcases h2 with h2 | ⟨h2, h3, h5⟩
        · simp only [go_sem, reduceIte, Nat.reduceEqDiff, Nat.reduceAdd, Nat.reduceMul, Nat.reduceSub, Nat.reduceLeDiff, Nat.reduceLT, Nat.reduceBEq, reduceCtorEq, g0, g3, List.length_map, hk, hr, hw, e36, e35, e34_5, hE, z, z1', z2, hpos, h1, h2, hwp', hk1, hr1]
          simp [mapR, q1, hf, hfd, h4]
        · simp only [go_sem, reduceIte, Nat.reduceEqDiff, Nat.reduceAdd, Nat.reduceMul, Nat.reduceSub, Nat.reduceLeDiff, Nat.reduceLT, Nat.reduceBEq, reduceCtorEq, g0, g3, List.length_map, hk, hr, hw, e36, e35, e34_5, hE, z, z1', z2, hpos, h1, h2, h3, h5, hwp', hk1, hr1]
          simp [mapR, q1, hf, hfd, h4]
      · have h4 : mvR m k = if (m.take k).any (fun y => overB y ⟨a, b, c, d, e, f⟩) then 15 else 0 := by rw [hms]; unfold endI; simp only [z, z1', z2, hO, if_true, if_false, decide_false, Bool.or_self, Bool.false_eq_true]
        have hwp' : (0 < k) = True → wrapq .i64 (Int.sub (k : Int) 1) = ((k - 1 : Nat) : Int) := fun h => hwp (of_eq_true h)
        rcases hB with h1 | ⟨h1, h2, h3 | ⟨h3, h5⟩⟩
        · clear hwp'
          simp only [go_sem, reduceIte, Nat.reduceEqDiff, Nat.reduceAdd, Nat.reduceMul, Nat.reduceSub, Nat.reduceLeDiff, Nat.reduceLT, Nat.reduceBEq, reduceCtorEq, g0, g3, List.length_map, hk, hr, hw, e36, e35, e34_5, hE, z, z1', z2, hpos, h1]
          refine W_for (fun j T' H' M => M = [] ∧ getT T' 0 = .ps .unk (m.map Mv.row) ∧ getT T' 3 = i64 k ∧ getT T' 4 = .ptr H.n 0 ∧ getT T' 7 = i64 j ∧ H'.get H.n = .cells [.str a, i64 b, i64 c, .str d, i64 e, .bool f] 128 ∧ ∀ i y, i < j → m[i]? = some y → overB y ⟨a, b, c, d, e, f⟩ = false) k ?_ ?_ ?_
          · simp only [go_sem, reduceIte, Nat.reduceEqDiff, Nat.reduceAdd, Nat.reduceMul, Nat.reduceSub, Nat.reduceLeDiff, Nat.reduceLT, Nat.reduceBEq, reduceCtorEq, g0, g3]
            exact fun i y hi => absurd hi (by omega)
          · rintro j T' H' M' hj ⟨rfl, i0, i3, i4, i7, ih, hno⟩
            obtain ⟨y, hy⟩ : ∃ p, m[j]? = some p := ⟨m[j]'(by omega), by simp⟩
            have hry := map_at (f := Mv.row) hy
            have e125 := pe125 y ⟨a, b, c, d, e, f⟩
            have hjw : wrapq .i64 (Int.add (j : Int) 1) = ((j + 1 : Nat) : Int) := wrap_succ (Nat.lt_trans hj hk) hl
            have hjl : (j < m.length) = True := by simp; omega
            cases ho : overB y ⟨a, b, c, d, e, f⟩ with
            | true =>
              rw [ho] at e125
              obtain ⟨y1, y2, y3, y4, y5, y6⟩ := y
              simp only [Mv.row, i64] at hry e125
              simp only [go_sem, reduceIte, Nat.reduceEqDiff, Nat.reduceAdd, Nat.reduceMul, Nat.reduceSub, Nat.reduceLeDiff, Nat.reduceLT, Nat.reduceBEq, reduceCtorEq, i0, i3, i4, i7, ih, hj, hjl, List.length_map, hry, e125]
              have h5' : mvR m k = 15 := by rw [h4, any_take hj hy ho]; rfl
              simp [mapR, q1, hf, hfd, h5']
            | false =>
              rw [ho] at e125
              have hno' : ∀ i z, i < j + 1 → m[i]? = some z → overB z ⟨a, b, c, d, e, f⟩ = false := fun i z hi hz => by
                by_cases e : i = j
                · subst e; rw [hy] at hz; cases hz; exact ho
                · exact hno i z (by omega) hz
              obtain ⟨y1, y2, y3, y4, y5, y6⟩ := y
              simp only [Mv.row, i64] at hry e125
              simp only [go_sem, reduceIte, Nat.reduceEqDiff, Nat.reduceAdd, Nat.reduceMul, Nat.reduceSub, Nat.reduceLeDiff, Nat.reduceLT, Nat.reduceBEq, reduceCtorEq, i0, i3, i4, i7, ih, hj, hjl, List.length_map, hry, e125, hjw]
              exact hno'
          · rintro T' H' M' ⟨rfl, i0, i3, i4, i7, ih, hno⟩
            have h5' : mvR m k = 0 := by rw [h4, any_take_no hno]; rfl
            simp only [go_sem, reduceIte, Nat.reduceEqDiff, Nat.reduceAdd, Nat.reduceMul, Nat.reduceSub, Nat.reduceLeDiff, Nat.reduceLT, Nat.reduceBEq, reduceCtorEq, i0, i3, i4, i7, ih, Nat.lt_irrefl, hw]
            rw [hf, hfd, h5', if_pos rfl]
        · have hwp'' := hwp' h1
          simp only [go_sem, reduceIte, Nat.reduceEqDiff, Nat.reduceAdd, Nat.reduceMul, Nat.reduceSub, Nat.reduceLeDiff, Nat.reduceLT, Nat.reduceBEq, reduceCtorEq, g0, g3, List.length_map, hk, hr, hw, e36, e35, e34_5, hE, z, z1', z2, hpos, h1, h2, h3, hwp'', hk1, hr1]
          refine W_for (fun j T' H' M => M = [] ∧ getT T' 0 = .ps .unk (m.map Mv.row) ∧ getT T' 3 = i64 k ∧ getT T' 4 = .ptr H.n 0 ∧ getT T' 7 = i64 j ∧ H'.get H.n = .cells [.str a, i64 b, i64 c, .str d, i64 e, .bool f] 128 ∧ ∀ i y, i < j → m[i]? = some y → overB y ⟨a, b, c, d, e, f⟩ = false) k ?_ ?_ ?_
          · simp only [go_sem, reduceIte, Nat.reduceEqDiff, Nat.reduceAdd, Nat.reduceMul, Nat.reduceSub, Nat.reduceLeDiff, Nat.reduceLT, Nat.reduceBEq, reduceCtorEq, g0, g3]
            exact fun i y hi => absurd hi (by omega)
          · rintro j T' H' M' hj ⟨rfl, i0, i3, i4, i7, ih, hno⟩
            obtain ⟨y, hy⟩ : ∃ p, m[j]? = some p := ⟨m[j]'(by omega), by simp⟩
            have hry := map_at (f := Mv.row) hy
            have e125 := pe125 y ⟨a, b, c, d, e, f⟩
            have hjw : wrapq .i64 (Int.add (j : Int) 1) = ((j + 1 : Nat) : Int) := wrap_succ (Nat.lt_trans hj hk) hl
            have hjl : (j < m.length) = True := by simp; omega
            cases ho : overB y ⟨a, b, c, d, e, f⟩ with
            | true =>
              rw [ho] at e125
              obtain ⟨y1, y2, y3, y4, y5, y6⟩ := y
              simp only [Mv.row, i64] at hry e125
              simp only [go_sem, reduceIte, Nat.reduceEqDiff, Nat.reduceAdd, Nat.reduceMul, Nat.reduceSub, Nat.reduceLeDiff, Nat.reduceLT, Nat.reduceBEq, reduceCtorEq, i0, i3, i4, i7, ih, hj, hjl, List.length_map, hry, e125]
              have h5' : mvR m k = 15 := by rw [h4, any_take hj hy ho]; rfl
              simp [mapR, q1, hf, hfd, h5']
            | false =>
              rw [ho] at e125
              have hno' : ∀ i z, i < j + 1 → m[i]? = some z → overB z ⟨a, b, c, d, e, f⟩ = false := fun i z hi hz => by
                by_cases e : i = j
                · subst e; rw [hy] at hz; cases hz; exact ho
                · exact hno i z (by omega) hz
              obtain ⟨y1, y2, y3, y4, y5, y6⟩ := y
              simp only [Mv.row, i64] at hry e125
              simp only [go_sem, reduceIte, Nat.reduceEqDiff, Nat.reduceAdd, Nat.reduceMul, Nat.reduceSub, Nat.reduceLeDiff, Nat.reduceLT, Nat.reduceBEq, reduceCtorEq, i0, i3, i4, i7, ih, hj, hjl, List.length_map, hry, e125, hjw]
              exact hno'
          · rintro T' H' M' ⟨rfl, i0, i3, i4, i7, ih, hno⟩
            have h5' : mvR m k = 0 := by rw [h4, any_take_no hno]; rfl
            simp only [go_sem, reduceIte, Nat.reduceEqDiff, Nat.reduceAdd, Nat.reduceMul, Nat.reduceSub, Nat.reduceLeDiff, Nat.reduceLT, Nat.reduceBEq, reduceCtorEq, i0, i3, i4, i7, ih, Nat.lt_irrefl, hw]
            rw [hf, hfd, h5', if_pos rfl]
        · have hwp'' := hwp' h1
          simp only [go_sem, reduceIte, Nat.reduceEqDiff, Nat.reduceAdd, Nat.reduceMul, Nat.reduceSub, Nat.reduceLeDiff, Nat.reduceLT, Nat.reduceBEq, reduceCtorEq, g0, g3, List.length_map, hk, hr, hw, e36, e35, e34_5, hE, z, z1', z2, hpos, h1, h2, h3, h5, hwp'', hk1, hr1]
          refine W_for (fun j T' H' M => M = [] ∧ getT T' 0 = .ps .unk (m.map Mv.row) ∧ getT T' 3 = i64 k ∧ getT T' 4 = .ptr H.n 0 ∧ getT T' 7 = i64 j ∧ H'.get H.n = .cells [.str a, i64 b, i64 c, .str d, i64 e, .bool f] 128 ∧ ∀ i y, i < j → m[i]? = some y → overB y ⟨a, b, c, d, e, f⟩ = false) k ?_ ?_ ?_
          · simp only [go_sem, reduceIte, Nat.reduceEqDiff, Nat.reduceAdd, Nat.reduceMul, Nat.reduceSub, Nat.reduceLeDiff, Nat.reduceLT, Nat.reduceBEq, reduceCtorEq, g0, g3]
            exact fun i y hi => absurd hi (by omega)
          · rintro j T' H' M' hj ⟨rfl, i0, i3, i4, i7, ih, hno⟩
            obtain ⟨y, hy⟩ : ∃ p, m[j]? = some p := ⟨m[j]'(by omega), by simp⟩
            have hry := map_at (f := Mv.row) hy
            have e125 := pe125 y ⟨a, b, c, d, e, f⟩
            have hjw : wrapq .i64 (Int.add (j : Int) 1) = ((j + 1 : Nat) : Int) := wrap_succ (Nat.lt_trans hj hk) hl
            have hjl : (j < m.length) = True := by simp; omega
            cases ho : overB y ⟨a, b, c, d, e, f⟩ with
            | true =>
              rw [ho] at e125
              obtain ⟨y1, y2, y3, y4, y5, y6⟩ := y
              simp only [Mv.row, i64] at hry e125
              simp only [go_sem, reduceIte, Nat.reduceEqDiff, Nat.reduceAdd, Nat.reduceMul, Nat.reduceSub, Nat.reduceLeDiff, Nat.reduceLT, Nat.reduceBEq, reduceCtorEq, i0, i3, i4, i7, ih, hj, hjl, List.length_map, hry, e125]
              have h5' : mvR m k = 15 := by rw [h4, any_take hj hy ho]; rfl
              simp [mapR, q1, hf, hfd, h5']
            | false =>
              rw [ho] at e125
              have hno' : ∀ i z, i < j + 1 → m[i]? = some z → overB z ⟨a, b, c, d, e, f⟩ = false := fun i z hi hz => by
                by_cases e : i = j
                · subst e; rw [hy] at hz; cases hz; exact ho
                · exact hno i z (by omega) hz
              obtain ⟨y1, y2, y3, y4, y5, y6⟩ := y
              simp only [Mv.row, i64] at hry e125
              simp only [go_sem, reduceIte, Nat.reduceEqDiff, Nat.reduceAdd, Nat.reduceMul, Nat.reduceSub, Nat.reduceLeDiff, Nat.reduceLT, Nat.reduceBEq, reduceCtorEq, i0, i3, i4, i7, ih, hj, hjl, List.length_map, hry, e125, hjw]
              exact hno'
          · rintro T' H' M' ⟨rfl, i0, i3, i4, i7, ih, hno⟩
            have h5' : mvR m k = 0 := by rw [h4, any_take_no hno]; rfl
            simp only [go_sem, reduceIte, Nat.reduceEqDiff, Nat.reduceAdd, Nat.reduceMul, Nat.reduceSub, Nat.reduceLeDiff, Nat.reduceLT, Nat.reduceBEq, reduceCtorEq, i0, i3, i4, i7, ih, Nat.lt_irrefl, hw]
            rw [hf, hfd, h5', if_pos rfl]
    all_goals
      unfold endI at z1
      simp only at z1
      simp only [go_sem, reduceIte, Nat.reduceEqDiff, Nat.reduceAdd, Nat.reduceMul, Nat.reduceSub, Nat.reduceLeDiff, Nat.reduceLT, Nat.reduceBEq, reduceCtorEq, g0, g3, List.length_map, hk, hr, hw, e36, e35, e34_5, hE, z, z1, z2]
      have h4 : mvR m k = 4 := by rw [hms]; unfold endI; simp only [z, z1, z2, if_true, decide_true, Bool.true_or, Bool.or_true]
      simp [mapR, q1, hf, hfd, h4]
  · rintro T H M ⟨rfl, g0, g3, hf⟩
    rw [allR_end] at hf
    simp only [go_sem, reduceIte, Nat.reduceEqDiff, Nat.reduceAdd, Nat.reduceMul, Nat.reduceSub, Nat.reduceLeDiff, Nat.reduceLT, Nat.reduceBEq, reduceCtorEq, g0, g3, Nat.lt_irrefl]
    simp [mapR, q1, hf]
noncomputable def p44 : List AV → Option AV := primOf (α := (List Mv)) (fun x => [.ps .unk (x.map Mv.row)]) (fun x => x.length ≤ maxRows) (fun x => i64 (mapR x))
theorem pok44 : ∀ args v, p44 args = some v → ∀ lo H, CallOk NC lo 44 args H v H := by
  intro args v h
  obtain ⟨x, rfl, hp, rfl⟩ := primOf_inv h
  exact c44 x hp
theorem pe44 (m : List Mv) (hp : m.length ≤ maxRows) : p44 [.ps .unk (m.map Mv.row)] = some (.int .i64 (mapR m)) := primOf_enc (α := (List Mv)) (enc := fun x => [.ps .unk (x.map Mv.row)]) (pre := fun x => x.length ≤ maxRows) (spec := fun x => i64 (mapR x)) (by intro x y h; (simp only [List.cons.injEq, AV.agg.injEq, AV.str.injEq, AV.int.injEq, AV.ps.injEq, AV.bool.injEq, Net.cells_iff, Ln.row_iff, Pc.row_iff, Mv.row_iff, lns_iff, pcs_iff, mvs_iff, true_and, and_true] at h; first | simpa only [Prod.ext_iff] using h | simpa only [Prod.ext_iff, and_assoc] using h)) m hp
def kR (x : Mv) (q : Int) : Int := wrapq .i64 (Int.sub q x.fr)
def atR (x : Mv) (k : Int) : Int := if x.turned then wrapq .i64 (Int.sub (wrapq .i64 (Int.sub (wrapq .i64 (Int.add x.to x.len)) 1)) k) else wrapq .i64 (Int.add x.to k)
def hitR (s : List Nat) (q : Int) (x : Mv) : Bool := beqL x.line s && !decide (kR x q < 0) && decide (kR x q < x.len)
def carR (m : List Mv) (s : List Nat) (q : Int) : List AV := match m.find? (hitR s q) with
  | none => [noPlace, .bool false]
  | some x => [.agg [.str x.other, i64 (atR x (kR x q))], .bool true]
theorem carR_pure (m : List Mv) (s : List Nat) (k : Int) : (AV.tup (carR m s k)).pure = true := by
  unfold carR; split <;> rfl
noncomputable def PPF47 : FuncId → Option (List AV → Option AV) := fun _ => none
theorem primsF47 : PrimsOk NC PPF47 := primsOk_none
theorem c47 (m : List Mv) (s : List Nat) (q : Int) (hp : m.length ≤ maxRows) : ∀ lo H, CallOk NC lo 47 [.ps .unk (m.map Mv.row), .agg [.str s, i64 q]] H (.tup (carR m s q)) H := by
  refine contract saneNC primsF47 (fn := Tryz.f47) (by kernel_rfl) Tryz.func47 rfl rfl (by rfl) (carR_pure m s q) ?_
  simp only [go_sem, reduceIte, Nat.reduceEqDiff, Nat.reduceAdd, Nat.reduceMul, Nat.reduceSub, Nat.reduceLeDiff, Nat.reduceLT, Nat.reduceBEq, reduceCtorEq]
  refine W_for (fun k T H M => M = [] ∧ getT T 0 = .ps .unk (m.map Mv.row) ∧ getT T 3 = .ptr 0 0 ∧ getT T 4 = .ptr 1 0 ∧ getT T 6 = i64 k ∧ H.get 0 = .cells [.str s, i64 q] 28 ∧ H.get 1 = .cells [.str [], i64 0] 28 ∧ 1 < H.n ∧ ∀ j x, j < k → m[j]? = some x → hitR s q x = false) m.length ?_ ?_ ?_
  · simp only [go_sem, reduceIte, Nat.reduceEqDiff, Nat.reduceAdd, Nat.reduceMul, Nat.reduceSub, Nat.reduceLeDiff, Nat.reduceLT, Nat.reduceBEq, reduceCtorEq]; exact fun j x hj => absurd hj (by omega)
  · rintro k T H M hk ⟨rfl, g0, g3, g4, g6, h0, h1, hn, hf⟩
    obtain ⟨x, hx⟩ : ∃ p, m[k]? = some p := ⟨m[k], by simp⟩
    have hr := map_at (f := Mv.row) hx
    have hw := wrap_succ hk hp
    have b0 : (0 = H.n) = False := by simp; omega
    have b1 : (1 = H.n) = False := by simp; omega
    have b2 : 1 < H.n + 1 := by omega
    have hnext : hitR s q x = false → ∀ j y, j < k + 1 → m[j]? = some y → hitR s q y = false := fun hh j y hj hy => by
      by_cases e : j = k
      · subst e; rw [hx] at hy; cases hy; exact hh
      · exact hf j y (by omega) hy
    have hhit : hitR s q x = true → carR m s q = [.agg [.str x.other, i64 (atR x (kR x q))], .bool true] := fun hh => by unfold carR; rw [find_at hf hx hh]
    have hh : hitR s q x = (beqL x.line s && !decide (kR x q < 0) && decide (kR x q < x.len)) := rfl
    rw [hh] at hnext hhit
    clear hh
    unfold kR at hnext
    unfold kR atR at hhit
    obtain ⟨a, b, c, d, e, f⟩ := x
    simp only [Mv.row] at hr
    simp only at hnext hhit
    cases h2 : beqL a s <;> rcases Classical.propComplete (wrapq .i64 (Int.sub q b) < 0) with h3 | h3 <;> rcases Classical.propComplete (wrapq .i64 (Int.sub q b) < c) with h4 | h4 <;> cases f <;> simp only [go_sem, reduceIte, Nat.reduceEqDiff, Nat.reduceAdd, Nat.reduceMul, Nat.reduceSub, Nat.reduceLeDiff, Nat.reduceLT, Nat.reduceBEq, reduceCtorEq, g0, g3, g4, g6, h0, h1, b0, b1, hk, hr, hw, h2, h3, h4, List.length_map]
    all_goals first | (rw [hhit (by simp [h2, h3, h4])]; done) | (rw [hhit (by simp [h2, h3, h4])]; rfl) | exact ⟨b2, hnext (by simp [h2, h3, h4])⟩ | exact ⟨h0, h1, b2, hnext (by simp [h2, h3, h4])⟩ | skip
  · rintro T H M ⟨rfl, g0, g3, g4, g6, h0, h1, hn, hf⟩
    simp only [go_sem, reduceIte, Nat.reduceEqDiff, Nat.reduceAdd, Nat.reduceMul, Nat.reduceSub, Nat.reduceLeDiff, Nat.reduceLT, Nat.reduceBEq, reduceCtorEq, g0, g3, g4, g6, h0, h1, Nat.lt_irrefl, List.length_map]
    unfold carR
    rw [find_no hf]
    rfl
noncomputable def p47 : List AV → Option AV := primOf (α := (List Mv) × (List Nat) × (Int)) (fun x => [.ps .unk (x.1.map Mv.row), .agg [.str x.2.1, i64 x.2.2]]) (fun x => x.1.length ≤ maxRows) (fun x => .tup (carR x.1 x.2.1 x.2.2))
theorem pok47 : ∀ args v, p47 args = some v → ∀ lo H, CallOk NC lo 47 args H v H := by
  intro args v h
  obtain ⟨x, rfl, hp, rfl⟩ := primOf_inv h
  exact c47 x.1 x.2.1 x.2.2 hp
theorem pe47 (m : List Mv) (s : List Nat) (q : Int) (hp : m.length ≤ maxRows) : p47 [.ps .unk (m.map Mv.row), .agg [.str s, .int .i64 q]] = some (.tup (carR m s q)) := primOf_enc (α := (List Mv) × (List Nat) × (Int)) (enc := fun x => [.ps .unk (x.1.map Mv.row), .agg [.str x.2.1, i64 x.2.2]]) (pre := fun x => x.1.length ≤ maxRows) (spec := fun x => .tup (carR x.1 x.2.1 x.2.2)) (by intro x y h; (simp only [List.cons.injEq, AV.agg.injEq, AV.str.injEq, AV.int.injEq, AV.ps.injEq, AV.bool.injEq, Net.cells_iff, Ln.row_iff, Pc.row_iff, Mv.row_iff, lns_iff, pcs_iff, mvs_iff, true_and, and_true] at h; first | simpa only [Prod.ext_iff] using h | simpa only [Prod.ext_iff, and_assoc] using h)) (m, s, q) hp
def shortMv (x : Mv) : Bool := shortB x.line && shortB x.other
def shortM (m : List Mv) : Bool := m.all shortMv && !decide ((25 : Int) < m.length)
noncomputable def PPF41 : FuncId → Option (List AV → Option AV) := addPrim 97 p97 (fun _ => none)
theorem primsF41 : PrimsOk NC PPF41 := primsOk_add (primsOk_none) (by kernel_rfl) (by kernel_rfl) pok97
theorem enF41_97 : En PPF41 97 p97 := enter_prim (by rfl) (by kernel_rfl)
attribute [go_sem ↓] enF41_97
theorem c41 (m : List Mv) (hp : m.length ≤ 9223372036854775807) : ∀ lo H, CallOk NC lo 41 [.ps .unk (m.map Mv.row)] H (.bool (shortM m)) H := by
  refine contract saneNC primsF41 (fn := Tryz.f41) (by kernel_rfl) Tryz.func41 rfl rfl (by rfl) (by first | rfl | (split <;> first | rfl | (split <;> rfl))) ?_
  have hl := hp
  simp only [go_sem, reduceIte, Nat.reduceEqDiff, Nat.reduceAdd, Nat.reduceMul, Nat.reduceSub, Nat.reduceLeDiff, Nat.reduceLT, Nat.reduceBEq, reduceCtorEq]
  refine W_for (fun k T H M => M = [] ∧ getT T 0 = .ps .unk (m.map Mv.row) ∧ getT T 3 = i64 k ∧ ∀ (j : Nat) x, j < k → m[j]? = some x → shortMv x = true) m.length ?_ ?_ ?_
  · simp only [go_sem, reduceIte, Nat.reduceEqDiff, Nat.reduceAdd, Nat.reduceMul, Nat.reduceSub, Nat.reduceLeDiff, Nat.reduceLT, Nat.reduceBEq, reduceCtorEq]; exact fun j x hj => absurd hj (by omega)
  · rintro k T H M hk ⟨rfl, g0, g3, hall⟩
    obtain ⟨x, hx⟩ : ∃ p, m[k]? = some p := ⟨m[k], by simp⟩
    have hr := map_at (f := Mv.row) hx
    have hw : wrapq .i64 (Int.add (k : Int) 1) = ((k + 1 : Nat) : Int) := wrap_nat (n := k + 1) (by omega)
    simp only [Mv.row] at hr
    cases d1 : shortB x.line <;> cases d2 : shortB x.other <;> simp only [go_sem, reduceIte, Nat.reduceEqDiff, Nat.reduceAdd, Nat.reduceMul, Nat.reduceSub, Nat.reduceLeDiff, Nat.reduceLT, Nat.reduceBEq, reduceCtorEq, g0, g3, List.length_map, hk, hr, hw, e97, d1, d2]
    case true.true =>
      refine fun j y hj hy => ?_
      by_cases e : j = k
      · subst e; rw [hx] at hy; cases hy; simp [shortMv, d1, d2]
      · exact hall j y (by omega) hy
    all_goals unfold shortM; rw [all_false hx (by simp [shortMv, d1, d2])]; try rfl
  · rintro T H M ⟨rfl, g0, g3, hall⟩
    simp only [go_sem, reduceIte, Nat.reduceEqDiff, Nat.reduceAdd, Nat.reduceMul, Nat.reduceSub, Nat.reduceLeDiff, Nat.reduceLT, Nat.reduceBEq, reduceCtorEq, g0, g3, List.length_map, Nat.lt_irrefl]
    unfold shortM; rw [all_true hall]; rfl
noncomputable def p41 : List AV → Option AV := primOf (α := (List Mv)) (fun x => [.ps .unk (x.map Mv.row)]) (fun x => x.length ≤ 9223372036854775807) (fun x => .bool (shortM x))
theorem pok41 : ∀ args v, p41 args = some v → ∀ lo H, CallOk NC lo 41 args H v H := by
  intro args v h
  obtain ⟨x, rfl, hp, rfl⟩ := primOf_inv h
  exact c41 x hp
theorem pe41 (m : List Mv) (hp : m.length ≤ 9223372036854775807) : p41 [.ps .unk (m.map Mv.row)] = some (.bool (shortM m)) := primOf_enc (α := (List Mv)) (enc := fun x => [.ps .unk (x.map Mv.row)]) (pre := fun x => x.length ≤ 9223372036854775807) (spec := fun x => .bool (shortM x)) (by intro x y h; (simp only [List.cons.injEq, AV.agg.injEq, AV.str.injEq, AV.int.injEq, AV.ps.injEq, AV.bool.injEq, Net.cells_iff, Ln.row_iff, Pc.row_iff, Mv.row_iff, lns_iff, pcs_iff, mvs_iff, true_and, and_true] at h; first | simpa only [Prod.ext_iff] using h | simpa only [Prod.ext_iff, and_assoc] using h)) m hp
noncomputable def PPF43 : FuncId → Option (List AV → Option AV) := fun _ => none
theorem primsF43 : PrimsOk NC PPF43 := primsOk_none
theorem c43 (m : List Mv) (hp : m.length ≤ maxRows) : ∀ lo H, CallOk NC lo 43 [.ps .unk (m.map Mv.row)] H (.ps .unk (m.map Mv.row)) H := by
  refine contract saneNC primsF43 (fn := Tryz.f43) (by kernel_rfl) Tryz.func43 rfl rfl (by rfl) (by first | rfl | (split <;> first | rfl | (split <;> rfl))) ?_
  have hl := hp
  simp only [go_sem, reduceIte, Nat.reduceEqDiff, Nat.reduceAdd, Nat.reduceMul, Nat.reduceSub, Nat.reduceLeDiff, Nat.reduceLT, Nat.reduceBEq, reduceCtorEq]
  refine W_for (fun k T H M => M = [] ∧ getT T 6 = .ps .unk (m.map Mv.row) ∧ getT T 7 = i64 (m.length : Nat) ∧ getT T 8 = i64 k ∧ ∃ t, getT T 3 = .ps t ((m.take k).map Mv.row) ∧ App H t ((m.take k).map Mv.row) 6 130) m.length ?_ ?_ ?_
  · simp only [go_sem, reduceIte, Nat.reduceEqDiff, Nat.reduceAdd, Nat.reduceMul, Nat.reduceSub, Nat.reduceLeDiff, Nat.reduceLT, Nat.reduceBEq, reduceCtorEq, List.length_map]; exact ⟨.nil, by simp, .inl ⟨rfl, rfl⟩⟩
  · rintro k T H M hk ⟨rfl, g6, g7, g8, t, g3, hA⟩
    obtain ⟨x, hx⟩ : ∃ p, m[k]? = some p := ⟨m[k], by simp⟩
    have hr := map_at (f := Mv.row) hx
    have hw := wrap_succ hk hl
    have htk := take_map (f := Mv.row) hx
    obtain ⟨t', H1, ha, hB, hn1, hc1, _⟩ := app_any (H := (H.push (.cells [.str [], .int .i64 0, .int .i64 0, .str [], .int .i64 0, .bool false] 128)).set H.n (.cells x.row 128)) (hA.fresh _ _ rfl) (r := x.row) (by simp; omega) rfl (by decide) (rows_all Mv.row_len _)
    obtain ⟨a, b, c, d, e, f⟩ := x
    simp only [Mv.row] at hr ha
    simp only [go_sem, reduceIte, Nat.reduceEqDiff, Nat.reduceAdd, Nat.reduceMul, Nat.reduceSub, Nat.reduceLeDiff, Nat.reduceLT, Nat.reduceBEq, reduceCtorEq, g6, g7, g8, g3, List.length_map, hk, hr, hw, appO, ha]
    rw [htk]
    exact ⟨t', rfl, hB⟩
  · rintro T H M ⟨rfl, g6, g7, g8, t, g3, hA⟩
    simp only [go_sem, reduceIte, Nat.reduceEqDiff, Nat.reduceAdd, Nat.reduceMul, Nat.reduceSub, Nat.reduceLeDiff, Nat.reduceLT, Nat.reduceBEq, reduceCtorEq, g6, g7, g8, g3, List.take_length, Nat.lt_irrefl]
noncomputable def p43 : List AV → Option AV := primOf (α := (List Mv)) (fun x => [.ps .unk (x.map Mv.row)]) (fun x => x.length ≤ maxRows) (fun x => .ps .unk (x.map Mv.row))
theorem pok43 : ∀ args v, p43 args = some v → ∀ lo H, CallOk NC lo 43 args H v H := by
  intro args v h
  obtain ⟨x, rfl, hp, rfl⟩ := primOf_inv h
  exact c43 x hp
theorem pe43 (m : List Mv) (hp : m.length ≤ maxRows) : p43 [.ps .unk (m.map Mv.row)] = some (.ps .unk (m.map Mv.row)) := primOf_enc (α := (List Mv)) (enc := fun x => [.ps .unk (x.map Mv.row)]) (pre := fun x => x.length ≤ maxRows) (spec := fun x => .ps .unk (x.map Mv.row)) (by intro x y h; (simp only [List.cons.injEq, AV.agg.injEq, AV.str.injEq, AV.int.injEq, AV.ps.injEq, AV.bool.injEq, Net.cells_iff, Ln.row_iff, Pc.row_iff, Mv.row_iff, lns_iff, pcs_iff, mvs_iff, true_and, and_true] at h; first | simpa only [Prod.ext_iff] using h | simpa only [Prod.ext_iff, and_assoc] using h)) m hp
end Go.Sim

/-
The plain law of maps: the program's errors are the reference's; what a valid map carries.
-/
namespace Go.Sim
open Go
theorem firstI_append (a b : List Int) : firstI (a ++ b) = if firstI a = 0 then firstI b else firstI a := by
  induction a with
  | nil => simp [firstI]
  | cons x r ih =>
    rw [List.cons_append, firstI_cons, firstI_cons, ih]
    by_cases h : x = 0
    · simp [h]
    · simp [h]
theorem any_same {α : Type} {f g : α → Bool} : ∀ {l : List α}, (∀ x ∈ l, f x = g x) → l.any f = l.any g
  | [], _ => rfl
  | a :: r, h => by rw [List.any_cons, List.any_cons, h a (by simp), any_same fun x hx => h x (by simp [hx])]
theorem find_same {α : Type} {f g : α → Bool} : ∀ {l : List α}, (∀ x ∈ l, f x = g x) → l.find? f = l.find? g
  | [], _ => rfl
  | a :: r, h => by rw [List.find?_cons, List.find?_cons, h a (by simp), find_same fun x hx => h x (by simp [hx])]
theorem allR_succ (f : Nat → Int) (n : Nat) : allR f (n + 1) = if allR f n = 0 then f n else allR f n := by
  unfold allR
  rw [List.range_succ, List.map_append, firstI_append]
  simp only [List.map_cons, List.map_nil, firstI_cons, firstI_nil]
  split
  · split
    · rename_i h; exact h.symm
    · rfl
  · rfl
theorem allR_same {f g : Nat → Int} : ∀ {n : Nat}, (∀ i, i < n → (∀ j, j < i → f j = 0) → f i = g i) → allR f n = allR g n
  | 0, _ => rfl
  | n + 1, h => by
    rw [allR_succ, allR_succ, ← allR_same (n := n) (fun i hi => h i (by omega))]
    split
    · rename_i hz
      exact h n (by omega) fun j hj => allR_zero hz hj
    · rfl
structure Mv.Good (x : Mv) : Prop where
  line : nameB x.line = true
  other : nameB x.other = true
  fr : 0 ≤ x.fr
  len : 1 ≤ x.len
  to : 0 ≤ x.to
  frl : x.fr + x.len ≤ 800000
  tol : x.to + x.len ≤ 800000
theorem when_name {s : List Nat} (h : whenI (!nameB s) 8 = 0) : nameB s = true := by
  cases hb : nameB s with
  | true => rfl
  | false => rw [hb] at h; simp [whenI] at h
theorem mv_ranges {x : Mv} (h : firstI [whenI (!nameB x.line) 8, whenI (!nameB x.other) 8, rangeI x.fr 0 800000, rangeI x.len 1 800000, rangeI x.to 0 800000] = 0) :
    nameB x.line = true ∧ nameB x.other = true ∧ (0 ≤ x.fr ∧ x.fr ≤ 800000) ∧ (1 ≤ x.len ∧ x.len ≤ 800000) ∧ 0 ≤ x.to ∧ x.to ≤ 800000 := by
  have hm := firstI_zero h
  exact ⟨when_name (hm _ (by simp)), when_name (hm _ (by simp)), rangeI_zero (hm (rangeI x.fr 0 800000) (by simp)), rangeI_zero (hm (rangeI x.len 1 800000) (by simp)), rangeI_zero (hm (rangeI x.to 0 800000) (by simp))⟩
theorem maxI_lt {a b c : Int} : maxI a b < c ↔ a < c ∧ b < c := by unfold maxI; split <;> omega
theorem lt_minI {a b c : Int} : c < minI a b ↔ c < a ∧ c < b := by unfold minI; split <;> omega
theorem maxI_or (a b : Int) : maxI a b = a ∨ maxI a b = b := by unfold maxI; split <;> simp
theorem mvP_good {x : Mv} (h : mvP x = 0) : x.Good := by
  unfold mvP at h
  simp only [] at h
  split at h
  · rename_i he
    obtain ⟨a, b, c, d, e, f⟩ := mv_ranges he
    have hs : Int.add (maxI x.fr x.to) x.len = maxI x.fr x.to + x.len := rfl
    have hb := maxI_or x.fr x.to
    rw [hs, wrap_small (by rcases hb with hb | hb <;> omega) (by rcases hb with hb | hb <;> omega)] at h
    have hn : ¬ (800000 < maxI x.fr x.to + x.len) := by
      intro hc; rw [decide_eq_true hc] at h; simp [whenI] at h
    have hm : x.fr ≤ maxI x.fr x.to ∧ x.to ≤ maxI x.fr x.to := by unfold maxI; split <;> omega
    exact ⟨a, b, c.1, d.1, e, by omega, by omega⟩
  · rename_i he; exact absurd h he
theorem Mv.Good.end_ {x : Mv} (h : x.Good) : endI x = x.fr + x.len := by
  have e : Int.add x.fr x.len = x.fr + x.len := rfl
  have := h.fr; have := h.len; have := h.frl
  unfold endI; rw [e, wrap_small (by omega) (by omega)]
theorem Mv.Good.till {x : Mv} (h : x.Good) : wrapq .i64 (Int.add x.to x.len) = x.to + x.len := by
  have e : Int.add x.to x.len = x.to + x.len := rfl
  have := h.to; have := h.len; have := h.tol
  rw [e, wrap_small (by omega) (by omega)]
theorem meet_same {x y : Mv} (hx : x.Good) (hy : y.Good) : meetB x y = overB y x := by
  unfold meetB overB
  rw [hx.till, hy.till]
  have := hx.len; have := hy.len
  have : (maxI y.to x.to < minI (y.to + y.len) (x.to + x.len)) ↔ (y.to < x.to + x.len ∧ x.to < y.to + y.len) := by
    rw [maxI_lt, lt_minI, lt_minI]
    omega
  rw [Bool.and_assoc]
  congr 1
  rw [Bool.eq_iff_iff]
  simp only [decide_eq_true_eq, Bool.and_eq_true]
  exact this
theorem move_same (m : List Mv) (i : Nat) (hz : ∀ j, j < i → moveP m j = 0) : moveP m i = mvR m i := by
  unfold moveP mvR
  cases hx : m[i]? with
  | none => rfl
  | some x =>
    simp only []
    unfold mvP
    simp only []
    by_cases he : firstI [whenI (!nameB x.line) 8, whenI (!nameB x.other) 8, rangeI x.fr 0 800000, rangeI x.len 1 800000, rangeI x.to 0 800000] = 0
    · simp only [he, if_true]
      obtain ⟨a, b, c, d, e, f⟩ := mv_ranges he
      have hb := maxI_or x.fr x.to
      have hm : x.fr ≤ maxI x.fr x.to ∧ x.to ≤ maxI x.fr x.to := by unfold maxI; split <;> omega
      have hs : Int.add (maxI x.fr x.to) x.len = maxI x.fr x.to + x.len := rfl
      have hs1 : Int.add x.to x.len = x.to + x.len := rfl
      have hs2 : endI x = x.fr + x.len := by
        have e : Int.add x.fr x.len = x.fr + x.len := rfl
        unfold endI; rw [e, wrap_small (by omega) (by omega)]
      rw [hs, hs1, hs2, wrap_small (x := maxI x.fr x.to + x.len) (by rcases hb with hb | hb <;> omega) (by rcases hb with hb | hb <;> omega), wrap_small (x := x.to + x.len) (by omega) (by omega)]
      have hor : (decide (800000 < x.fr + x.len) || decide (800000 < x.to + x.len)) = decide (800000 < maxI x.fr x.to + x.len) := by
        rw [Bool.eq_iff_iff]
        simp only [Bool.or_eq_true, decide_eq_true_eq]
        rcases hb with hb | hb <;> omega
      rw [hor]
      by_cases hl : 800000 < maxI x.fr x.to + x.len
      · simp [hl, whenI]
      · simp only [hl, decide_false, whenI_false, if_true, Bool.false_eq_true, if_false]
        have hxg : x.Good := ⟨a, b, c.1, d.1, e, by omega, by omega⟩
        have hany : (m.take i).any (meetB x) = (m.take i).any (fun y => overB y x) := by
          apply any_same
          intro y hy
          obtain ⟨j, hj⟩ := List.mem_iff_getElem?.1 hy
          rw [List.getElem?_take] at hj
          split at hj
          · rename_i hji
            have hjz := hz j hji
            unfold moveP at hjz
            simp only [hj] at hjz
            split at hjz
            · rename_i hp
              exact meet_same hxg (mvP_good hp)
            · rename_i hp; exact absurd hjz hp
          · cases hj
        rw [hany]
        first | done | rfl
    · simp [he]
theorem map_same (m : List Mv) : mapP m = mapR m := by
  unfold mapP mapR
  rw [allR_same (f := moveP m) (g := mvR m) (n := m.length) fun i _ hz => move_same m i hz]
theorem map_good {m : List Mv} (h : mapR m = 0) {x : Mv} (hx : x ∈ m) : x.Good := by
  rw [← map_same] at h
  unfold mapP at h
  by_cases hl : (24 : Int) < m.length
  · simp [hl] at h
  · simp only [hl, if_false] at h
    obtain ⟨i, hi⟩ := List.mem_iff_getElem?.1 hx
    have hz := allR_zero h (List.getElem?_eq_some_iff.1 hi).1
    unfold moveP at hz
    simp only [hi] at hz
    split at hz
    · rename_i hp; exact mvP_good hp
    · rename_i hp; exact absurd hz hp
/-! ### What is carried -/
theorem hit_same {x : Mv} (hx : x.Good) (s : List Nat) {q : Int} (h0 : 0 ≤ q) (h1 : q ≤ 800000) : hitMv s q x = hitR s q x := by
  have := hx.fr; have := hx.len; have := hx.frl
  have e : Int.sub q x.fr = q - x.fr := rfl
  unfold hitMv hitR kR
  rw [hx.end_, e, wrap_small (by omega) (by omega)]
  rw [Bool.eq_iff_iff]
  simp only [Bool.and_eq_true, Bool.not_eq_true', decide_eq_true_eq, decide_eq_false_iff_not]
  constructor
  · rintro ⟨⟨a, b⟩, c⟩; exact ⟨⟨a, by omega⟩, by omega⟩
  · rintro ⟨⟨a, b⟩, c⟩; exact ⟨⟨a, by omega⟩, by omega⟩
theorem at_same {x : Mv} (hx : x.Good) {q : Int} (h0 : x.fr ≤ q) (h1 : q < x.fr + x.len) : atI x q = atR x (kR x q) := by
  have := hx.fr; have := hx.len; have := hx.frl; have := hx.to; have := hx.tol
  have e : Int.sub q x.fr = q - x.fr := rfl
  have e1 : Int.sub (x.to + x.len) 1 = x.to + x.len - 1 := rfl
  have e2 : Int.sub (x.to + x.len - 1) (q - x.fr) = x.to + x.len - 1 - (q - x.fr) := rfl
  have e3 : Int.add x.to (q - x.fr) = x.to + (q - x.fr) := rfl
  have e4 : Int.add x.to q = x.to + q := rfl
  have e5 : Int.sub (x.to + q) x.fr = x.to + q - x.fr := rfl
  unfold atI atR kR
  rw [hx.till, e1, wrap_small (x := x.to + x.len - 1) (by omega) (by omega), e, wrap_small (x := q - x.fr) (by omega) (by omega), e2, e3, e4, wrap_small (x := x.to + q) (by omega) (by omega), e5]
  have : x.to + (q - x.fr) = x.to + q - x.fr := by omega
  rw [this]
theorem hit_in {x : Mv} (hx : x.Good) {s : List Nat} {q : Int} (h : hitMv s q x = true) : x.line = s ∧ x.fr ≤ q ∧ q < x.fr + x.len := by
  unfold hitMv at h
  rw [hx.end_] at h
  simp only [Bool.and_eq_true, Bool.not_eq_true', decide_eq_true_eq, decide_eq_false_iff_not] at h
  exact ⟨(beqL_iff _ _).1 h.1.1, by omega, h.2⟩
theorem car_same {m : List Mv} (h : mapR m = 0) (s : List Nat) {q : Int} (h0 : 0 ≤ q) (h1 : q ≤ 800000) : carP m s q = carR m s q := by
  unfold carP carR
  rw [← find_same (l := m) (f := hitMv s q) fun x hx => hit_same (map_good h hx) s h0 h1]
  cases hf : m.find? (hitMv s q) with
  | none => rfl
  | some x =>
    have hm := List.mem_of_find?_eq_some hf
    have hh := List.find?_some hf
    have hg := map_good h hm
    obtain ⟨_, a, b⟩ := hit_in hg hh
    simp only [at_same hg a b]
end Go.Sim

/-
The plain law of short forms: pairs of places, their runs, and what the merging of two moves makes.
-/
namespace Go.Sim
open Go
structure Pr where
  a : List Nat
  i : Int
  b : List Nat
  j : Int
def Pr.next (p q : Pr) (s : Int) : Bool := beqL q.a p.a && decide (q.i = p.i + 1) && (beqL q.b p.b && decide (q.j = p.j + s))
def Mv.dst (x : Mv) (k : Int) : Int := if x.turned then x.to + x.len - 1 - k else x.to + k
def Mv.pr (x : Mv) (k : Nat) : Pr := ⟨x.line, x.fr + k, x.other, x.dst k⟩
def Mv.prs (x : Mv) : List Pr := (List.range x.len.toNat).map x.pr
def flat (m : List Mv) : List Pr := m.flatMap Mv.prs
def Mv.sgn (x : Mv) : Int := if x.turned then -1 else 1
theorem flat_nil : flat [] = [] := rfl
theorem flat_cons (x : Mv) (r : List Mv) : flat (x :: r) = x.prs ++ flat r := rfl
theorem flat_append (a b : List Mv) : flat (a ++ b) = flat a ++ flat b := by unfold flat; rw [List.flatMap_append]
/-! ### Runs -/
def runLen (s : Int) : Pr → List Pr → Nat
  | _, [] => 0
  | p, q :: r => if p.next q s then runLen s q r + 1 else 0
def runMv (p : Pr) (s : Int) (n : Nat) : Mv := ⟨p.a, p.i, n, p.b, if s < 0 then p.j - n + 1 else p.j, decide (s < 0)⟩
def signOf (p : Pr) : List Pr → Int
  | [] => 1
  | q :: _ => if p.next q (-1) then -1 else 1
theorem runLen_le (s : Int) : ∀ (p : Pr) (l : List Pr), runLen s p l ≤ l.length
  | _, [] => Nat.le_refl _
  | p, q :: r => by
    unfold runLen
    split
    · have := runLen_le s q r; simp; omega
    · simp
def greedyN : Nat → List Pr → List Mv
  | 0, _ => []
  | _, [] => []
  | n + 1, p :: r => runMv p (signOf p r) (runLen (signOf p r) p r + 1) :: greedyN n (r.drop (runLen (signOf p r) p r))
theorem greedyN_more : ∀ (n m : Nat) (l : List Pr), l.length ≤ n → l.length ≤ m → greedyN n l = greedyN m l
  | 0, 0, _, _, _ => rfl
  | 0, m + 1, l, h, _ => by
    have : l = [] := List.length_eq_zero_iff.1 (by omega)
    subst this; rfl
  | n + 1, 0, l, _, h => by
    have : l = [] := List.length_eq_zero_iff.1 (by omega)
    subst this; rfl
  | n + 1, m + 1, [], _, _ => rfl
  | n + 1, m + 1, p :: r, h1, h2 => by
    simp only [List.length_cons] at h1 h2
    have hd : (r.drop (runLen (signOf p r) p r)).length ≤ r.length := by simp
    simp only [greedyN]
    rw [greedyN_more n m _ (by omega) (by omega)]
def greedy (l : List Pr) : List Mv := greedyN l.length l
theorem greedy_nil : greedy [] = [] := rfl
theorem greedy_cons (p : Pr) (r : List Pr) : greedy (p :: r) = runMv p (signOf p r) (runLen (signOf p r) p r + 1) :: greedy (r.drop (runLen (signOf p r) p r)) := by
  have hd : (r.drop (runLen (signOf p r) p r)).length ≤ r.length := by simp
  unfold greedy
  simp only [List.length_cons, greedyN]
  rw [greedyN_more r.length _ _ hd (Nat.le_refl _)]
def stops (p : Pr) (s : Int) : List Pr → Prop
  | [] => True
  | q :: _ => p.next q s = false
theorem beqL_rfl (a : List Nat) : beqL a a = true := (beqL_iff a a).2 rfl
theorem pr_next (x : Mv) (k : Nat) : (x.pr k).next (x.pr (k + 1)) x.sgn = true := by
  unfold Pr.next Mv.pr Mv.sgn Mv.dst
  simp only [beqL_rfl, Bool.true_and]
  cases x.turned <;> simp <;> omega
theorem runLen_prs (x : Mv) (s : Int) (t : List Pr) : ∀ (d k : Nat), (d = 0 ∨ s = x.sgn) → stops (x.pr (k + d)) s t → runLen s (x.pr k) ((List.range' (k + 1) d).map x.pr ++ t) = d
  | 0, k, _, hs => by
    cases t with
    | nil => rfl
    | cons q r =>
      have : (x.pr k).next q s = false := hs
      simp [runLen, this]
  | d + 1, k, h, hs => by
    obtain rfl : s = x.sgn := by
      rcases h with h | h
      · omega
      · exact h
    have e : k + 1 + d = k + (d + 1) := by omega
    have ih := runLen_prs x x.sgn t d (k + 1) (.inr rfl) (by rw [e]; exact hs)
    rw [List.range'_succ, List.map_cons, List.cons_append, runLen, if_pos (pr_next x k), ih]
theorem prs_cons (x : Mv) {n : Nat} (hn : x.len = ((n + 1 : Nat) : Int)) : x.prs = x.pr 0 :: (List.range' 1 n).map x.pr := by
  unfold Mv.prs
  rw [hn, Int.toNat_natCast, List.range_eq_range', List.range'_succ, List.map_cons]
theorem greedy_run (x : Mv) {n : Nat} (hn : x.len = ((n + 1 : Nat) : Int)) (h0 : n = 0 → x.turned = false) {t : List Pr} (h1 : n = 0 → stops (x.pr 0) 1 t ∧ stops (x.pr 0) (-1) t) (h2 : n ≠ 0 → stops (x.pr n) x.sgn t) :
    greedy (x.prs ++ t) = x :: greedy t := by
  rw [prs_cons x hn, List.cons_append, greedy_cons]
  have hsg : signOf (x.pr 0) ((List.range' 1 n).map x.pr ++ t) = x.sgn := by
    cases n with
    | zero =>
      have ht := h0 rfl
      have hs := (h1 rfl).2
      show signOf (x.pr 0) t = x.sgn
      unfold Mv.sgn
      rw [ht]
      cases t with
      | nil => rfl
      | cons q r =>
        have : (x.pr 0).next q (-1) = false := hs
        simp [signOf, this]
    | succ m =>
      rw [List.range'_succ, List.map_cons, List.cons_append]
      unfold signOf
      have hp := pr_next x 0
      unfold Mv.sgn at hp ⊢
      cases ht : x.turned with
      | true =>
        rw [ht] at hp
        simp only [if_true] at hp ⊢
        rw [if_pos hp]
      | false =>
        have : (x.pr 0).next (x.pr (0 + 1)) (-1) = false := by
          unfold Pr.next Mv.pr Mv.dst
          simp only [ht, Bool.false_eq_true, if_false]
          have : decide (x.to + ((0 + 1 : Nat) : Int) = x.to + ((0 : Nat) : Int) + -1) = false := by
            rw [decide_eq_false_iff_not]; omega
          rw [this]; simp
        simp only [Bool.false_eq_true, if_false]
        rw [if_neg (by rw [this]; simp)]
  have hst : stops (x.pr (0 + n)) x.sgn t := by
    by_cases hz : n = 0
    · subst hz
      have := (h1 rfl).1
      unfold Mv.sgn
      rw [h0 rfl]
      exact this
    · rw [Nat.zero_add]; exact h2 hz
  have hrl := runLen_prs x x.sgn t n 0 (.inr rfl) hst
  rw [hsg, hrl]
  have hdrop : ((List.range' (0 + 1) n).map x.pr ++ t).drop n = t := by
    rw [List.drop_append_of_le_length (by simp)]
    rw [List.drop_of_length_le (by simp)]; rfl
  rw [show (List.range' 1 n) = List.range' (0 + 1) n from rfl, hdrop]
  congr 1
  obtain ⟨l, f, n', o, t', b⟩ := x
  simp only at hn
  subst hn
  unfold runMv Mv.pr Mv.dst Mv.sgn
  cases b with
  | true =>
    simp
    omega
  | false => simp
/-! ### Merging -/
def stpI (x y : Mv) : Int := y.dst 0 - x.dst (x.len - 1)
def joinB (x y : Mv) : Bool := beqL y.line x.line && beqL y.other x.other && decide (y.fr = x.fr + x.len) && (decide (stpI x y = 1) || decide (stpI x y = -1)) && !(decide (1 < x.len) && (x.turned != decide (stpI x y < 0)))
def takenI (x y : Mv) : Int := if decide (1 < y.len) && (y.turned != decide (stpI x y < 0)) then 1 else y.len
def Mv.cut (y : Mv) (k n : Int) : Mv := { y with fr := y.fr + k, len := n, to := minI (y.dst k) (y.dst (k + n - 1)) }
def joinMv (x y : Mv) : Mv := ⟨x.line, x.fr, x.len + takenI x y, x.other, minI x.to (y.cut 0 (takenI x y)).to, decide (stpI x y < 0)⟩
def restMv (x y : Mv) : List Mv := if takenI x y < y.len then [y.cut 1 (y.len - 1)] else []
theorem prs_length (x : Mv) : x.prs.length = x.len.toNat := by simp [Mv.prs]
theorem prs_split (x : Mv) (n m : Nat) (h : x.len = n + m) : x.prs = (List.range n).map x.pr ++ (List.range m).map fun k => x.pr (n + k) := by
  unfold Mv.prs
  have : x.len.toNat = n + m := by omega
  rw [this, List.range_add, List.map_append, List.map_map]; rfl
theorem join_prs {x y : Mv} (h : joinB x y = true) (hx : 1 ≤ x.len) (hy : 1 ≤ y.len) : (joinMv x y).prs ++ flat (restMv x y) = x.prs ++ y.prs := by
  unfold joinB at h
  simp only [Bool.and_eq_true, Bool.or_eq_true, decide_eq_true_eq, Bool.not_eq_true', Bool.and_eq_false_iff, decide_eq_false_iff_not, bne_eq_false_iff_eq] at h
  obtain ⟨⟨⟨⟨h1, h2⟩, h3⟩, h4⟩, h5⟩ := h
  have e1 := (beqL_iff _ _).1 h1
  have e2 := (beqL_iff _ _).1 h2
  obtain ⟨nx, hnx⟩ : ∃ n : Nat, x.len = n := ⟨x.len.toNat, by omega⟩
  obtain ⟨ny, hny⟩ : ∃ n : Nat, y.len = n := ⟨y.len.toNat, by omega⟩
  obtain ⟨nt, hnt, htr⟩ : ∃ n : Nat, takenI x y = n ∧ ((n = 1 ∧ 1 < ny ∧ y.turned ≠ decide (stpI x y < 0)) ∨ (n = ny ∧ (ny = 1 ∨ y.turned = decide (stpI x y < 0)))) := by
    unfold takenI
    by_cases c : (decide (1 < y.len) && (y.turned != decide (stpI x y < 0))) = true
    · rw [if_pos c]
      simp only [Bool.and_eq_true, decide_eq_true_eq, bne_iff_ne] at c
      exact ⟨1, rfl, .inl ⟨rfl, by omega, c.2⟩⟩
    · rw [if_neg c]
      simp only [Bool.and_eq_true, decide_eq_true_eq, bne_iff_ne, not_and, Classical.not_not] at c
      refine ⟨ny, hny, .inr ⟨rfl, ?_⟩⟩
      by_cases q : 1 < y.len
      · exact .inr (c q)
      · exact .inl (by omega)
  have hxd : nx = 1 ∨ x.turned = decide (stpI x y < 0) := by
    rcases h5 with h5 | h5
    · exact .inl (by omega)
    · exact .inr h5
  -- where the merged move carries
  have hS : stpI x y = y.dst 0 - x.dst (x.len - 1) := rfl
  have A : ∀ k : Nat, k < nx → (joinMv x y).pr k = x.pr k := by
    intro k hk
    unfold Mv.pr joinMv Mv.cut
    simp only [hnt]
    congr 1
    unfold Mv.dst at hS ⊢
    unfold minI
    generalize stpI x y = S at *
    cases hxt : x.turned <;> cases hyt : y.turned <;> simp only [hxt, hyt, if_true, if_false, Bool.false_eq_true] at hS hxd htr ⊢ <;> rcases h4 with rfl | rfl <;> simp at hxd htr ⊢ <;> (repeat' split) <;> omega
  have B : ∀ k : Nat, k < nt → (joinMv x y).pr (nx + k) = y.pr k := by
    intro k hk
    unfold Mv.pr joinMv Mv.cut
    simp only [hnt, e1, e2, h3, hnx]
    have e : x.fr + ((nx + k : Nat) : Int) = x.fr + (nx : Int) + (k : Int) := by omega
    rw [e]
    congr 1
    unfold Mv.dst at hS ⊢
    unfold minI
    generalize stpI x y = S at *
    cases hxt : x.turned <;> cases hyt : y.turned <;> simp only [hxt, hyt, if_true, if_false, Bool.false_eq_true] at hS hxd htr ⊢ <;> rcases h4 with rfl | rfl <;> simp at hxd htr ⊢ <;> (repeat' split) <;> omega
  have hl : (joinMv x y).len = ((nx : Nat) : Int) + ((nt : Nat) : Int) := by
    show x.len + takenI x y = _
    rw [hnx, hnt]
  rw [prs_split (joinMv x y) nx nt hl]
  have hA : (List.range nx).map (joinMv x y).pr = x.prs := by
    unfold Mv.prs
    rw [hnx, Int.toNat_natCast]
    exact List.map_congr_left fun k hk => A k (by simpa using hk)
  have hB : ((List.range nt).map fun k => (joinMv x y).pr (nx + k)) = (List.range nt).map y.pr :=
    List.map_congr_left fun k hk => B k (by simpa using hk)
  rw [hA, hB, List.append_assoc]
  congr 1
  rcases htr with ⟨rfl, hlt, hne⟩ | ⟨rfl, _⟩
  · have hr : restMv x y = [y.cut 1 (y.len - 1)] := by unfold restMv; rw [if_pos (by omega)]
    rw [hr, flat_cons, flat_nil, List.append_nil]
    have hc : (y.cut 1 (y.len - 1)).prs = (List.range (ny - 1)).map fun k => y.pr (1 + k) := by
      unfold Mv.prs
      have : (y.cut 1 (y.len - 1)).len.toNat = ny - 1 := by
        show (y.len - 1).toNat = _
        omega
      rw [this]
      refine List.map_congr_left fun k hk => ?_
      have hk : k < ny - 1 := by simpa using hk
      unfold Mv.pr Mv.cut
      simp only []
      have e : y.fr + 1 + (k : Int) = y.fr + ((1 + k : Nat) : Int) := by omega
      rw [e]
      congr 1
      unfold Mv.dst minI
      simp only [hny]
      cases y.turned <;> simp <;> (repeat' split) <;> omega
    rw [hc]
    exact (prs_split y 1 (ny - 1) (by omega)).symm
  · have hr : restMv x y = [] := by unfold restMv; rw [if_neg (by omega)]
    rw [hr, flat_nil, List.append_nil]
    unfold Mv.prs
    rw [hny, Int.toNat_natCast]
theorem no_join {x y : Mv} (h : joinB x y = false) {n : Nat} (hn : x.len = ((n + 1 : Nat) : Int)) (hy : 1 ≤ y.len) (r : List Pr) :
    (n = 0 → stops (x.pr 0) 1 (y.prs ++ r) ∧ stops (x.pr 0) (-1) (y.prs ++ r)) ∧ (n ≠ 0 → stops (x.pr n) x.sgn (y.prs ++ r)) := by
  obtain ⟨ny, hny⟩ : ∃ m : Nat, y.len = ((m + 1 : Nat) : Int) := ⟨(y.len - 1).toNat, by omega⟩
  rw [prs_cons y hny, List.cons_append]
  have hS : stpI x y = y.dst 0 - x.dst (x.len - 1) := rfl
  have hlast : x.dst (x.len - 1) = x.dst n := by rw [hn]; congr 1; omega
  rw [hlast] at hS
  have key : ∀ s : Int, (s = 1 ∨ s = -1) → (n ≠ 0 → s = x.sgn) → (x.pr n).next (y.pr 0) s = false := by
    intro s hs hsg
    cases hnx : (x.pr n).next (y.pr 0) s with
    | false => rfl
    | true =>
      unfold Pr.next Mv.pr at hnx
      simp only [Bool.and_eq_true, decide_eq_true_eq] at hnx
      obtain ⟨⟨a1, a2⟩, a3, a4⟩ := hnx
      have ee : y.dst ((0 : Nat) : Int) = y.dst 0 := rfl
      rw [ee] at a4
      have hst : stpI x y = s := by rw [hS]; omega
      have : joinB x y = true := by
        unfold joinB
        simp only [Bool.and_eq_true, Bool.or_eq_true, decide_eq_true_eq, Bool.not_eq_true', Bool.and_eq_false_iff, decide_eq_false_iff_not, bne_eq_false_iff_eq, hst]
        refine ⟨⟨⟨⟨a1, a3⟩, by rw [hn]; omega⟩, hs⟩, ?_⟩
        by_cases hz : n = 0
        · exact .inl (by omega)
        · right
          have := hsg hz
          unfold Mv.sgn at this
          cases ht : x.turned <;> simp [ht] at this <;> simp [this]
      rw [this] at h; cases h
  refine ⟨?_, ?_⟩
  · rintro rfl
    exact ⟨key 1 (.inl rfl) (fun h => absurd rfl h), key (-1) (.inr rfl) (fun h => absurd rfl h)⟩
  · intro hz
    refine key x.sgn ?_ (fun _ => rfl)
    unfold Mv.sgn
    cases x.turned <;> simp
end Go.Sim
