/-
The parts NetJoin, NetJoin2, NetJoin3 of one proof, joined: each begins with a remark that says what it shows.
-/
import Derived.Test.YtepaopekeidlmaaGreatDoorT15
import Derived.Test.YtepaopekeidlmaaGreatDoorCards
import Derived.Test.YtepaopekeidlmaaGreatDoorTie
import Derived.WalkKit
import Derived.ProofKit
import Derived.Deep.DeepHandedRow
set_option linter.unusedSimpArgs false
set_option linter.unusedVariables false

/-
What the rows of this seat list, as the interpreter is told it; a world for the witnesses; what the statements' arguments are.
-/
namespace Go.Sim
open Go Go.Proofs Go.Proofs.YtepaopekeidlmaaGreatDoor
/-! ### The variables -/
abbrev laid5 : List (String × DataW Unit) := Rows.networkPlacesRow.laid
theorem told (W : World) (hL : laidMetH Tryz.prog laid5 W) : Rel NC (start W) .empty W := by
  have hM : laidMet Tryz.prog laid5 W := by
    rw [MakeChecks.laidMetH_plain _ _ _ (by kernel_rfl)] at hL; exact hL
  refine start_rel (C := NC) fun x cs hx => ?_
  have h : x = 0 ∨ x = 1 ∨ x = 3 := by
    by_cases h0 : x = 0
    · exact .inl h0
    by_cases h1 : x = 1
    · exact .inr (.inl h1)
    by_cases h3 : x = 3
    · exact .inr (.inr h3)
    have e0 : Nat.beq x 0 = false := by rw [← Bool.not_eq_true, Nat.beq_eq]; exact h0
    have e1 : Nat.beq x 1 = false := by rw [← Bool.not_eq_true, Nat.beq_eq]; exact h1
    have e3 : Nat.beq x 3 = false := by rw [← Bool.not_eq_true, Nat.beq_eq]; exact h3
    simp [NC, e0, e1, e3] at hx
  rcases h with rfl | rfl | rfl
  · obtain rfl : [AV.str [117, 112], .str [100, 111, 119, 110]] = cs := Option.some.inj hx
    exact laid_glob hM (.tail _ (.tail _ (.tail _ (.head _)))) (by kernel_rfl) (by kernel_rfl) Tryz.underlying281 (by kernel_rfl) (by kernel_rfl) (by kernel_rfl) (by kernel_rfl)
  · obtain rfl : [AV.str [102, 105, 114, 115, 116], .str [108, 97, 115, 116]] = cs := Option.some.inj hx
    exact laid_glob hM (.tail _ (.tail _ (.tail _ (.tail _ (.head _))))) (by kernel_rfl) (by kernel_rfl) Tryz.underlying281 (by kernel_rfl) (by kernel_rfl) (by kernel_rfl) (by kernel_rfl)
  · obtain rfl : powsAV = cs := Option.some.inj hx
    exact laid_glob hM (.tail _ (.tail _ (.head _))) (by kernel_rfl) (by kernel_rfl) Tryz.underlying399 (by kernel_rfl) (by kernel_rfl) (by kernel_rfl) (by kernel_rfl)
/-! ### The arguments -/
theorem rows_of {α : Type} {enc : α → List AV} {l : List Sh} (h : ∀ r, Sh.hasAll l r → ∃ x, r = enc x) : ∀ (rows : List (List AV)), (∀ r ∈ rows, Sh.hasAll l r) → ∃ xs : List α, rows = xs.map enc
  | [], _ => ⟨[], rfl⟩
  | r :: rest, hr => by
    obtain ⟨x, rfl⟩ := h r (hr r (by simp))
    obtain ⟨xs, rfl⟩ := rows_of h rest (fun r' h' => hr r' (by simp [h']))
    exact ⟨x :: xs, rfl⟩
abbrev shPc : List Sh := [.int .i64, .int .i64, .bool]
abbrev shLn : List Sh := [.str, .slc shPc]
abbrev shSw : List Sh := [.str, .str, .int .i64, .str, .bool]
abbrev shStc : List Sh := [.str, .str, .str, .int .i64, .int .i64]
abbrev shNet : List Sh := [.slc shLn, .slc shSw, .slc shStc]
theorem is_pc (r : List AV) (h : Sh.hasAll shPc r) : ∃ x : Pc, r = x.row := by
  simp only [Sh.hasAll, Sh.has] at h
  obtain ⟨_, _, rfl, ⟨a, rfl⟩, _, _, rfl, ⟨b, rfl⟩, _, _, rfl, ⟨c, rfl⟩, rfl⟩ := h
  exact ⟨⟨a, b, c⟩, rfl⟩
theorem is_ln (r : List AV) (h : Sh.hasAll shLn r) : ∃ x : Ln, r = x.row := by
  unfold shLn at h
  simp only [Sh.hasAll, Sh.has] at h
  obtain ⟨_, _, rfl, ⟨a, rfl⟩, _, _, rfl, ⟨b, rfl, _, hb⟩, rfl⟩ := h
  obtain ⟨ps, rfl⟩ := rows_of is_pc b (fun r hr => by simpa only [Sh.hasAll, Sh.has] using hb r hr)
  exact ⟨⟨a, ps⟩, rfl⟩
theorem is_sw (r : List AV) (h : Sh.hasAll shSw r) : ∃ x : Sw, r = x.row := by
  simp only [Sh.hasAll, Sh.has] at h
  obtain ⟨_, _, rfl, ⟨a, rfl⟩, _, _, rfl, ⟨b, rfl⟩, _, _, rfl, ⟨c, rfl⟩, _, _, rfl, ⟨d, rfl⟩, _, _, rfl, ⟨e, rfl⟩, rfl⟩ := h
  exact ⟨⟨a, b, c, d, e⟩, rfl⟩
theorem is_stc (r : List AV) (h : Sh.hasAll shStc r) : ∃ x : Stc, r = x.row := by
  simp only [Sh.hasAll, Sh.has] at h
  obtain ⟨_, _, rfl, ⟨a, rfl⟩, _, _, rfl, ⟨b, rfl⟩, _, _, rfl, ⟨c, rfl⟩, _, _, rfl, ⟨d, rfl⟩, _, _, rfl, ⟨e, rfl⟩, rfl⟩ := h
  exact ⟨⟨a, b, c, d, e⟩, rfl⟩
theorem is_net (r : List AV) (h : Sh.hasAll shNet r) : ∃ x : Net, r = x.cells := by
  unfold shNet at h
  rw [Sh.hasAll] at h
  obtain ⟨_, _, rfl, h1, h⟩ := h
  rw [Sh.hasAll] at h
  obtain ⟨_, _, rfl, h2, h⟩ := h
  rw [Sh.hasAll] at h
  obtain ⟨_, _, rfl, h3, h⟩ := h
  rw [Sh.hasAll] at h
  subst h
  rw [Sh.has] at h1 h2 h3
  obtain ⟨a, rfl, _, ha⟩ := h1
  obtain ⟨b, rfl, _, hb⟩ := h2
  obtain ⟨c, rfl, _, hc⟩ := h3
  obtain ⟨ls, rfl⟩ := rows_of is_ln a ha
  obtain ⟨ws, rfl⟩ := rows_of is_sw b hb
  obtain ⟨ss, rfl⟩ := rows_of is_stc c hc
  exact ⟨⟨ls, ws, ss⟩, rfl⟩
theorem laidOut : laidOutB Tryz.prog = true := by kernel_rfl
section
variable {H : Type} {enc : TypeId × Value → H} {W : World} {base : Nat} {v : Value} {d : DataW H} {p : List MemPlace}
end
abbrev shMv : List Sh := [.str, .int .i64, .int .i64, .str, .int .i64, .bool]
theorem is_mv (r : List AV) (h : Sh.hasAll shMv r) : ∃ x : Mv, r = x.row := by
  simp only [Sh.hasAll, Sh.has] at h
  obtain ⟨_, _, rfl, ⟨a, rfl⟩, _, _, rfl, ⟨b, rfl⟩, _, _, rfl, ⟨c, rfl⟩, _, _, rfl, ⟨d, rfl⟩, _, _, rfl, ⟨e, rfl⟩, _, _, rfl, ⟨f, rfl⟩, rfl⟩ := h
  exact ⟨⟨a, b, c, d, e, f⟩, rfl⟩
theorem hasAll_split {l m : List Sh} : ∀ {r : List AV}, Sh.hasAll (l ++ m) r → ∃ a b, r = a ++ b ∧ Sh.hasAll l a ∧ Sh.hasAll m b := by
  induction l with
  | nil => intro r h; exact ⟨[], r, rfl, rfl, h⟩
  | cons s l ih =>
    intro r h
    rw [List.cons_append, Sh.hasAll] at h
    obtain ⟨a, r', rfl, h1, h2⟩ := h
    obtain ⟨x, y, rfl, hx, hy⟩ := ih h2
    refine ⟨a :: x, y, rfl, ?_, hy⟩
    rw [Sh.hasAll]
    exact ⟨a, x, rfl, h1, hx⟩
section
variable {H : Type} {enc : TypeId × Value → H} {W : World} {base : Nat} {v : Value} {d : DataW H} {p : List MemPlace}
end
/-! ### A world -/
def litVal : DataW Unit → Value
  | .lit (.int k n) => .int k n
  | .lit (.string s) => .string ⟨s.toArray⟩
  | .lit (.bool b) => .bool b
  | _ => undef
def litVals : DataW Unit → Array Value
  | .agg ds => (ds.map litVal).toArray
  | _ => #[]
def layAt (x : Nat) (d : DataW Unit) (h : Array Obj) : Array Obj := h.modify x fun
  | .cells _ t frozen => .cells (litVals d) t frozen
  | o => o
noncomputable def laidWorld (os : Os) : World :=
  { World.holding Tryz.prog os ⟨#[], #[], []⟩ with
    heap := layAt 0 Rows.laid_versine_network_ways (layAt 1 Rows.laid_versine_network_sides (layAt 3 Rows.laid_internal_strconv_uint64pow10 (layAt 6 Rows.laid_math_bits_deBruijn32tab (layAt 7 Rows.laid_math_bits_deBruijn64tab (World.holding Tryz.prog os ⟨#[], #[], []⟩).heap)))) }
theorem own : ownKnob Tryz.prog.godebug = none := by kernel_rfl
end Go.Sim

/-
What histories and days among the arguments are.
-/
namespace Go.Sim
open Go Go.Proofs Go.Proofs.YtepaopekeidlmaaGreatDoor
theorem rows_of' {α : Type} {enc : α → List AV} {Q : α → Prop} {l : List Sh} (h : ∀ r, Sh.hasAll l r → ∃ x, r = enc x ∧ Q x) : ∀ (rows : List (List AV)), (∀ r ∈ rows, Sh.hasAll l r) → ∃ xs : List α, rows = xs.map enc ∧ ∀ x ∈ xs, Q x
  | [], _ => ⟨[], rfl, by simp⟩
  | r :: rest, hr => by
    obtain ⟨x, rfl, hq⟩ := h r (hr r (by simp))
    obtain ⟨xs, rfl, hqs⟩ := rows_of' h rest (fun r' h' => hr r' (by simp [h']))
    exact ⟨x :: xs, rfl, fun y hy => (List.mem_cons.1 hy).elim (fun e => e ▸ hq) (hqs y)⟩
abbrev shSv : List Sh := .int .i64 :: (shNet ++ [.slc shMv])
theorem is_sv (r : List AV) (h : Sh.hasAll shSv r) : ∃ x : Sv, r = x.row ∧ x.map.length ≤ 9223372036854775807 := by
  unfold shSv at h
  rw [Sh.hasAll] at h
  obtain ⟨_, r', rfl, h1, h⟩ := h
  rw [Sh.has] at h1
  obtain ⟨d, rfl⟩ := h1
  obtain ⟨a, b, rfl, ha, hb⟩ := hasAll_split h
  obtain ⟨n, rfl⟩ := is_net a ha
  rw [Sh.hasAll] at hb
  obtain ⟨_, _, rfl, h2, h3⟩ := hb
  rw [Sh.hasAll] at h3
  subst h3
  rw [Sh.has] at h2
  obtain ⟨rows, rfl, hl, hr⟩ := h2
  obtain ⟨m, rfl⟩ := rows_of is_mv rows hr
  exact ⟨⟨d, n, m⟩, rfl, by simpa using hl⟩
theorem sh113 : shapesOf Tryz.prog 8 113 = some [.slc shSv] := by kernel_rfl
theorem ga113 : aggOf Tryz.prog 113 = some false := by kernel_rfl
section
variable {H : Type} {enc : TypeId × Value → H} {W : World} {base : Nat} {v : Value} {d : DataW H} {p : List MemPlace}
set_option maxRecDepth 100000 in
theorem arg_hist (hok : Value.okWide Tryz.prog W .any base 113 v) (h : DataW.Trod enc Tryz.prog W 0 (fun _ => true) true 113 v d p) : ∃ h : List Sv, HistLim h ∧ VRel (start W) 0 (.ps .unk (h.map Sv.row)) v := by
  obtain ⟨a, h1, h2⟩ := opened_one (H := H) (enc := enc) (base := 0) (held := true) (P := Tryz.prog) (w := W) (r := .any) (b0 := base) (v := v) (d := d) (p := p) sh113 ga113 hok h
  rw [Sh.has] at h1
  obtain ⟨rows, rfl, hl, hr⟩ := h1
  obtain ⟨m, rfl, hq⟩ := rows_of' is_sv rows hr
  exact ⟨m, ⟨by simpa using hl, hq⟩, h2⟩
end
end Go.Sim

/-
What small numbers, strings and integers among the arguments are.
-/
namespace Go.Sim
open Go Go.Proofs Go.Proofs.YtepaopekeidlmaaGreatDoor
theorem ok_ints {P : Program} {w : World} {r : Reach} {b0 : Nat} {t : TypeId} {v : Value} {k : IntKind} {cs : Array Value} {ts : List TypeId} (hok : Value.okWide P w r b0 t v) (ha : aggOf P t = some true) (hts : P.cellTypes P.depth t = some ts) (hall : ∀ u ∈ ts, P.underlying u = some (.int k)) (hv : v = .agg cs) {i : Nat} {k' : IntKind} {n : Int} (hi : cs[i]? = some (.int k' n)) : k.has n := by
  have key : ∃ cs, v = .agg cs ∧ cs.size = P.cellsOf t ∧ Row.okWide P w r b0 t cs := by
    unfold Value.okWide at hok
    unfold aggOf at ha
    cases hd : P.underlying t with
    | none => rw [hd] at ha; cases ha
    | some d => rw [hd] at ha hok; cases d <;> simp at ha <;> exact hok
  obtain ⟨cs', rfl, hs, ts', h1, h2, h3⟩ := key
  rw [hts] at h1
  cases h1
  cases hv
  obtain ⟨u, hu, hc⟩ := h3 i _ hi
  have hmem := List.mem_of_getElem? hu
  unfold Cell.okWide Cell.ok at hc
  rw [hall u hmem] at hc
  simp at hc
  exact hc.2
theorem sh131 : shapesOf Tryz.prog 8 131 = some [.int .u8, .int .u8, .int .u8] := by kernel_rfl
theorem sh132 : shapesOf Tryz.prog 8 132 = some [.int .u8, .int .u8] := by kernel_rfl
theorem ga131 : aggOf Tryz.prog 131 = some true := by kernel_rfl
theorem ga132 : aggOf Tryz.prog 132 = some true := by kernel_rfl
theorem ct131 : Tryz.prog.cellTypes Tryz.prog.depth 131 = some [5, 5, 5] := by kernel_rfl
theorem ct132 : Tryz.prog.cellTypes Tryz.prog.depth 132 = some [5, 5] := by kernel_rfl
theorem u8_5 : Tryz.prog.underlying 5 = some (.int .u8) := by kernel_rfl
theorem u8_range {n : Int} (h : IntKind.u8.has n) : 0 ≤ n ∧ n ≤ 255 := h
section
variable {H : Type} {enc : TypeId × Value → H} {W : World} {base : Nat} {v : Value} {d : DataW H} {p : List MemPlace}
theorem agg_int {g : Gh} {n : Nat} {avs : List AV} {v : Value} (h : VRel g n (.agg avs) v) {i : Nat} {k : IntKind} {m : Int} (hi : avs[i]? = some (.int k m)) : ∃ cs : Array Value, v = .agg cs ∧ cs[i]? = some (.int k m) := by
  cases h with
  | agg hl hv =>
    rename_i vs
    refine ⟨vs.toArray, rfl, ?_⟩
    have hlt := (List.getElem?_eq_some_iff.1 hi).1
    have hx : vs[i]? = some (vs[i]'(by omega)) := List.getElem?_eq_getElem _
    have hr := hv i _ _ hi hx
    generalize vs[i]'(by omega) = y at hx hr
    cases hr
    simpa using hx
set_option maxRecDepth 100000 in
theorem arg_three (hok : Value.okWide Tryz.prog W .any base 131 v) (h : DataW.Trod enc Tryz.prog W 0 (fun _ => true) true 131 v d p) : ∃ a b c : Int, (0 ≤ a ∧ a ≤ 255) ∧ (0 ≤ b ∧ b ≤ 255) ∧ (0 ≤ c ∧ c ≤ 255) ∧ VRel (start W) 0 (.agg [.int .u8 a, .int .u8 b, .int .u8 c]) v := by
  obtain ⟨avs, h1, h2⟩ := opened_struct (H := H) (enc := enc) (base := 0) (held := true) (P := Tryz.prog) (w := W) (r := .any) (b0 := base) (v := v) (d := d) (p := p) sh131 ga131 hok h
  simp only [Sh.hasAll, Sh.has] at h1
  obtain ⟨_, _, rfl, ⟨a, rfl⟩, _, _, rfl, ⟨b, rfl⟩, _, _, rfl, ⟨c, rfl⟩, rfl⟩ := h1
  have hall : ∀ u ∈ ([5, 5, 5] : List TypeId), Tryz.prog.underlying u = some (.int .u8) := fun u hu => by
    have : u = 5 := by simpa using hu
    subst this; exact u8_5
  obtain ⟨x0, y0, z0⟩ := agg_int h2 (i := 0) rfl
  obtain ⟨x1, y1, z1⟩ := agg_int h2 (i := 1) rfl
  obtain ⟨x2, y2, z2⟩ := agg_int h2 (i := 2) rfl
  exact ⟨a, b, c, u8_range (ok_ints hok ga131 ct131 hall y0 z0), u8_range (ok_ints hok ga131 ct131 hall y1 z1), u8_range (ok_ints hok ga131 ct131 hall y2 z2), h2⟩
set_option maxRecDepth 100000 in
theorem arg_two (hok : Value.okWide Tryz.prog W .any base 132 v) (h : DataW.Trod enc Tryz.prog W 0 (fun _ => true) true 132 v d p) : ∃ a b : Int, (0 ≤ a ∧ a ≤ 255) ∧ (0 ≤ b ∧ b ≤ 255) ∧ VRel (start W) 0 (.agg [.int .u8 a, .int .u8 b]) v := by
  obtain ⟨avs, h1, h2⟩ := opened_struct (H := H) (enc := enc) (base := 0) (held := true) (P := Tryz.prog) (w := W) (r := .any) (b0 := base) (v := v) (d := d) (p := p) sh132 ga132 hok h
  simp only [Sh.hasAll, Sh.has] at h1
  obtain ⟨_, _, rfl, ⟨a, rfl⟩, _, _, rfl, ⟨b, rfl⟩, rfl⟩ := h1
  have hall : ∀ u ∈ ([5, 5] : List TypeId), Tryz.prog.underlying u = some (.int .u8) := fun u hu => by
    have : u = 5 := by simpa using hu
    subst this; exact u8_5
  obtain ⟨x0, y0, z0⟩ := agg_int h2 (i := 0) rfl
  obtain ⟨x1, y1, z1⟩ := agg_int h2 (i := 1) rfl
  exact ⟨a, b, u8_range (ok_ints hok ga132 ct132 hall y0 z0), u8_range (ok_ints hok ga132 ct132 hall y1 z1), h2⟩
end
end Go.Sim
