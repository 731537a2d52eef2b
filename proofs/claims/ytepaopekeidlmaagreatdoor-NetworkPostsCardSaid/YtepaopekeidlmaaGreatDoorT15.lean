/-
The parts NetM5, NetAwake, NetZ1, NetM6, NetN1, NetD1, NetD2, NetD4, NetN2, NetW1, NetFacts2, NetI0, NetI1, NetW2, NetW3, NetW4, NetW5, NetW6, NetW7 of one proof, joined: each begins with a remark that says what it shows.
-/
import Derived.Test.YtepaopekeidlmaaGreatDoorT14
import GoSem.Step
set_option linter.unusedSimpArgs false
set_option linter.unusedVariables false

/-
The plain law of maps: the program's errors are the reference's; what a valid map carries.
-/
namespace Go.Sim
open Go
theorem firstI_append (a b : List Int) : firstI (a ++ b) = if firstI a = 0 then firstI b else firstI a := by
  induction a with
  | nil => simp [firstI]
  | cons x r ih =>
    rw [List.cons_append, firstI_cons, firstI_cons, ih]
    by_cases h : x = 0
    · simp [h]
    · simp [h]
theorem any_same {α : Type} {f g : α → Bool} : ∀ {l : List α}, (∀ x ∈ l, f x = g x) → l.any f = l.any g
  | [], _ => rfl
  | a :: r, h => by rw [List.any_cons, List.any_cons, h a (by simp), any_same fun x hx => h x (by simp [hx])]
theorem find_same {α : Type} {f g : α → Bool} : ∀ {l : List α}, (∀ x ∈ l, f x = g x) → l.find? f = l.find? g
  | [], _ => rfl
  | a :: r, h => by rw [List.find?_cons, List.find?_cons, h a (by simp), find_same fun x hx => h x (by simp [hx])]
theorem allR_succ (f : Nat → Int) (n : Nat) : allR f (n + 1) = if allR f n = 0 then f n else allR f n := by
  unfold allR
  rw [List.range_succ, List.map_append, firstI_append]
  simp only [List.map_cons, List.map_nil, firstI_cons, firstI_nil]
  split
  · split
    · rename_i h; exact h.symm
    · rfl
  · rfl
theorem allR_same {f g : Nat → Int} : ∀ {n : Nat}, (∀ i, i < n → (∀ j, j < i → f j = 0) → f i = g i) → allR f n = allR g n
  | 0, _ => rfl
  | n + 1, h => by
    rw [allR_succ, allR_succ, ← allR_same (n := n) (fun i hi => h i (by omega))]
    split
    · rename_i hz
      exact h n (by omega) fun j hj => allR_zero hz hj
    · rfl
structure Mv.Good (x : Mv) : Prop where
  line : nameB x.line = true
  other : nameB x.other = true
  fr : 0 ≤ x.fr
  len : 1 ≤ x.len
  to : 0 ≤ x.to
  frl : x.fr + x.len ≤ 800000
  tol : x.to + x.len ≤ 800000
theorem when_name {s : List Nat} (h : whenI (!nameB s) 8 = 0) : nameB s = true := by
  cases hb : nameB s with
  | true => rfl
  | false => rw [hb] at h; simp [whenI] at h
theorem mv_ranges {x : Mv} (h : firstI [whenI (!nameB x.line) 8, whenI (!nameB x.other) 8, rangeI x.fr 0 800000, rangeI x.len 1 800000, rangeI x.to 0 800000] = 0) :
    nameB x.line = true ∧ nameB x.other = true ∧ (0 ≤ x.fr ∧ x.fr ≤ 800000) ∧ (1 ≤ x.len ∧ x.len ≤ 800000) ∧ 0 ≤ x.to ∧ x.to ≤ 800000 := by
  have hm := firstI_zero h
  exact ⟨when_name (hm _ (by simp)), when_name (hm _ (by simp)), rangeI_zero (hm (rangeI x.fr 0 800000) (by simp)), rangeI_zero (hm (rangeI x.len 1 800000) (by simp)), rangeI_zero (hm (rangeI x.to 0 800000) (by simp))⟩
theorem maxI_lt {a b c : Int} : maxI a b < c ↔ a < c ∧ b < c := by unfold maxI; split <;> omega
theorem lt_minI {a b c : Int} : c < minI a b ↔ c < a ∧ c < b := by unfold minI; split <;> omega
theorem maxI_or (a b : Int) : maxI a b = a ∨ maxI a b = b := by unfold maxI; split <;> simp
theorem mvP_good {x : Mv} (h : mvP x = 0) : x.Good := by
  unfold mvP at h
  simp only [] at h
  split at h
  · rename_i he
    obtain ⟨a, b, c, d, e, f⟩ := mv_ranges he
    have hs : Int.add (maxI x.fr x.to) x.len = maxI x.fr x.to + x.len := rfl
    have hb := maxI_or x.fr x.to
    rw [hs, wrap_small (by rcases hb with hb | hb <;> omega) (by rcases hb with hb | hb <;> omega)] at h
    have hn : ¬ (800000 < maxI x.fr x.to + x.len) := by
      intro hc; rw [decide_eq_true hc] at h; simp [whenI] at h
    have hm : x.fr ≤ maxI x.fr x.to ∧ x.to ≤ maxI x.fr x.to := by unfold maxI; split <;> omega
    exact ⟨a, b, c.1, d.1, e, by omega, by omega⟩
  · rename_i he; exact absurd h he
theorem Mv.Good.end_ {x : Mv} (h : x.Good) : endI x = x.fr + x.len := by
  have e : Int.add x.fr x.len = x.fr + x.len := rfl
  have := h.fr; have := h.len; have := h.frl
  unfold endI; rw [e, wrap_small (by omega) (by omega)]
theorem Mv.Good.till {x : Mv} (h : x.Good) : wrapq .i64 (Int.add x.to x.len) = x.to + x.len := by
  have e : Int.add x.to x.len = x.to + x.len := rfl
  have := h.to; have := h.len; have := h.tol
  rw [e, wrap_small (by omega) (by omega)]
theorem meet_same {x y : Mv} (hx : x.Good) (hy : y.Good) : meetB x y = overB y x := by
  unfold meetB overB
  rw [hx.till, hy.till]
  have := hx.len; have := hy.len
  have : (maxI y.to x.to < minI (y.to + y.len) (x.to + x.len)) ↔ (y.to < x.to + x.len ∧ x.to < y.to + y.len) := by
    rw [maxI_lt, lt_minI, lt_minI]
    omega
  rw [Bool.and_assoc]
  congr 1
  rw [Bool.eq_iff_iff]
  simp only [decide_eq_true_eq, Bool.and_eq_true]
  exact this
theorem move_same (m : List Mv) (i : Nat) (hz : ∀ j, j < i → moveP m j = 0) : moveP m i = mvR m i := by
  unfold moveP mvR
  cases hx : m[i]? with
  | none => rfl
  | some x =>
    simp only []
    unfold mvP
    simp only []
    by_cases he : firstI [whenI (!nameB x.line) 8, whenI (!nameB x.other) 8, rangeI x.fr 0 800000, rangeI x.len 1 800000, rangeI x.to 0 800000] = 0
    · simp only [he, if_true]
      obtain ⟨a, b, c, d, e, f⟩ := mv_ranges he
      have hb := maxI_or x.fr x.to
      have hm : x.fr ≤ maxI x.fr x.to ∧ x.to ≤ maxI x.fr x.to := by unfold maxI; split <;> omega
      have hs : Int.add (maxI x.fr x.to) x.len = maxI x.fr x.to + x.len := rfl
      have hs1 : Int.add x.to x.len = x.to + x.len := rfl
      have hs2 : endI x = x.fr + x.len := by
        have e : Int.add x.fr x.len = x.fr + x.len := rfl
        unfold endI; rw [e, wrap_small (by omega) (by omega)]
      rw [hs, hs1, hs2, wrap_small (x := maxI x.fr x.to + x.len) (by rcases hb with hb | hb <;> omega) (by rcases hb with hb | hb <;> omega), wrap_small (x := x.to + x.len) (by omega) (by omega)]
      have hor : (decide (800000 < x.fr + x.len) || decide (800000 < x.to + x.len)) = decide (800000 < maxI x.fr x.to + x.len) := by
        rw [Bool.eq_iff_iff]
        simp only [Bool.or_eq_true, decide_eq_true_eq]
        rcases hb with hb | hb <;> omega
      rw [hor]
      by_cases hl : 800000 < maxI x.fr x.to + x.len
      · simp [hl, whenI]
      · simp only [hl, decide_false, whenI_false, if_true, Bool.false_eq_true, if_false]
        have hxg : x.Good := ⟨a, b, c.1, d.1, e, by omega, by omega⟩
        have hany : (m.take i).any (meetB x) = (m.take i).any (fun y => overB y x) := by
          apply any_same
          intro y hy
          obtain ⟨j, hj⟩ := List.mem_iff_getElem?.1 hy
          rw [List.getElem?_take] at hj
          split at hj
          · rename_i hji
            have hjz := hz j hji
            unfold moveP at hjz
            simp only [hj] at hjz
            split at hjz
            · rename_i hp
              exact meet_same hxg (mvP_good hp)
            · rename_i hp; exact absurd hjz hp
          · cases hj
        rw [hany]
        first | done | rfl
    · simp [he]
theorem map_same (m : List Mv) : mapP m = mapR m := by
  unfold mapP mapR
  rw [allR_same (f := moveP m) (g := mvR m) (n := m.length) fun i _ hz => move_same m i hz]
theorem map_good {m : List Mv} (h : mapR m = 0) {x : Mv} (hx : x ∈ m) : x.Good := by
  rw [← map_same] at h
  unfold mapP at h
  by_cases hl : (24 : Int) < m.length
  · simp [hl] at h
  · simp only [hl, if_false] at h
    obtain ⟨i, hi⟩ := List.mem_iff_getElem?.1 hx
    have hz := allR_zero h (List.getElem?_eq_some_iff.1 hi).1
    unfold moveP at hz
    simp only [hi] at hz
    split at hz
    · rename_i hp; exact mvP_good hp
    · rename_i hp; exact absurd hz hp
/-! ### What is carried -/
theorem hit_same {x : Mv} (hx : x.Good) (s : List Nat) {q : Int} (h0 : 0 ≤ q) (h1 : q ≤ 800000) : hitMv s q x = hitR s q x := by
  have := hx.fr; have := hx.len; have := hx.frl
  have e : Int.sub q x.fr = q - x.fr := rfl
  unfold hitMv hitR kR
  rw [hx.end_, e, wrap_small (by omega) (by omega)]
  rw [Bool.eq_iff_iff]
  simp only [Bool.and_eq_true, Bool.not_eq_true', decide_eq_true_eq, decide_eq_false_iff_not]
  constructor
  · rintro ⟨⟨a, b⟩, c⟩; exact ⟨⟨a, by omega⟩, by omega⟩
  · rintro ⟨⟨a, b⟩, c⟩; exact ⟨⟨a, by omega⟩, by omega⟩
theorem at_same {x : Mv} (hx : x.Good) {q : Int} (h0 : x.fr ≤ q) (h1 : q < x.fr + x.len) : atI x q = atR x (kR x q) := by
  have := hx.fr; have := hx.len; have := hx.frl; have := hx.to; have := hx.tol
  have e : Int.sub q x.fr = q - x.fr := rfl
  have e1 : Int.sub (x.to + x.len) 1 = x.to + x.len - 1 := rfl
  have e2 : Int.sub (x.to + x.len - 1) (q - x.fr) = x.to + x.len - 1 - (q - x.fr) := rfl
  have e3 : Int.add x.to (q - x.fr) = x.to + (q - x.fr) := rfl
  have e4 : Int.add x.to q = x.to + q := rfl
  have e5 : Int.sub (x.to + q) x.fr = x.to + q - x.fr := rfl
  unfold atI atR kR
  rw [hx.till, e1, wrap_small (x := x.to + x.len - 1) (by omega) (by omega), e, wrap_small (x := q - x.fr) (by omega) (by omega), e2, e3, e4, wrap_small (x := x.to + q) (by omega) (by omega), e5]
  have : x.to + (q - x.fr) = x.to + q - x.fr := by omega
  rw [this]
theorem hit_in {x : Mv} (hx : x.Good) {s : List Nat} {q : Int} (h : hitMv s q x = true) : x.line = s ∧ x.fr ≤ q ∧ q < x.fr + x.len := by
  unfold hitMv at h
  rw [hx.end_] at h
  simp only [Bool.and_eq_true, Bool.not_eq_true', decide_eq_true_eq, decide_eq_false_iff_not] at h
  exact ⟨(beqL_iff _ _).1 h.1.1, by omega, h.2⟩
theorem car_same {m : List Mv} (h : mapR m = 0) (s : List Nat) {q : Int} (h0 : 0 ≤ q) (h1 : q ≤ 800000) : carP m s q = carR m s q := by
  unfold carP carR
  rw [← find_same (l := m) (f := hitMv s q) fun x hx => hit_same (map_good h hx) s h0 h1]
  cases hf : m.find? (hitMv s q) with
  | none => rfl
  | some x =>
    have hm := List.mem_of_find?_eq_some hf
    have hh := List.find?_some hf
    have hg := map_good h hm
    obtain ⟨_, a, b⟩ := hit_in hg hh
    simp only [at_same hg a b]
end Go.Sim

/-
The document's examples: what 'awake' returns, found by closed runs.
-/
namespace Go.Sim
open Go
def aw0 : List Known := []
theorem awh0 : ∀ k ∈ aw0, ∀ lo H, CallOk NC lo k.f k.args H k.v H := fun k h => by cases h
def ak1 : Known := ⟨110, [.ps .unk [[.str [117, 112], .ps .unk [[.int .i64 100, .int .i64 5000, .bool false], [.int .i64 50, .int .i64 5080, .bool false], [.int .i64 30, .int .i64 5200, .bool true]]], [.str [115, 105, 100, 101], .ps .unk [[.int .i64 40, .int .i64 0, .bool false]]]]], .int .i64 0⟩
theorem ac1 : ∀ lo H, CallOk NC lo ak1.f ak1.args H ak1.v H := known_ok saneNC awh0 (fuel := 5000) (by kernel_rfl) (by kernel_rfl) (by kernel_rfl)
def aw1 : List Known := ak1 :: aw0
theorem awh1 : ∀ k ∈ aw1, ∀ lo H, CallOk NC lo k.f k.args H k.v H := fun k h => (List.mem_cons.1 h).elim (fun e => e ▸ ac1) (awh0 k)
def ak2 : Known := ⟨112, [.agg [.ps .unk [[.str [117, 112], .ps .unk [[.int .i64 100, .int .i64 5000, .bool false], [.int .i64 50, .int .i64 5080, .bool false], [.int .i64 30, .int .i64 5200, .bool true]]], [.str [115, 105, 100, 101], .ps .unk [[.int .i64 40, .int .i64 0, .bool false]]]], .ps .unk [[.str [119], .str [117, 112], .int .i64 120, .str [115, 105, 100, 101], .bool false]], .ps .unk [[.str [97, 114, 99, 104], .str [98, 114, 105, 100, 103, 101], .str [117, 112], .int .i64 130, .int .i64 150]]]], .int .i64 0⟩
theorem ac2 : ∀ lo H, CallOk NC lo ak2.f ak2.args H ak2.v H := known_ok saneNC awh1 (fuel := 5000) (by kernel_rfl) (by kernel_rfl) (by kernel_rfl)
def aw2 : List Known := ak2 :: aw1
theorem awh2 : ∀ k ∈ aw2, ∀ lo H, CallOk NC lo k.f k.args H k.v H := fun k h => (List.mem_cons.1 h).elim (fun e => e ▸ ac2) (awh1 k)
def ak3 : Known := ⟨113, [.agg [.ps .unk [[.str [117, 112], .ps .unk [[.int .i64 100, .int .i64 5000, .bool false], [.int .i64 50, .int .i64 5080, .bool false], [.int .i64 30, .int .i64 5200, .bool true]]], [.str [115, 105, 100, 101], .ps .unk [[.int .i64 40, .int .i64 0, .bool false]]]], .ps .unk [[.str [119], .str [117, 112], .int .i64 120, .str [115, 105, 100, 101], .bool false]], .ps .unk [[.str [97, 114, 99, 104], .str [98, 114, 105, 100, 103, 101], .str [117, 112], .int .i64 130, .int .i64 150]]]], .int .i64 0⟩
theorem ac3 : ∀ lo H, CallOk NC lo ak3.f ak3.args H ak3.v H := known_ok saneNC awh2 (fuel := 5000) (by kernel_rfl) (by kernel_rfl) (by kernel_rfl)
def aw3 : List Known := ak3 :: aw2
theorem awh3 : ∀ k ∈ aw3, ∀ lo H, CallOk NC lo k.f k.args H k.v H := fun k h => (List.mem_cons.1 h).elim (fun e => e ▸ ac3) (awh2 k)
def ak4 : Known := ⟨29, [.agg [.ps .unk [[.str [117, 112], .ps .unk [[.int .i64 100, .int .i64 5000, .bool false], [.int .i64 50, .int .i64 5080, .bool false], [.int .i64 30, .int .i64 5200, .bool true]]], [.str [115, 105, 100, 101], .ps .unk [[.int .i64 40, .int .i64 0, .bool false]]]], .ps .unk [[.str [119], .str [117, 112], .int .i64 120, .str [115, 105, 100, 101], .bool false]], .ps .unk [[.str [97, 114, 99, 104], .str [98, 114, 105, 100, 103, 101], .str [117, 112], .int .i64 130, .int .i64 150]]]], .int .i64 0⟩
theorem ac4 : ∀ lo H, CallOk NC lo ak4.f ak4.args H ak4.v H := known_ok saneNC awh3 (fuel := 5000) (by kernel_rfl) (by kernel_rfl) (by kernel_rfl)
def aw4 : List Known := ak4 :: aw3
theorem awh4 : ∀ k ∈ aw4, ∀ lo H, CallOk NC lo k.f k.args H k.v H := fun k h => (List.mem_cons.1 h).elim (fun e => e ▸ ac4) (awh3 k)
def ak5 : Known := ⟨18, [.agg [.ps .unk [[.str [117, 112], .ps .unk [[.int .i64 100, .int .i64 5000, .bool false], [.int .i64 50, .int .i64 5080, .bool false], [.int .i64 30, .int .i64 5200, .bool true]]], [.str [115, 105, 100, 101], .ps .unk [[.int .i64 40, .int .i64 0, .bool false]]]], .ps .unk [[.str [119], .str [117, 112], .int .i64 120, .str [115, 105, 100, 101], .bool false]], .ps .unk [[.str [97, 114, 99, 104], .str [98, 114, 105, 100, 103, 101], .str [117, 112], .int .i64 130, .int .i64 150]]], .str [117, 112]], .tup [.int .i64 180, .int .i64 0]⟩
theorem ac5 : ∀ lo H, CallOk NC lo ak5.f ak5.args H ak5.v H := known_ok saneNC awh4 (fuel := 5000) (by kernel_rfl) (by kernel_rfl) (by kernel_rfl)
def aw5 : List Known := ak5 :: aw4
theorem awh5 : ∀ k ∈ aw5, ∀ lo H, CallOk NC lo k.f k.args H k.v H := fun k h => (List.mem_cons.1 h).elim (fun e => e ▸ ac5) (awh4 k)
def ak6 : Known := ⟨20, [.agg [.ps .unk [[.str [117, 112], .ps .unk [[.int .i64 100, .int .i64 5000, .bool false], [.int .i64 50, .int .i64 5080, .bool false], [.int .i64 30, .int .i64 5200, .bool true]]], [.str [115, 105, 100, 101], .ps .unk [[.int .i64 40, .int .i64 0, .bool false]]]], .ps .unk [[.str [119], .str [117, 112], .int .i64 120, .str [115, 105, 100, 101], .bool false]], .ps .unk [[.str [97, 114, 99, 104], .str [98, 114, 105, 100, 103, 101], .str [117, 112], .int .i64 130, .int .i64 150]]], .agg [.str [117, 112], .int .i64 120]], .tup [.agg [.str [117, 112], .int .i64 1, .int .i64 5100], .int .i64 0]⟩
theorem ac6 : ∀ lo H, CallOk NC lo ak6.f ak6.args H ak6.v H := known_ok saneNC awh5 (fuel := 5000) (by kernel_rfl) (by kernel_rfl) (by kernel_rfl)
def aw6 : List Known := ak6 :: aw5
theorem awh6 : ∀ k ∈ aw6, ∀ lo H, CallOk NC lo k.f k.args H k.v H := fun k h => (List.mem_cons.1 h).elim (fun e => e ▸ ac6) (awh5 k)
def ak7 : Known := ⟨20, [.agg [.ps .unk [[.str [117, 112], .ps .unk [[.int .i64 100, .int .i64 5000, .bool false], [.int .i64 50, .int .i64 5080, .bool false], [.int .i64 30, .int .i64 5200, .bool true]]], [.str [115, 105, 100, 101], .ps .unk [[.int .i64 40, .int .i64 0, .bool false]]]], .ps .unk [[.str [119], .str [117, 112], .int .i64 120, .str [115, 105, 100, 101], .bool false]], .ps .unk [[.str [97, 114, 99, 104], .str [98, 114, 105, 100, 103, 101], .str [117, 112], .int .i64 130, .int .i64 150]]], .agg [.str [117, 112], .int .i64 179]], .tup [.agg [.str [117, 112], .int .i64 2, .int .i64 5171], .int .i64 0]⟩
theorem ac7 : ∀ lo H, CallOk NC lo ak7.f ak7.args H ak7.v H := known_ok saneNC awh6 (fuel := 5000) (by kernel_rfl) (by kernel_rfl) (by kernel_rfl)
def aw7 : List Known := ak7 :: aw6
theorem awh7 : ∀ k ∈ aw7, ∀ lo H, CallOk NC lo k.f k.args H k.v H := fun k h => (List.mem_cons.1 h).elim (fun e => e ▸ ac7) (awh6 k)
def ak8 : Known := ⟨51, [.agg [.ps .unk [[.str [117, 112], .ps .unk [[.int .i64 100, .int .i64 5000, .bool false], [.int .i64 50, .int .i64 5080, .bool false], [.int .i64 30, .int .i64 5200, .bool true]]], [.str [115, 105, 100, 101], .ps .unk [[.int .i64 40, .int .i64 0, .bool false]]]], .ps .unk [[.str [119], .str [117, 112], .int .i64 120, .str [115, 105, 100, 101], .bool false]], .ps .unk [[.str [97, 114, 99, 104], .str [98, 114, 105, 100, 103, 101], .str [117, 112], .int .i64 130, .int .i64 150]]], .str [117, 112], .int .i64 5090], .tup [.ps .unk [[.str [117, 112], .int .i64 0, .int .i64 5090], [.str [117, 112], .int .i64 1, .int .i64 5090]], .int .i64 0]⟩
theorem ac8 : ∀ lo H, CallOk NC lo ak8.f ak8.args H ak8.v H := known_ok saneNC awh7 (fuel := 5000) (by kernel_rfl) (by kernel_rfl) (by kernel_rfl)
def aw8 : List Known := ak8 :: aw7
theorem awh8 : ∀ k ∈ aw8, ∀ lo H, CallOk NC lo k.f k.args H k.v H := fun k h => (List.mem_cons.1 h).elim (fun e => e ▸ ac8) (awh7 k)
def ak9 : Known := ⟨21, [.agg [.ps .unk [[.str [117, 112], .ps .unk [[.int .i64 100, .int .i64 5000, .bool false], [.int .i64 50, .int .i64 5080, .bool false], [.int .i64 30, .int .i64 5200, .bool true]]], [.str [115, 105, 100, 101], .ps .unk [[.int .i64 40, .int .i64 0, .bool false]]]], .ps .unk [[.str [119], .str [117, 112], .int .i64 120, .str [115, 105, 100, 101], .bool false]], .ps .unk [[.str [97, 114, 99, 104], .str [98, 114, 105, 100, 103, 101], .str [117, 112], .int .i64 130, .int .i64 150]]], .agg [.str [117, 112], .int .i64 1, .int .i64 5090]], .tup [.agg [.str [117, 112], .int .i64 110], .int .i64 0]⟩
theorem ac9 : ∀ lo H, CallOk NC lo ak9.f ak9.args H ak9.v H := known_ok saneNC awh8 (fuel := 5000) (by kernel_rfl) (by kernel_rfl) (by kernel_rfl)
def aw9 : List Known := ak9 :: aw8
theorem awh9 : ∀ k ∈ aw9, ∀ lo H, CallOk NC lo k.f k.args H k.v H := fun k h => (List.mem_cons.1 h).elim (fun e => e ▸ ac9) (awh8 k)
def ak10 : Known := ⟨114, [.agg [.ps .unk [[.str [117, 112], .ps .unk [[.int .i64 100, .int .i64 5000, .bool false], [.int .i64 50, .int .i64 5080, .bool false], [.int .i64 30, .int .i64 5200, .bool true]]], [.str [115, 105, 100, 101], .ps .unk [[.int .i64 40, .int .i64 0, .bool false]]]], .ps .unk [[.str [119], .str [117, 112], .int .i64 120, .str [115, 105, 100, 101], .bool false]], .ps .unk [[.str [97, 114, 99, 104], .str [98, 114, 105, 100, 103, 101], .str [117, 112], .int .i64 130, .int .i64 150]]], .ps .unk [[.str [117, 112], .int .i64 100], [.str [115, 105, 100, 101], .int .i64 10]]], .int .i64 0⟩
theorem ac10 : ∀ lo H, CallOk NC lo ak10.f ak10.args H ak10.v H := known_ok saneNC awh9 (fuel := 5000) (by kernel_rfl) (by kernel_rfl) (by kernel_rfl)
def aw10 : List Known := ak10 :: aw9
theorem awh10 : ∀ k ∈ aw10, ∀ lo H, CallOk NC lo k.f k.args H k.v H := fun k h => (List.mem_cons.1 h).elim (fun e => e ▸ ac10) (awh9 k)
def ak11 : Known := ⟨203, [.agg [.ps .unk [[.str [117, 112], .ps .unk [[.int .i64 100, .int .i64 5000, .bool false], [.int .i64 50, .int .i64 5080, .bool false], [.int .i64 30, .int .i64 5200, .bool true]]], [.str [115, 105, 100, 101], .ps .unk [[.int .i64 40, .int .i64 0, .bool false]]]], .ps .unk [[.str [119], .str [117, 112], .int .i64 120, .str [115, 105, 100, 101], .bool false]], .ps .unk [[.str [97, 114, 99, 104], .str [98, 114, 105, 100, 103, 101], .str [117, 112], .int .i64 130, .int .i64 150]]], .agg [.ps .unk [[.str [117, 112], .int .i64 100, .int .i64 120], [.str [115, 105, 100, 101], .int .i64 0, .int .i64 0], [.str [117, 112], .int .i64 120, .int .i64 120]], .int .i64 20], .agg [.ps .unk [[.str [117, 112], .int .i64 100, .int .i64 120]], .int .i64 20]], .int .i64 1⟩
theorem ac11 : ∀ lo H, CallOk NC lo ak11.f ak11.args H ak11.v H := known_ok saneNC awh10 (fuel := 5000) (by kernel_rfl) (by kernel_rfl) (by kernel_rfl)
def aw11 : List Known := ak11 :: aw10
theorem awh11 : ∀ k ∈ aw11, ∀ lo H, CallOk NC lo k.f k.args H k.v H := fun k h => (List.mem_cons.1 h).elim (fun e => e ▸ ac11) (awh10 k)
def ak12 : Known := ⟨203, [.agg [.ps .unk [[.str [117, 112], .ps .unk [[.int .i64 100, .int .i64 5000, .bool false], [.int .i64 50, .int .i64 5080, .bool false], [.int .i64 30, .int .i64 5200, .bool true]]], [.str [115, 105, 100, 101], .ps .unk [[.int .i64 40, .int .i64 0, .bool false]]]], .ps .unk [[.str [119], .str [117, 112], .int .i64 120, .str [115, 105, 100, 101], .bool false]], .ps .unk [[.str [97, 114, 99, 104], .str [98, 114, 105, 100, 103, 101], .str [117, 112], .int .i64 130, .int .i64 150]]], .agg [.ps .unk [[.str [117, 112], .int .i64 100, .int .i64 120], [.str [115, 105, 100, 101], .int .i64 0, .int .i64 0]], .int .i64 20], .agg [.ps .unk [[.str [117, 112], .int .i64 100, .int .i64 120], [.str [115, 105, 100, 101], .int .i64 0, .int .i64 0]], .int .i64 20]], .int .i64 0⟩
theorem ac12 : ∀ lo H, CallOk NC lo ak12.f ak12.args H ak12.v H := known_ok saneNC awh11 (fuel := 5000) (by kernel_rfl) (by kernel_rfl) (by kernel_rfl)
def aw12 : List Known := ak12 :: aw11
theorem awh12 : ∀ k ∈ aw12, ∀ lo H, CallOk NC lo k.f k.args H k.v H := fun k h => (List.mem_cons.1 h).elim (fun e => e ▸ ac12) (awh11 k)
def ak13 : Known := ⟨142, [.agg [.ps .unk [[.str [117, 112], .ps .unk [[.int .i64 100, .int .i64 5000, .bool false], [.int .i64 50, .int .i64 5080, .bool false], [.int .i64 30, .int .i64 5200, .bool true]]], [.str [115, 105, 100, 101], .ps .unk [[.int .i64 40, .int .i64 0, .bool false]]]], .ps .unk [[.str [119], .str [117, 112], .int .i64 120, .str [115, 105, 100, 101], .bool false]], .ps .unk [[.str [97, 114, 99, 104], .str [98, 114, 105, 100, 103, 101], .str [117, 112], .int .i64 130, .int .i64 150]]], .agg [.str [117, 112], .int .i64 100], .agg [.str [115, 105, 100, 101], .int .i64 10]], .tup [.agg [.ps .unk [[.str [117, 112], .int .i64 100, .int .i64 120], [.str [115, 105, 100, 101], .int .i64 0, .int .i64 10]], .int .i64 30], .bool true]⟩
theorem ac13 : ∀ lo H, CallOk NC lo ak13.f ak13.args H ak13.v H := known_ok saneNC awh12 (fuel := 5000) (by kernel_rfl) (by kernel_rfl) (by kernel_rfl)
def aw13 : List Known := ak13 :: aw12
theorem awh13 : ∀ k ∈ aw13, ∀ lo H, CallOk NC lo k.f k.args H k.v H := fun k h => (List.mem_cons.1 h).elim (fun e => e ▸ ac13) (awh12 k)
def ak14 : Known := ⟨71, [.agg [.ps .unk [[.str [117, 112], .ps .unk [[.int .i64 100, .int .i64 5000, .bool false], [.int .i64 50, .int .i64 5080, .bool false], [.int .i64 30, .int .i64 5200, .bool true]]], [.str [115, 105, 100, 101], .ps .unk [[.int .i64 40, .int .i64 0, .bool false]]]], .ps .unk [[.str [119], .str [117, 112], .int .i64 120, .str [115, 105, 100, 101], .bool false]], .ps .unk [[.str [97, 114, 99, 104], .str [98, 114, 105, 100, 103, 101], .str [117, 112], .int .i64 130, .int .i64 150]]], .agg [.str [117, 112], .int .i64 100], .agg [.str [115, 105, 100, 101], .int .i64 10]], .tup [.ps .unk [[.str [117, 112], .int .i64 100, .int .i64 120], [.str [115, 105, 100, 101], .int .i64 0, .int .i64 10]], .int .i64 30, .int .i64 0]⟩
theorem ac14 : ∀ lo H, CallOk NC lo ak14.f ak14.args H ak14.v H := known_ok saneNC awh13 (fuel := 5000) (by kernel_rfl) (by kernel_rfl) (by kernel_rfl)
def aw14 : List Known := ak14 :: aw13
theorem awh14 : ∀ k ∈ aw14, ∀ lo H, CallOk NC lo k.f k.args H k.v H := fun k h => (List.mem_cons.1 h).elim (fun e => e ▸ ac14) (awh13 k)
def ak15 : Known := ⟨114, [.agg [.ps .unk [[.str [117, 112], .ps .unk [[.int .i64 100, .int .i64 5000, .bool false], [.int .i64 50, .int .i64 5080, .bool false], [.int .i64 30, .int .i64 5200, .bool true]]], [.str [115, 105, 100, 101], .ps .unk [[.int .i64 40, .int .i64 0, .bool false]]]], .ps .unk [[.str [119], .str [117, 112], .int .i64 120, .str [115, 105, 100, 101], .bool false]], .ps .unk [[.str [97, 114, 99, 104], .str [98, 114, 105, 100, 103, 101], .str [117, 112], .int .i64 130, .int .i64 150]]], .ps .unk [[.str [115, 105, 100, 101], .int .i64 5]]], .int .i64 0⟩
theorem ac15 : ∀ lo H, CallOk NC lo ak15.f ak15.args H ak15.v H := known_ok saneNC awh14 (fuel := 5000) (by kernel_rfl) (by kernel_rfl) (by kernel_rfl)
def aw15 : List Known := ak15 :: aw14
theorem awh15 : ∀ k ∈ aw15, ∀ lo H, CallOk NC lo k.f k.args H k.v H := fun k h => (List.mem_cons.1 h).elim (fun e => e ▸ ac15) (awh14 k)
def ak16 : Known := ⟨203, [.agg [.ps .unk [[.str [117, 112], .ps .unk [[.int .i64 100, .int .i64 5000, .bool false], [.int .i64 50, .int .i64 5080, .bool false], [.int .i64 30, .int .i64 5200, .bool true]]], [.str [115, 105, 100, 101], .ps .unk [[.int .i64 40, .int .i64 0, .bool false]]]], .ps .unk [[.str [119], .str [117, 112], .int .i64 120, .str [115, 105, 100, 101], .bool false]], .ps .unk [[.str [97, 114, 99, 104], .str [98, 114, 105, 100, 103, 101], .str [117, 112], .int .i64 130, .int .i64 150]]], .agg [.ps .unk [[.str [115, 105, 100, 101], .int .i64 5, .int .i64 0], [.str [117, 112], .int .i64 120, .int .i64 120], [.str [115, 105, 100, 101], .int .i64 0, .int .i64 0]], .int .i64 5], .agg [.ps .unk [[.str [115, 105, 100, 101], .int .i64 5, .int .i64 0]], .int .i64 5]], .int .i64 1⟩
theorem ac16 : ∀ lo H, CallOk NC lo ak16.f ak16.args H ak16.v H := known_ok saneNC awh15 (fuel := 5000) (by kernel_rfl) (by kernel_rfl) (by kernel_rfl)
def aw16 : List Known := ak16 :: aw15
theorem awh16 : ∀ k ∈ aw16, ∀ lo H, CallOk NC lo k.f k.args H k.v H := fun k h => (List.mem_cons.1 h).elim (fun e => e ▸ ac16) (awh15 k)
def ak17 : Known := ⟨203, [.agg [.ps .unk [[.str [117, 112], .ps .unk [[.int .i64 100, .int .i64 5000, .bool false], [.int .i64 50, .int .i64 5080, .bool false], [.int .i64 30, .int .i64 5200, .bool true]]], [.str [115, 105, 100, 101], .ps .unk [[.int .i64 40, .int .i64 0, .bool false]]]], .ps .unk [[.str [119], .str [117, 112], .int .i64 120, .str [115, 105, 100, 101], .bool false]], .ps .unk [[.str [97, 114, 99, 104], .str [98, 114, 105, 100, 103, 101], .str [117, 112], .int .i64 130, .int .i64 150]]], .agg [.ps .unk [[.str [115, 105, 100, 101], .int .i64 5, .int .i64 0], [.str [117, 112], .int .i64 120, .int .i64 120]], .int .i64 5], .agg [.ps .unk [[.str [115, 105, 100, 101], .int .i64 5, .int .i64 0], [.str [117, 112], .int .i64 120, .int .i64 120]], .int .i64 5]], .int .i64 0⟩
theorem ac17 : ∀ lo H, CallOk NC lo ak17.f ak17.args H ak17.v H := known_ok saneNC awh16 (fuel := 5000) (by kernel_rfl) (by kernel_rfl) (by kernel_rfl)
def aw17 : List Known := ak17 :: aw16
theorem awh17 : ∀ k ∈ aw17, ∀ lo H, CallOk NC lo k.f k.args H k.v H := fun k h => (List.mem_cons.1 h).elim (fun e => e ▸ ac17) (awh16 k)
def ak18 : Known := ⟨116, [.agg [.ps .unk [[.str [117, 112], .ps .unk [[.int .i64 100, .int .i64 5000, .bool false], [.int .i64 50, .int .i64 5080, .bool false], [.int .i64 30, .int .i64 5200, .bool true]]], [.str [115, 105, 100, 101], .ps .unk [[.int .i64 40, .int .i64 0, .bool false]]]], .ps .unk [[.str [119], .str [117, 112], .int .i64 120, .str [115, 105, 100, 101], .bool false]], .ps .unk [[.str [97, 114, 99, 104], .str [98, 114, 105, 100, 103, 101], .str [117, 112], .int .i64 130, .int .i64 150]]], .agg [.str [115, 105, 100, 101], .int .i64 5]], .ps .unk [[.str [115, 105, 100, 101], .int .i64 5, .int .i64 0], [.str [115, 105, 100, 101], .int .i64 0, .int .i64 5], [.str [117, 112], .int .i64 120, .int .i64 5]]⟩
theorem ac18 : ∀ lo H, CallOk NC lo ak18.f ak18.args H ak18.v H := known_ok saneNC awh17 (fuel := 5000) (by kernel_rfl) (by kernel_rfl) (by kernel_rfl)
def aw18 : List Known := ak18 :: aw17
theorem awh18 : ∀ k ∈ aw18, ∀ lo H, CallOk NC lo k.f k.args H k.v H := fun k h => (List.mem_cons.1 h).elim (fun e => e ▸ ac18) (awh17 k)
def ak19 : Known := ⟨33, [.agg [.ps .unk [[.str [117, 112], .ps .unk [[.int .i64 100, .int .i64 5000, .bool false], [.int .i64 50, .int .i64 5080, .bool false], [.int .i64 30, .int .i64 5200, .bool true]]], [.str [115, 105, 100, 101], .ps .unk [[.int .i64 40, .int .i64 0, .bool false]]]], .ps .unk [[.str [119], .str [117, 112], .int .i64 120, .str [115, 105, 100, 101], .bool false]], .ps .unk [[.str [97, 114, 99, 104], .str [98, 114, 105, 100, 103, 101], .str [117, 112], .int .i64 130, .int .i64 150]]], .agg [.str [115, 105, 100, 101], .int .i64 5], .str [98, 114, 105, 100, 103, 101]], .tup [.str [97, 114, 99, 104], .int .i64 15, .int .i64 0]⟩
theorem ac19 : ∀ lo H, CallOk NC lo ak19.f ak19.args H ak19.v H := known_ok saneNC awh18 (fuel := 5000) (by kernel_rfl) (by kernel_rfl) (by kernel_rfl)
def aw19 : List Known := ak19 :: aw18
theorem awh19 : ∀ k ∈ aw19, ∀ lo H, CallOk NC lo k.f k.args H k.v H := fun k h => (List.mem_cons.1 h).elim (fun e => e ▸ ac19) (awh18 k)
def ak20 : Known := ⟨127, [.agg [.str [117, 112], .int .i64 0, .int .i64 100, .str [109, 97, 105, 110], .int .i64 20, .bool false]], .int .i64 0⟩
theorem ac20 : ∀ lo H, CallOk NC lo ak20.f ak20.args H ak20.v H := known_ok saneNC awh19 (fuel := 5000) (by kernel_rfl) (by kernel_rfl) (by kernel_rfl)
def aw20 : List Known := ak20 :: aw19
theorem awh20 : ∀ k ∈ aw20, ∀ lo H, CallOk NC lo k.f k.args H k.v H := fun k h => (List.mem_cons.1 h).elim (fun e => e ▸ ac20) (awh19 k)
def ak21 : Known := ⟨127, [.agg [.str [117, 112], .int .i64 100, .int .i64 50, .str [109, 97, 105, 110], .int .i64 200, .bool true]], .int .i64 0⟩
theorem ac21 : ∀ lo H, CallOk NC lo ak21.f ak21.args H ak21.v H := known_ok saneNC awh20 (fuel := 5000) (by kernel_rfl) (by kernel_rfl) (by kernel_rfl)
def aw21 : List Known := ak21 :: aw20
theorem awh21 : ∀ k ∈ aw21, ∀ lo H, CallOk NC lo k.f k.args H k.v H := fun k h => (List.mem_cons.1 h).elim (fun e => e ▸ ac21) (awh20 k)
def ak22 : Known := ⟨49, [.ps .unk [[.str [117, 112], .int .i64 0, .int .i64 100, .str [109, 97, 105, 110], .int .i64 20, .bool false], [.str [117, 112], .int .i64 100, .int .i64 50, .str [109, 97, 105, 110], .int .i64 200, .bool true]]], .int .i64 0⟩
theorem ac22 : ∀ lo H, CallOk NC lo ak22.f ak22.args H ak22.v H := known_ok saneNC awh21 (fuel := 5000) (by kernel_rfl) (by kernel_rfl) (by kernel_rfl)
def aw22 : List Known := ak22 :: aw21
theorem awh22 : ∀ k ∈ aw22, ∀ lo H, CallOk NC lo k.f k.args H k.v H := fun k h => (List.mem_cons.1 h).elim (fun e => e ▸ ac22) (awh21 k)
def ak23 : Known := ⟨42, [.ps .unk [[.str [117, 112], .int .i64 0, .int .i64 100, .str [109, 97, 105, 110], .int .i64 20, .bool false], [.str [117, 112], .int .i64 100, .int .i64 50, .str [109, 97, 105, 110], .int .i64 200, .bool true]], .agg [.str [117, 112], .int .i64 110]], .tup [.agg [.str [109, 97, 105, 110], .int .i64 239], .int .i64 0]⟩
theorem ac23 : ∀ lo H, CallOk NC lo ak23.f ak23.args H ak23.v H := known_ok saneNC awh22 (fuel := 5000) (by kernel_rfl) (by kernel_rfl) (by kernel_rfl)
def aw23 : List Known := ak23 :: aw22
theorem awh23 : ∀ k ∈ aw23, ∀ lo H, CallOk NC lo k.f k.args H k.v H := fun k h => (List.mem_cons.1 h).elim (fun e => e ▸ ac23) (awh22 k)
def ak24 : Known := ⟨54, [.ps .unk [[.str [117, 112], .int .i64 0, .int .i64 100, .str [109, 97, 105, 110], .int .i64 20, .bool false], [.str [117, 112], .int .i64 100, .int .i64 50, .str [109, 97, 105, 110], .int .i64 200, .bool true]]], .tup [.ps .unk [[.str [109, 97, 105, 110], .int .i64 20, .int .i64 100, .str [117, 112], .int .i64 0, .bool false], [.str [109, 97, 105, 110], .int .i64 200, .int .i64 50, .str [117, 112], .int .i64 100, .bool true]], .int .i64 0]⟩
theorem ac24 : ∀ lo H, CallOk NC lo ak24.f ak24.args H ak24.v H := known_ok saneNC awh23 (fuel := 5000) (by kernel_rfl) (by kernel_rfl) (by kernel_rfl)
def aw24 : List Known := ak24 :: aw23
theorem awh24 : ∀ k ∈ aw24, ∀ lo H, CallOk NC lo k.f k.args H k.v H := fun k h => (List.mem_cons.1 h).elim (fun e => e ▸ ac24) (awh23 k)
def ak25 : Known := ⟨127, [.agg [.str [109, 97, 105, 110], .int .i64 0, .int .i64 60, .str [111, 108, 100], .int .i64 500, .bool false]], .int .i64 0⟩
theorem ac25 : ∀ lo H, CallOk NC lo ak25.f ak25.args H ak25.v H := known_ok saneNC awh24 (fuel := 5000) (by kernel_rfl) (by kernel_rfl) (by kernel_rfl)
def aw25 : List Known := ak25 :: aw24
theorem awh25 : ∀ k ∈ aw25, ∀ lo H, CallOk NC lo k.f k.args H k.v H := fun k h => (List.mem_cons.1 h).elim (fun e => e ▸ ac25) (awh24 k)
def ak26 : Known := ⟨49, [.ps .unk [[.str [109, 97, 105, 110], .int .i64 0, .int .i64 60, .str [111, 108, 100], .int .i64 500, .bool false]]], .int .i64 0⟩
theorem ac26 : ∀ lo H, CallOk NC lo ak26.f ak26.args H ak26.v H := known_ok saneNC awh25 (fuel := 5000) (by kernel_rfl) (by kernel_rfl) (by kernel_rfl)
def aw26 : List Known := ak26 :: aw25
theorem awh26 : ∀ k ∈ aw26, ∀ lo H, CallOk NC lo k.f k.args H k.v H := fun k h => (List.mem_cons.1 h).elim (fun e => e ▸ ac26) (awh25 k)
def ak27 : Known := ⟨55, [.ps .unk [[.str [117, 112], .int .i64 0, .int .i64 100, .str [109, 97, 105, 110], .int .i64 20, .bool false], [.str [117, 112], .int .i64 100, .int .i64 50, .str [109, 97, 105, 110], .int .i64 200, .bool true]], .ps .unk [[.str [109, 97, 105, 110], .int .i64 0, .int .i64 60, .str [111, 108, 100], .int .i64 500, .bool false]]], .tup [.ps .unk [[.str [117, 112], .int .i64 0, .int .i64 40, .str [111, 108, 100], .int .i64 520, .bool false]], .int .i64 0]⟩
theorem ac27 : ∀ lo H, CallOk NC lo ak27.f ak27.args H ak27.v H := known_ok saneNC awh26 (fuel := 5000) (by kernel_rfl) (by kernel_rfl) (by kernel_rfl)
def aw27 : List Known := ak27 :: aw26
theorem awh27 : ∀ k ∈ aw27, ∀ lo H, CallOk NC lo k.f k.args H k.v H := fun k h => (List.mem_cons.1 h).elim (fun e => e ▸ ac27) (awh26 k)
def ak28 : Known := ⟨110, [.ps .unk [[.str [109, 97, 105, 110], .ps .unk [[.int .i64 300, .int .i64 1000, .bool false]]]]], .int .i64 0⟩
theorem ac28 : ∀ lo H, CallOk NC lo ak28.f ak28.args H ak28.v H := known_ok saneNC awh27 (fuel := 5000) (by kernel_rfl) (by kernel_rfl) (by kernel_rfl)
def aw28 : List Known := ak28 :: aw27
theorem awh28 : ∀ k ∈ aw28, ∀ lo H, CallOk NC lo k.f k.args H k.v H := fun k h => (List.mem_cons.1 h).elim (fun e => e ▸ ac28) (awh27 k)
def ak29 : Known := ⟨29, [.agg [.ps .unk [[.str [109, 97, 105, 110], .ps .unk [[.int .i64 300, .int .i64 1000, .bool false]]]], .ps .unk [], .ps .unk []]], .int .i64 0⟩
theorem ac29 : ∀ lo H, CallOk NC lo ak29.f ak29.args H ak29.v H := known_ok saneNC awh28 (fuel := 5000) (by kernel_rfl) (by kernel_rfl) (by kernel_rfl)
def aw29 : List Known := ak29 :: aw28
theorem awh29 : ∀ k ∈ aw29, ∀ lo H, CallOk NC lo k.f k.args H k.v H := fun k h => (List.mem_cons.1 h).elim (fun e => e ▸ ac29) (awh28 k)
def ak30 : Known := ⟨133, [.agg [.ps .unk [[.str [117, 112], .ps .unk [[.int .i64 100, .int .i64 5000, .bool false], [.int .i64 50, .int .i64 5080, .bool false], [.int .i64 30, .int .i64 5200, .bool true]]], [.str [115, 105, 100, 101], .ps .unk [[.int .i64 40, .int .i64 0, .bool false]]]], .ps .unk [[.str [119], .str [117, 112], .int .i64 120, .str [115, 105, 100, 101], .bool false]], .ps .unk [[.str [97, 114, 99, 104], .str [98, 114, 105, 100, 103, 101], .str [117, 112], .int .i64 130, .int .i64 150]]], .str [117, 112], .agg [.int .i64 0, .int .i64 100]], .int .i64 0⟩
theorem ac30 : ∀ lo H, CallOk NC lo ak30.f ak30.args H ak30.v H := known_ok saneNC awh29 (fuel := 5000) (by kernel_rfl) (by kernel_rfl) (by kernel_rfl)
def aw30 : List Known := ak30 :: aw29
theorem awh30 : ∀ k ∈ aw30, ∀ lo H, CallOk NC lo k.f k.args H k.v H := fun k h => (List.mem_cons.1 h).elim (fun e => e ▸ ac30) (awh29 k)
def ak31 : Known := ⟨133, [.agg [.ps .unk [[.str [117, 112], .ps .unk [[.int .i64 100, .int .i64 5000, .bool false], [.int .i64 50, .int .i64 5080, .bool false], [.int .i64 30, .int .i64 5200, .bool true]]], [.str [115, 105, 100, 101], .ps .unk [[.int .i64 40, .int .i64 0, .bool false]]]], .ps .unk [[.str [119], .str [117, 112], .int .i64 120, .str [115, 105, 100, 101], .bool false]], .ps .unk [[.str [97, 114, 99, 104], .str [98, 114, 105, 100, 103, 101], .str [117, 112], .int .i64 130, .int .i64 150]]], .str [117, 112], .agg [.int .i64 100, .int .i64 150]], .int .i64 0⟩
theorem ac31 : ∀ lo H, CallOk NC lo ak31.f ak31.args H ak31.v H := known_ok saneNC awh30 (fuel := 5000) (by kernel_rfl) (by kernel_rfl) (by kernel_rfl)
def aw31 : List Known := ak31 :: aw30
theorem awh31 : ∀ k ∈ aw31, ∀ lo H, CallOk NC lo k.f k.args H k.v H := fun k h => (List.mem_cons.1 h).elim (fun e => e ▸ ac31) (awh30 k)
def ak32 : Known := ⟨50, [.ps .unk [[.str [117, 112], .int .i64 0, .int .i64 100, .str [109, 97, 105, 110], .int .i64 20, .bool false], [.str [117, 112], .int .i64 100, .int .i64 50, .str [109, 97, 105, 110], .int .i64 200, .bool true]], .agg [.ps .unk [[.str [117, 112], .ps .unk [[.int .i64 100, .int .i64 5000, .bool false], [.int .i64 50, .int .i64 5080, .bool false], [.int .i64 30, .int .i64 5200, .bool true]]], [.str [115, 105, 100, 101], .ps .unk [[.int .i64 40, .int .i64 0, .bool false]]]], .ps .unk [[.str [119], .str [117, 112], .int .i64 120, .str [115, 105, 100, 101], .bool false]], .ps .unk [[.str [97, 114, 99, 104], .str [98, 114, 105, 100, 103, 101], .str [117, 112], .int .i64 130, .int .i64 150]]], .agg [.ps .unk [[.str [109, 97, 105, 110], .ps .unk [[.int .i64 300, .int .i64 1000, .bool false]]]], .ps .unk [], .ps .unk []]], .int .i64 0⟩
theorem ac32 : ∀ lo H, CallOk NC lo ak32.f ak32.args H ak32.v H := known_ok saneNC awh31 (fuel := 5000) (by kernel_rfl) (by kernel_rfl) (by kernel_rfl)
def aw32 : List Known := ak32 :: aw31
theorem awh32 : ∀ k ∈ aw32, ∀ lo H, CallOk NC lo k.f k.args H k.v H := fun k h => (List.mem_cons.1 h).elim (fun e => e ▸ ac32) (awh31 k)
def ak33 : Known := ⟨69, [.ps .unk [[.int .i64 10, .ps .unk [[.str [117, 112], .ps .unk [[.int .i64 100, .int .i64 5000, .bool false], [.int .i64 50, .int .i64 5080, .bool false], [.int .i64 30, .int .i64 5200, .bool true]]], [.str [115, 105, 100, 101], .ps .unk [[.int .i64 40, .int .i64 0, .bool false]]]], .ps .unk [[.str [119], .str [117, 112], .int .i64 120, .str [115, 105, 100, 101], .bool false]], .ps .unk [[.str [97, 114, 99, 104], .str [98, 114, 105, 100, 103, 101], .str [117, 112], .int .i64 130, .int .i64 150]], .ps .unk []], [.int .i64 20, .ps .unk [[.str [109, 97, 105, 110], .ps .unk [[.int .i64 300, .int .i64 1000, .bool false]]]], .ps .unk [], .ps .unk [], .ps .unk [[.str [117, 112], .int .i64 0, .int .i64 100, .str [109, 97, 105, 110], .int .i64 20, .bool false], [.str [117, 112], .int .i64 100, .int .i64 50, .str [109, 97, 105, 110], .int .i64 200, .bool true]]]]], .int .i64 0⟩
theorem ac33 : ∀ lo H, CallOk NC lo ak33.f ak33.args H ak33.v H := known_ok saneNC awh32 (fuel := 5000) (by kernel_rfl) (by kernel_rfl) (by kernel_rfl)
def aw33 : List Known := ak33 :: aw32
theorem awh33 : ∀ k ∈ aw33, ∀ lo H, CallOk NC lo k.f k.args H k.v H := fun k h => (List.mem_cons.1 h).elim (fun e => e ▸ ac33) (awh32 k)
def ak34 : Known := ⟨65, [.ps .unk [[.int .i64 10, .ps .unk [[.str [117, 112], .ps .unk [[.int .i64 100, .int .i64 5000, .bool false], [.int .i64 50, .int .i64 5080, .bool false], [.int .i64 30, .int .i64 5200, .bool true]]], [.str [115, 105, 100, 101], .ps .unk [[.int .i64 40, .int .i64 0, .bool false]]]], .ps .unk [[.str [119], .str [117, 112], .int .i64 120, .str [115, 105, 100, 101], .bool false]], .ps .unk [[.str [97, 114, 99, 104], .str [98, 114, 105, 100, 103, 101], .str [117, 112], .int .i64 130, .int .i64 150]], .ps .unk []], [.int .i64 20, .ps .unk [[.str [109, 97, 105, 110], .ps .unk [[.int .i64 300, .int .i64 1000, .bool false]]]], .ps .unk [], .ps .unk [], .ps .unk [[.str [117, 112], .int .i64 0, .int .i64 100, .str [109, 97, 105, 110], .int .i64 20, .bool false], [.str [117, 112], .int .i64 100, .int .i64 50, .str [109, 97, 105, 110], .int .i64 200, .bool true]]]], .int .i64 15, .agg [.str [117, 112], .int .i64 1, .int .i64 5090], .int .i64 25], .tup [.agg [.str [109, 97, 105, 110], .int .i64 0, .int .i64 1239], .int .i64 0]⟩
theorem ac34 : ∀ lo H, CallOk NC lo ak34.f ak34.args H ak34.v H := known_ok saneNC awh33 (fuel := 5000) (by kernel_rfl) (by kernel_rfl) (by kernel_rfl)
def aw34 : List Known := ak34 :: aw33
theorem awh34 : ∀ k ∈ aw34, ∀ lo H, CallOk NC lo k.f k.args H k.v H := fun k h => (List.mem_cons.1 h).elim (fun e => e ▸ ac34) (awh33 k)
def ak35 : Known := ⟨65, [.ps .unk [[.int .i64 10, .ps .unk [[.str [117, 112], .ps .unk [[.int .i64 100, .int .i64 5000, .bool false], [.int .i64 50, .int .i64 5080, .bool false], [.int .i64 30, .int .i64 5200, .bool true]]], [.str [115, 105, 100, 101], .ps .unk [[.int .i64 40, .int .i64 0, .bool false]]]], .ps .unk [[.str [119], .str [117, 112], .int .i64 120, .str [115, 105, 100, 101], .bool false]], .ps .unk [[.str [97, 114, 99, 104], .str [98, 114, 105, 100, 103, 101], .str [117, 112], .int .i64 130, .int .i64 150]], .ps .unk []], [.int .i64 20, .ps .unk [[.str [109, 97, 105, 110], .ps .unk [[.int .i64 300, .int .i64 1000, .bool false]]]], .ps .unk [], .ps .unk [], .ps .unk [[.str [117, 112], .int .i64 0, .int .i64 100, .str [109, 97, 105, 110], .int .i64 20, .bool false], [.str [117, 112], .int .i64 100, .int .i64 50, .str [109, 97, 105, 110], .int .i64 200, .bool true]]]], .int .i64 25, .agg [.str [109, 97, 105, 110], .int .i64 0, .int .i64 1239], .int .i64 10], .tup [.agg [.str [117, 112], .int .i64 1, .int .i64 5090], .int .i64 0]⟩
theorem ac35 : ∀ lo H, CallOk NC lo ak35.f ak35.args H ak35.v H := known_ok saneNC awh34 (fuel := 5000) (by kernel_rfl) (by kernel_rfl) (by kernel_rfl)
def aw35 : List Known := ak35 :: aw34
theorem awh35 : ∀ k ∈ aw35, ∀ lo H, CallOk NC lo k.f k.args H k.v H := fun k h => (List.mem_cons.1 h).elim (fun e => e ▸ ac35) (awh34 k)
def ak36 : Known := ⟨102, [.agg [.ps .unk [[.str [117, 112], .ps .unk [[.int .i64 100, .int .i64 5000, .bool false], [.int .i64 50, .int .i64 5080, .bool false], [.int .i64 30, .int .i64 5200, .bool true]]], [.str [115, 105, 100, 101], .ps .unk [[.int .i64 40, .int .i64 0, .bool false]]]], .ps .unk [[.str [119], .str [117, 112], .int .i64 120, .str [115, 105, 100, 101], .bool false]], .ps .unk [[.str [97, 114, 99, 104], .str [98, 114, 105, 100, 103, 101], .str [117, 112], .int .i64 130, .int .i64 150]]], .agg [.str [117, 112], .int .i64 2, .int .i64 5171]], .tup [.agg [.str [117, 112], .int .i64 179], .int .i64 0]⟩
theorem ac36 : ∀ lo H, CallOk NC lo ak36.f ak36.args H ak36.v H := known_ok saneNC awh35 (fuel := 5000) (by kernel_rfl) (by kernel_rfl) (by kernel_rfl)
def aw36 : List Known := ak36 :: aw35
theorem awh36 : ∀ k ∈ aw36, ∀ lo H, CallOk NC lo k.f k.args H k.v H := fun k h => (List.mem_cons.1 h).elim (fun e => e ▸ ac36) (awh35 k)
def ak37 : Known := ⟨65, [.ps .unk [[.int .i64 10, .ps .unk [[.str [117, 112], .ps .unk [[.int .i64 100, .int .i64 5000, .bool false], [.int .i64 50, .int .i64 5080, .bool false], [.int .i64 30, .int .i64 5200, .bool true]]], [.str [115, 105, 100, 101], .ps .unk [[.int .i64 40, .int .i64 0, .bool false]]]], .ps .unk [[.str [119], .str [117, 112], .int .i64 120, .str [115, 105, 100, 101], .bool false]], .ps .unk [[.str [97, 114, 99, 104], .str [98, 114, 105, 100, 103, 101], .str [117, 112], .int .i64 130, .int .i64 150]], .ps .unk []], [.int .i64 20, .ps .unk [[.str [109, 97, 105, 110], .ps .unk [[.int .i64 300, .int .i64 1000, .bool false]]]], .ps .unk [], .ps .unk [], .ps .unk [[.str [117, 112], .int .i64 0, .int .i64 100, .str [109, 97, 105, 110], .int .i64 20, .bool false], [.str [117, 112], .int .i64 100, .int .i64 50, .str [109, 97, 105, 110], .int .i64 200, .bool true]]]], .int .i64 15, .agg [.str [117, 112], .int .i64 2, .int .i64 5171], .int .i64 25], .tup [.agg [.str [], .int .i64 0, .int .i64 0], .int .i64 7]⟩
theorem ac37 : ∀ lo H, CallOk NC lo ak37.f ak37.args H ak37.v H := known_ok saneNC awh36 (fuel := 5000) (by kernel_rfl) (by kernel_rfl) (by kernel_rfl)
def aw37 : List Known := ak37 :: aw36
theorem awh37 : ∀ k ∈ aw37, ∀ lo H, CallOk NC lo k.f k.args H k.v H := fun k h => (List.mem_cons.1 h).elim (fun e => e ▸ ac37) (awh36 k)
def ak38 : Known := ⟨87, [.agg [.ps .unk [[.str [117, 112], .ps .unk [[.int .i64 100, .int .i64 5000, .bool false], [.int .i64 50, .int .i64 5080, .bool false], [.int .i64 30, .int .i64 5200, .bool true]]], [.str [115, 105, 100, 101], .ps .unk [[.int .i64 40, .int .i64 0, .bool false]]]], .ps .unk [[.str [119], .str [117, 112], .int .i64 120, .str [115, 105, 100, 101], .bool false]], .ps .unk [[.str [97, 114, 99, 104], .str [98, 114, 105, 100, 103, 101], .str [117, 112], .int .i64 130, .int .i64 150]]]], .tup [.str [108, 105, 110, 101, 32, 117, 112, 10, 112, 105, 101, 99, 101, 32, 49, 48, 48, 32, 53, 48, 48, 48, 32, 117, 112, 10, 112, 105, 101, 99, 101, 32, 53, 48, 32, 53, 48, 56, 48, 32, 117, 112, 10, 112, 105, 101, 99, 101, 32, 51, 48, 32, 53, 50, 48, 48, 32, 100, 111, 119, 110, 10, 108, 105, 110, 101, 32, 115, 105, 100, 101, 10, 112, 105, 101, 99, 101, 32, 52, 48, 32, 48, 32, 117, 112, 10, 115, 119, 105, 116, 99, 104, 32, 119, 32, 117, 112, 32, 49, 50, 48, 32, 115, 105, 100, 101, 32, 102, 105, 114, 115, 116, 10, 115, 116, 114, 117, 99, 116, 117, 114, 101, 32, 97, 114, 99, 104, 32, 98, 114, 105, 100, 103, 101, 32, 117, 112, 32, 49, 51, 48, 32, 49, 53, 48, 10], .int .i64 0]⟩
theorem ac38 : ∀ lo H, CallOk NC lo ak38.f ak38.args H ak38.v H := known_ok saneNC awh37 (fuel := 5000) (by kernel_rfl) (by kernel_rfl) (by kernel_rfl)
def aw38 : List Known := ak38 :: aw37
theorem awh38 : ∀ k ∈ aw38, ∀ lo H, CallOk NC lo k.f k.args H k.v H := fun k h => (List.mem_cons.1 h).elim (fun e => e ▸ ac38) (awh37 k)
def ak39 : Known := ⟨16, [], .bool true⟩
theorem ac39 : ∀ lo H, CallOk NC lo ak39.f ak39.args H ak39.v H := known_ok saneNC awh38 (fuel := 5000) (by kernel_rfl) (by kernel_rfl) (by kernel_rfl)
end Go.Sim

/-
The law: NetworkPlaces returns true.
-/
namespace Go.Sim
open Go Go.Proofs
set_option maxRecDepth 100000
set_option maxHeartbeats 16000000
noncomputable def p16 : List AV → Option AV := fun l => match l with
  | [] => some (.bool true)
  | _ => none
theorem pok16 : ∀ args v, p16 args = some v → ∀ lo H, CallOk NC lo 16 args H v H := by
  intro args v h
  cases args with
  | nil =>
    have : v = .bool true := by simpa [p16] using h.symm
    subst this
    exact ac39
  | cons a r => simp [p16] at h
theorem e16 : p16 [] = some (.bool true) := rfl
noncomputable def p17 : List AV → Option AV := primOf (α := Net) (fun x => [.agg x.cells]) (fun _ => True) (fun x => .bool (shortN x))
theorem pok17 : ∀ args v, p17 args = some v → ∀ lo H, CallOk NC lo 17 args H v H := by
  intro args v h
  obtain ⟨x, rfl, hp, rfl⟩ := primOf_inv h
  clear h
  revert x
  intro x; exact c17 x
theorem pe17 (x : Net) (hp : (fun _ => True) x) : p17 ((fun x => [.agg x.cells]) x) = some ((fun x => .bool (shortN x)) x) := primOf_enc (by intro x y h; exact cells1_inj x y h) x hp
noncomputable def p18 : List AV → Option AV := primOf (α := Net × List Nat) (fun x => [.agg x.1.cells, .str x.2]) (fun x => x.1.Ok) (fun x => .tup (if netP x.1 = 0 then (if lnB x.1.lines x.2 then [i64 (sumW (lnOf x.1.lines x.2).ps 0), i64 0] else [i64 0, i64 10]) else [i64 0, i64 (netP x.1)]))
theorem pok18 : ∀ args v, p18 args = some v → ∀ lo H, CallOk NC lo 18 args H v H := by
  intro args v h
  obtain ⟨x, rfl, hp, rfl⟩ := primOf_inv h
  clear h
  revert x
  intro x hx; exact c18 x.1 x.2 hx
theorem pe18 (x : Net × List Nat) (hp : (fun x => x.1.Ok) x) : p18 ((fun x => [.agg x.1.cells, .str x.2]) x) = some ((fun x => .tup (if netP x.1 = 0 then (if lnB x.1.lines x.2 then [i64 (sumW (lnOf x.1.lines x.2).ps 0), i64 0] else [i64 0, i64 10]) else [i64 0, i64 (netP x.1)])) x) := primOf_enc (by intro x y h; (obtain ⟨a, b⟩ := x; obtain ⟨c, d⟩ := y; simp only [List.cons.injEq, AV.agg.injEq, AV.str.injEq, true_and, and_true] at h; obtain ⟨h1, rfl⟩ := h; rw [Net.cells_inj _ _ h1])) x hp
noncomputable def p19 : List AV → Option AV := primOf (α := Net) (fun x => [.agg x.cells]) (fun x => x.fits ∧ x.sws.length ≤ maxRows ∧ x.sts.length ≤ maxRows) (fun x => .agg x.cells)
theorem pok19 : ∀ args v, p19 args = some v → ∀ lo H, CallOk NC lo 19 args H v H := by
  intro args v h
  obtain ⟨x, rfl, hp, rfl⟩ := primOf_inv h
  clear h
  revert x
  intro x hx; exact c19 x hx.1 hx.2.1 hx.2.2
theorem pe19 (x : Net) (hp : (fun x => x.fits ∧ x.sws.length ≤ maxRows ∧ x.sts.length ≤ maxRows) x) : p19 ((fun x => [.agg x.cells]) x) = some ((fun x => .agg x.cells) x) := primOf_enc (by intro x y h; exact cells1_inj x y h) x hp
noncomputable def p20 : List AV → Option AV := primOf (α := Net × List Nat × Int) (fun x => [.agg x.1.cells, .agg [.str x.2.1, i64 x.2.2]]) (fun x => x.1.Ok) (fun x => .tup (if netP x.1 = 0 then (if placeP x.1 x.2.1 x.2.2 = 0 then [.agg [.str x.2.1, i64 (addrK (lnOf x.1.lines x.2.1) x.2.2 (lnOf x.1.lines x.2.1).ps.length).1, i64 (addrK (lnOf x.1.lines x.2.1) x.2.2 (lnOf x.1.lines x.2.1).ps.length).2], i64 0] else [noAddr, i64 (placeP x.1 x.2.1 x.2.2)]) else [noAddr, i64 (netP x.1)]))
theorem pok20 : ∀ args v, p20 args = some v → ∀ lo H, CallOk NC lo 20 args H v H := by
  intro args v h
  obtain ⟨x, rfl, hp, rfl⟩ := primOf_inv h
  clear h
  revert x
  intro x hx; exact c20 x.1 x.2.1 x.2.2 hx
theorem pe20 (x : Net × List Nat × Int) (hp : (fun x => x.1.Ok) x) : p20 ((fun x => [.agg x.1.cells, .agg [.str x.2.1, i64 x.2.2]]) x) = some ((fun x => .tup (if netP x.1 = 0 then (if placeP x.1 x.2.1 x.2.2 = 0 then [.agg [.str x.2.1, i64 (addrK (lnOf x.1.lines x.2.1) x.2.2 (lnOf x.1.lines x.2.1).ps.length).1, i64 (addrK (lnOf x.1.lines x.2.1) x.2.2 (lnOf x.1.lines x.2.1).ps.length).2], i64 0] else [noAddr, i64 (placeP x.1 x.2.1 x.2.2)]) else [noAddr, i64 (netP x.1)])) x) := primOf_enc (by intro x y h; (obtain ⟨a, b, c⟩ := x; obtain ⟨d, e, f⟩ := y; simp only [List.cons.injEq, AV.agg.injEq, AV.str.injEq, AV.int.injEq, true_and, and_true] at h; obtain ⟨h1, rfl, rfl⟩ := h; rw [Net.cells_inj _ _ h1])) x hp
noncomputable def p21 : List AV → Option AV := primOf (α := Net × List Nat × Int × Int) (fun x => [.agg x.1.cells, .agg [.str x.2.1, i64 x.2.2.1, i64 x.2.2.2]]) (fun x => x.1.Ok) (fun x => .tup (if netP x.1 = 0 then placedP x.1 x.2.1 x.2.2.1 x.2.2.2 else [noPlace, i64 (netP x.1)]))
theorem pok21 : ∀ args v, p21 args = some v → ∀ lo H, CallOk NC lo 21 args H v H := by
  intro args v h
  obtain ⟨x, rfl, hp, rfl⟩ := primOf_inv h
  clear h
  revert x
  intro x hx; exact c21 x.1 x.2.1 x.2.2.1 x.2.2.2 hx
theorem pe21 (x : Net × List Nat × Int × Int) (hp : (fun x => x.1.Ok) x) : p21 ((fun x => [.agg x.1.cells, .agg [.str x.2.1, i64 x.2.2.1, i64 x.2.2.2]]) x) = some ((fun x => .tup (if netP x.1 = 0 then placedP x.1 x.2.1 x.2.2.1 x.2.2.2 else [noPlace, i64 (netP x.1)])) x) := primOf_enc (by intro x y h; (obtain ⟨a, b, c, d⟩ := x; obtain ⟨a', b', c', d'⟩ := y; simp only [List.cons.injEq, AV.agg.injEq, AV.str.injEq, AV.int.injEq, true_and, and_true] at h; obtain ⟨h1, rfl, rfl, rfl⟩ := h; rw [Net.cells_inj _ _ h1])) x hp
noncomputable def p22 : List AV → Option AV := primOf (α := Net) (fun x => [.agg x.cells]) (fun x => x.fits ∧ x.sws.length ≤ maxRows ∧ x.sts.length ≤ maxRows) (fun x => i64 (netR x))
theorem pok22 : ∀ args v, p22 args = some v → ∀ lo H, CallOk NC lo 22 args H v H := by
  intro args v h
  obtain ⟨x, rfl, hp, rfl⟩ := primOf_inv h
  clear h
  revert x
  intro x hx; exact c22 x hx.1 hx.2.1 hx.2.2
theorem pe22 (x : Net) (hp : (fun x => x.fits ∧ x.sws.length ≤ maxRows ∧ x.sts.length ≤ maxRows) x) : p22 ((fun x => [.agg x.cells]) x) = some ((fun x => i64 (netR x)) x) := primOf_enc (by intro x y h; exact cells1_inj x y h) x hp
noncomputable def p23 : List AV → Option AV := primOf (α := Net × List Nat) (fun x => [.agg x.1.cells, .str x.2]) (fun x => x.1.fits) (fun x => i64 (lineI x.1.lines x.2))
theorem pok23 : ∀ args v, p23 args = some v → ∀ lo H, CallOk NC lo 23 args H v H := by
  intro args v h
  obtain ⟨x, rfl, hp, rfl⟩ := primOf_inv h
  clear h
  revert x
  intro x hx; exact c23 x.1 x.2 hx
theorem pe23 (x : Net × List Nat) (hp : (fun x => x.1.fits) x) : p23 ((fun x => [.agg x.1.cells, .str x.2]) x) = some ((fun x => i64 (lineI x.1.lines x.2)) x) := primOf_enc (by intro x y h; (obtain ⟨a, b⟩ := x; obtain ⟨c, d⟩ := y; simp only [List.cons.injEq, AV.agg.injEq, AV.str.injEq, true_and, and_true] at h; obtain ⟨h1, rfl⟩ := h; rw [Net.cells_inj _ _ h1])) x hp
noncomputable def p24 : List AV → Option AV := primOf (α := Net × List Nat × Int) (fun x => [.agg x.1.cells, .agg [.str x.2.1, i64 x.2.2]]) (fun x => x.1.fits) (fun x => i64 (hasI x.1.lines x.2.1 x.2.2))
theorem pok24 : ∀ args v, p24 args = some v → ∀ lo H, CallOk NC lo 24 args H v H := by
  intro args v h
  obtain ⟨x, rfl, hp, rfl⟩ := primOf_inv h
  clear h
  revert x
  intro x hx; exact c24 x.1 x.2.1 x.2.2 hx
theorem pe24 (x : Net × List Nat × Int) (hp : (fun x => x.1.fits) x) : p24 ((fun x => [.agg x.1.cells, .agg [.str x.2.1, i64 x.2.2]]) x) = some ((fun x => i64 (hasI x.1.lines x.2.1 x.2.2)) x) := primOf_enc (by intro x y h; (obtain ⟨a, b, c⟩ := x; obtain ⟨d, e, f⟩ := y; simp only [List.cons.injEq, AV.agg.injEq, AV.str.injEq, AV.int.injEq, true_and, and_true] at h; obtain ⟨h1, rfl, rfl⟩ := h; rw [Net.cells_inj _ _ h1])) x hp
noncomputable def p25 : List AV → Option AV := primOf (α := Net × List Nat × Int × Int) (fun x => [.agg x.1.cells, .agg [.str x.2.1, i64 x.2.2.1, i64 x.2.2.2]]) (fun x => x.1.fits) (fun x => .tup (placedR x.1 x.2.1 x.2.2.1 x.2.2.2))
theorem pok25 : ∀ args v, p25 args = some v → ∀ lo H, CallOk NC lo 25 args H v H := by
  intro args v h
  obtain ⟨x, rfl, hp, rfl⟩ := primOf_inv h
  clear h
  revert x
  intro x hx; exact c25 x.1 x.2.1 x.2.2.1 x.2.2.2 hx
theorem pe25 (x : Net × List Nat × Int × Int) (hp : (fun x => x.1.fits) x) : p25 ((fun x => [.agg x.1.cells, .agg [.str x.2.1, i64 x.2.2.1, i64 x.2.2.2]]) x) = some ((fun x => .tup (placedR x.1 x.2.1 x.2.2.1 x.2.2.2)) x) := primOf_enc (by intro x y h; (obtain ⟨a, b, c, d⟩ := x; obtain ⟨a', b', c', d'⟩ := y; simp only [List.cons.injEq, AV.agg.injEq, AV.str.injEq, AV.int.injEq, true_and, and_true] at h; obtain ⟨h1, rfl, rfl, rfl⟩ := h; rw [Net.cells_inj _ _ h1])) x hp
noncomputable def p28 : List AV → Option AV := primOf (α := Net × List Nat × Int) (fun x => [.agg x.1.cells, .agg [.str x.2.1, i64 x.2.2]]) (fun x => (x.1.fits ∧ ∃ i, findL x.1.lines x.2.1 = some i)) (fun x => addrR (lnOf x.1.lines x.2.1) x.2.1 x.2.2)
theorem pok28 : ∀ args v, p28 args = some v → ∀ lo H, CallOk NC lo 28 args H v H := by
  intro args v h
  obtain ⟨x, rfl, hp, rfl⟩ := primOf_inv h
  clear h
  revert x
  (intro x hx; obtain ⟨i, hi⟩ := hx.2; exact c28 x.1 x.2.1 x.2.2 hx.1 hi)
theorem pe28 (x : Net × List Nat × Int) (hp : (fun x => (x.1.fits ∧ ∃ i, findL x.1.lines x.2.1 = some i)) x) : p28 ((fun x => [.agg x.1.cells, .agg [.str x.2.1, i64 x.2.2]]) x) = some ((fun x => addrR (lnOf x.1.lines x.2.1) x.2.1 x.2.2) x) := primOf_enc (by intro x y h; (obtain ⟨a, b, c⟩ := x; obtain ⟨d, e, f⟩ := y; simp only [List.cons.injEq, AV.agg.injEq, AV.str.injEq, AV.int.injEq, true_and, and_true] at h; obtain ⟨h1, rfl, rfl⟩ := h; rw [Net.cells_inj _ _ h1])) x hp
noncomputable def p30 : List AV → Option AV := primOf (α := Int × Int × Int × Int) (fun x => [i64 x.1, i64 x.2.1, i64 x.2.2.1, i64 x.2.2.2]) (fun _ => True) (fun x => .bool (numB x.1 x.2.1 x.2.2.1 x.2.2.2))
theorem pok30 : ∀ args v, p30 args = some v → ∀ lo H, CallOk NC lo 30 args H v H := by
  intro args v h
  obtain ⟨x, rfl, hp, rfl⟩ := primOf_inv h
  clear h
  revert x
  intro x; exact c30 x.1 x.2.1 x.2.2.1 x.2.2.2
theorem pe30 (x : Int × Int × Int × Int) (hp : (fun _ => True) x) : p30 ((fun x => [i64 x.1, i64 x.2.1, i64 x.2.2.1, i64 x.2.2.2]) x) = some ((fun x => .bool (numB x.1 x.2.1 x.2.2.1 x.2.2.2)) x) := primOf_enc (by intro x y h; (obtain ⟨a, b, c, d⟩ := x; obtain ⟨a', b', c', d'⟩ := y; simp at h; obtain ⟨rfl, rfl, rfl, rfl⟩ := h; rfl)) x hp
theorem e30 (a b c d : Int) : p30 [.int .i64 a, .int .i64 b, .int .i64 c, .int .i64 d] = some (.bool (numB a b c d)) := pe30 (a, b, c, d) trivial
noncomputable def PPO : FuncId → Option (List AV → Option AV) := addPrim 30 p30 (addPrim 28 p28 (addPrim 25 p25 (addPrim 24 p24 (addPrim 23 p23 (addPrim 22 p22 (addPrim 21 p21 (addPrim 20 p20 (addPrim 19 p19 (addPrim 18 p18 (addPrim 17 p17 (addPrim 16 p16 (PPN))))))))))))
theorem primsO : PrimsOk NC PPO := primsOk_add (primsOk_add (primsOk_add (primsOk_add (primsOk_add (primsOk_add (primsOk_add (primsOk_add (primsOk_add (primsOk_add (primsOk_add (primsOk_add (primsN) (by kernel_rfl) (by kernel_rfl) pok16) (by kernel_rfl) (by kernel_rfl) pok17) (by kernel_rfl) (by kernel_rfl) pok18) (by kernel_rfl) (by kernel_rfl) pok19) (by kernel_rfl) (by kernel_rfl) pok20) (by kernel_rfl) (by kernel_rfl) pok21) (by kernel_rfl) (by kernel_rfl) pok22) (by kernel_rfl) (by kernel_rfl) pok23) (by kernel_rfl) (by kernel_rfl) pok24) (by kernel_rfl) (by kernel_rfl) pok25) (by kernel_rfl) (by kernel_rfl) pok28) (by kernel_rfl) (by kernel_rfl) pok30
theorem enO_48 : En PPO 48 p48 := enter_prim (by rfl) (by kernel_rfl)
theorem enO_121 : En PPO 121 p121 := enter_prim (by rfl) (by kernel_rfl)
theorem enO_34 : En PPO 34 p34 := enter_prim (by rfl) (by kernel_rfl)
theorem enO_111 : En PPO 111 p111 := enter_prim (by rfl) (by kernel_rfl)
theorem enO_26 : En PPO 26 p26 := enter_prim (by rfl) (by kernel_rfl)
theorem enO_178 : En PPO 178 p178 := enter_prim (by rfl) (by kernel_rfl)
theorem enO_109 : En PPO 109 p109 := enter_prim (by rfl) (by kernel_rfl)
theorem enO_108 : En PPO 108 p108 := enter_prim (by rfl) (by kernel_rfl)
theorem enO_27 : En PPO 27 p27 := enter_prim (by rfl) (by kernel_rfl)
theorem enO_97 : En PPO 97 p97 := enter_prim (by rfl) (by kernel_rfl)
theorem enO_122 : En PPO 122 p122 := enter_prim (by rfl) (by kernel_rfl)
theorem enO_182 : En PPO 182 p182 := enter_prim (by rfl) (by kernel_rfl)
theorem enO_35 : En PPO 35 p35 := enter_prim (by rfl) (by kernel_rfl)
theorem enO_115 : En PPO 115 p115 := enter_prim (by rfl) (by kernel_rfl)
theorem enO_36 : En PPO 36 p36 := enter_prim (by rfl) (by kernel_rfl)
theorem enO_120 : En PPO 120 p120 := enter_prim (by rfl) (by kernel_rfl)
theorem enO_106 : En PPO 106 p106 := enter_prim (by rfl) (by kernel_rfl)
theorem enO_179 : En PPO 179 p179 := enter_prim (by rfl) (by kernel_rfl)
theorem enO_126 : En PPO 126 p126 := enter_prim (by rfl) (by kernel_rfl)
theorem enO_103 : En PPO 103 p103 := enter_prim (by rfl) (by kernel_rfl)
theorem enO_104 : En PPO 104 p104 := enter_prim (by rfl) (by kernel_rfl)
theorem enO_105 : En PPO 105 p105 := enter_prim (by rfl) (by kernel_rfl)
theorem enO_99 : En PPO 99 p99 := enter_prim (by rfl) (by kernel_rfl)
theorem enO_226 : En PPO 226 p226 := enter_prim (by rfl) (by kernel_rfl)
theorem enO_134 : En PPO 134 p134 := enter_prim (by rfl) (by kernel_rfl)
theorem enO_177 : En PPO 177 p177 := enter_prim (by rfl) (by kernel_rfl)
theorem enO_180 : En PPO 180 p180 := enter_prim (by rfl) (by kernel_rfl)
theorem enO_98 : En PPO 98 p98 := enter_prim (by rfl) (by kernel_rfl)
theorem enO_181 : En PPO 181 p181 := enter_prim (by rfl) (by kernel_rfl)
theorem enO_183 : En PPO 183 p183 := enter_prim (by rfl) (by kernel_rfl)
theorem enO_110 : En PPO 110 p110 := enter_prim (by rfl) (by kernel_rfl)
theorem enO_112 : En PPO 112 p112 := enter_prim (by rfl) (by kernel_rfl)
theorem enO_113 : En PPO 113 p113 := enter_prim (by rfl) (by kernel_rfl)
theorem enO_29 : En PPO 29 p29 := enter_prim (by rfl) (by kernel_rfl)
theorem enO_100 : En PPO 100 p100 := enter_prim (by rfl) (by kernel_rfl)
theorem enO_101 : En PPO 101 p101 := enter_prim (by rfl) (by kernel_rfl)
theorem enO_102 : En PPO 102 p102 := enter_prim (by rfl) (by kernel_rfl)
theorem enO_107 : En PPO 107 p107 := enter_prim (by rfl) (by kernel_rfl)
theorem enO_16 : En PPO 16 p16 := enter_prim (by rfl) (by kernel_rfl)
theorem enO_17 : En PPO 17 p17 := enter_prim (by rfl) (by kernel_rfl)
theorem enO_18 : En PPO 18 p18 := enter_prim (by rfl) (by kernel_rfl)
theorem enO_19 : En PPO 19 p19 := enter_prim (by rfl) (by kernel_rfl)
theorem enO_20 : En PPO 20 p20 := enter_prim (by rfl) (by kernel_rfl)
theorem enO_21 : En PPO 21 p21 := enter_prim (by rfl) (by kernel_rfl)
theorem enO_22 : En PPO 22 p22 := enter_prim (by rfl) (by kernel_rfl)
theorem enO_23 : En PPO 23 p23 := enter_prim (by rfl) (by kernel_rfl)
theorem enO_24 : En PPO 24 p24 := enter_prim (by rfl) (by kernel_rfl)
theorem enO_25 : En PPO 25 p25 := enter_prim (by rfl) (by kernel_rfl)
theorem enO_28 : En PPO 28 p28 := enter_prim (by rfl) (by kernel_rfl)
theorem enO_30 : En PPO 30 p30 := enter_prim (by rfl) (by kernel_rfl)
attribute [go_sem ↓] enO_48 enO_121 enO_34 enO_111 enO_26 enO_178 enO_109 enO_108 enO_27 enO_97 enO_122 enO_182
attribute [go_sem ↓] enO_35 enO_115 enO_36 enO_120 enO_106 enO_179 enO_126 enO_103 enO_104 enO_105 enO_99 enO_226
attribute [go_sem ↓] enO_134 enO_177 enO_180 enO_98 enO_181 enO_183 enO_110 enO_112 enO_113 enO_29 enO_100 enO_101
attribute [go_sem ↓] enO_102 enO_107 enO_16 enO_17 enO_18 enO_19 enO_20 enO_21 enO_22 enO_23 enO_24 enO_25
attribute [go_sem ↓] enO_28 enO_30
theorem ety30 : eqType NC.P 100 30 = true := by kernel_rfl
theorem ety28 : eqType NC.P 100 28 = true := by kernel_rfl
theorem aeq30' (a a' : List Nat) (b b' c c' : Int) : aeqT NC.P 100 30 (.agg [.str a, .int .i64 b, .int .i64 c]) (.agg [.str a', .int .i64 b', .int .i64 c']) =
    (match some (beqL a a') with
    | some true => (match some (eqI b b') with
      | some true => (match some (eqI c c') with
        | some true => some true
        | some false => some false
        | none => none)
      | some false => some false
      | none => none)
    | some false => some false
    | none => none) := by kernel_rfl
theorem aeq28' (a a' : List Nat) (b b' : Int) : aeqT NC.P 100 28 (.agg [.str a, .int .i64 b]) (.agg [.str a', .int .i64 b']) =
    (match some (beqL a a') with
    | some true => (match some (eqI b b') with
      | some true => some true
      | some false => some false
      | none => none)
    | some false => some false
    | none => none) := by kernel_rfl
theorem beqL_self (a : List Nat) : beqL a a = true := (beqL_iff a a).2 rfl
theorem eqI_self (a : Int) : eqI a a = true := by rw [eqI_iff]; simp
theorem aeq30 (a : List Nat) (b c : Int) : aeqT NC.P 100 30 (.agg [.str a, .int .i64 b, .int .i64 c]) (.agg [.str a, .int .i64 b, .int .i64 c]) = some true := by
  rw [aeq30', beqL_self, eqI_self, eqI_self]
theorem aeq28 (a : List Nat) (b : Int) : aeqT NC.P 100 28 (.agg [.str a, .int .i64 b]) (.agg [.str a, .int .i64 b]) = some true := by
  rw [aeq28', beqL_self, eqI_self]
theorem short_ok {n : Net} (h : shortN n = true) : n.Ok := by
  unfold shortN at h
  simp only [Bool.and_eq_true, Bool.not_eq_true', Bool.or_eq_false_iff, decide_eq_false_iff_not, List.all_eq_true] at h
  obtain ⟨⟨⟨⟨⟨h1, h2⟩, h3⟩, h4⟩, h5⟩, h6⟩ := h
  have short : ∀ s : List Nat, shortB s = true → s.length ≤ maxRows := by
    intro s hs
    unfold shortB at hs
    simp only [Bool.not_eq_true', decide_eq_false_iff_not] at hs
    unfold maxRows; omega
  refine ⟨by unfold maxRows; omega, fun l hl => ?_, by unfold maxRows; omega, fun s hs => ?_, by unfold maxRows; omega, fun s hs => ?_⟩
  · have := h4 l hl
    unfold shortLn at this
    simp only [Bool.and_eq_true, Bool.not_eq_true', decide_eq_false_iff_not] at this
    exact ⟨short _ this.1, by unfold maxRows; omega⟩
  · have := h5 s hs
    unfold shortSw at this
    simp only [Bool.and_eq_true] at this
    exact short _ this.1.1
  · have := h6 s hs
    unfold shortSt at this
    simp only [Bool.and_eq_true] at this
    exact ⟨short _ this.1.1, short _ this.1.2⟩
theorem num_bad {e : Int} (h : (e = 0) = False) : numB 0 e e 0 = true := by simp [numB, h]
theorem num_good (m : Int) : numB m 0 0 m = true := by simp [numB]
theorem c3 (n : Net) (s : List Nat) (m : Int) (a : List Nat) (ap post : Int) : ∀ lo H, CallOk NC lo 3 [.agg n.cells, .agg [.str s, i64 m], .agg [.str a, i64 ap, i64 post]] H (.bool true) H := by
  refine contract saneNC primsO (fn := Tryz.f3) (by kernel_rfl) Tryz.func3 rfl rfl (by rfl) (by rfl) ?_
  have e17 := pe17 n trivial
  simp only [Net.cells] at e17
  cases hS : shortN n with
  | false =>
    simp only [hS] at e17
    simp only [go_sem, reduceIte, Nat.reduceEqDiff, Nat.reduceAdd, Nat.reduceMul, Nat.reduceSub, Nat.reduceLeDiff, Nat.reduceLT, Nat.reduceBEq, reduceCtorEq, Net.cells, e16, e17]
  | true =>
    simp only [hS] at e17
    rcases Classical.propComplete ((40 : Int) < s.length) with q1 | q1
    · simp only [go_sem, reduceIte, Nat.reduceEqDiff, Nat.reduceAdd, Nat.reduceMul, Nat.reduceSub, Nat.reduceLeDiff, Nat.reduceLT, Nat.reduceBEq, reduceCtorEq, Net.cells, e16, e17, q1]
    rcases Classical.propComplete ((40 : Int) < a.length) with q2 | q2
    · simp only [go_sem, reduceIte, Nat.reduceEqDiff, Nat.reduceAdd, Nat.reduceMul, Nat.reduceSub, Nat.reduceLeDiff, Nat.reduceLT, Nat.reduceBEq, reduceCtorEq, Net.cells, e16, e17, q1, q2]
    have hok := short_ok hS
    have e18 := pe18 (n, s) hok
    have e19 := pe19 n ⟨hok.fits, hok.sws, hok.sts⟩
    have e20 := pe20 (n, s, m) hok
    have e21 := pe21 (n, a, ap, post) hok
    have e22 := pe22 n ⟨hok.fits, hok.sws, hok.sts⟩
    have e23 := pe23 (n, s) hok.fits
    have e24 := pe24 (n, s, m) hok.fits
    have e25 := pe25 (n, a, ap, post) hok.fits
    have e27 := pe27 (n, s) hok.lines
    have e29 := pe29 n hok
    simp only [Net.cells, i64, net_same, place_same] at e18 e19 e20 e21 e22 e23 e24 e25 e27 e29
    rcases Classical.propComplete (netR n = 0) with z | z
    case inr =>
      simp only [z, if_false, noAddr, noPlace] at e18 e20 e21
      have hnum := num_bad z
      simp only [go_sem, reduceIte, Nat.reduceEqDiff, Nat.reduceAdd, Nat.reduceMul, Nat.reduceSub, Nat.reduceLeDiff, Nat.reduceLT, Nat.reduceBEq, reduceCtorEq, Net.cells, e16, e17, q1, q2, e18, e19, e20, e21, e22, e29, e30, hnum, z, ety30, ety28, aeq30, aeq28]
    have hz := of_eq_true z
    obtain ⟨s', m', e', hpl⟩ := placedP_shape n a ap post
    have hpr := (placed_same hz a ap post).symm.trans hpl
    simp only [hz, if_true, hpl, hpr, noAddr, lineI] at e18 e20 e21 e22 e23 e24 e25 e29
    cases hf : findL n.lines s with
    | none =>
      have hb : lnB n.lines s = false := by unfold lnB; rw [hf]; rfl
      have hh : hasI n.lines s m = 10 := by unfold hasI; rw [hf]
      have z10 : ((10 : Int) = 0) = False := by simp
      have hnum := num_bad z10
      simp only [hb, hh, hf, z10, if_false, Bool.false_eq_true, Option.isNone_none, whenI_true] at e18 e20 e23 e24
      simp only [go_sem, reduceIte, Nat.reduceEqDiff, Nat.reduceAdd, Nat.reduceMul, Nat.reduceSub, Nat.reduceLeDiff, Nat.reduceLT, Nat.reduceBEq, reduceCtorEq, Net.cells, e16, e17, q1, q2, e18, e19, e20, e21, e22, e23, e24, e25, e29, e30, hnum, z10, ety30, ety28, aeq30, aeq28]
    | some i =>
      obtain ⟨l, hl, hlt, hmem⟩ := findL_at hf
      have hlo : lnOf n.lines s = l := by unfold lnOf; rw [hf]; simp [hl]
      have hb : lnB n.lines s = true := by unfold lnB; rw [hf]; rfl
      have hr := map_at (f := Ln.row) hl
      have e26 := pe26 l (hok.line l hmem).2
      simp only [Ln.row, i64] at hr e26
      have hnum := num_good (sumW l.ps 0)
      simp only [hb, hlo, hf, if_true, Option.isNone_some, whenI_false, findI] at e18 e20 e23 e24 e27
      have hhas : hasI n.lines s m = whenI (decide (m < 0) || !decide (m < sumW l.ps 0)) 14 := by unfold hasI; simp only [hf, hl]
      generalize hF : hasI n.lines s m = F at e20 e24 hhas
      rcases Classical.propComplete (F = 0) with zF | zF
      · have hFz := of_eq_true zF
        have hm : ¬ m < 0 ∧ m < sumW l.ps 0 := by
          rw [hFz] at hhas
          by_cases h1 : m < 0
          · simp [h1, whenI] at hhas
          · by_cases h2 : m < sumW l.ps 0
            · exact ⟨h1, h2⟩
            · simp [h2, whenI] at hhas
        have hg := line_good hz hl
        have ha := addr_same hg s (m := m) (by omega) hm.2
        have e28 := pe28 (n, s, m) ⟨hok.fits, i, hf⟩
        simp only [Net.cells, i64, hlo, ← ha] at e28
        simp only [hFz, if_true] at e20 e24
        simp only [go_sem, reduceIte, Nat.reduceEqDiff, Nat.reduceAdd, Nat.reduceMul, Nat.reduceSub, Nat.reduceLeDiff, Nat.reduceLT, Nat.reduceBEq, reduceCtorEq, Net.cells, Ln.row, e16, e17, q1, q2, e18, e19, e20, e21, e22, e23, e24, e25, e26, e27, e28, e29, e30, List.length_map, hlt, hr, hnum, ety30, ety28, aeq30, aeq28]
      · simp only [zF, if_false] at e20
        simp only [go_sem, reduceIte, Nat.reduceEqDiff, Nat.reduceAdd, Nat.reduceMul, Nat.reduceSub, Nat.reduceLeDiff, Nat.reduceLT, Nat.reduceBEq, reduceCtorEq, Net.cells, Ln.row, e16, e17, q1, q2, e18, e19, e20, e21, e22, e23, e24, e25, e26, e27, e29, e30, List.length_map, hlt, hr, hnum, zF, ety30, ety28, aeq30, aeq28]
end Go.Sim

/-
The law: NetworkMaps returns true.
-/
namespace Go.Sim
open Go Go.Proofs
set_option maxRecDepth 100000
set_option maxHeartbeats 16000000
noncomputable def PPF5 : FuncId → Option (List AV → Option AV) := addPrim 19 p19 (addPrim 50 p50 (addPrim 49 p49 (addPrim 48 p48 (addPrim 34 p34 (addPrim 22 p22 (addPrim 47 p47 (addPrim 46 p46 (addPrim 45 p45 (addPrim 44 p44 (addPrim 43 p43 (addPrim 42 p42 (addPrim 41 p41 (addPrim 17 p17 (addPrim 16 p16 (fun _ => none)))))))))))))))
theorem primsF5 : PrimsOk NC PPF5 := primsOk_add (primsOk_add (primsOk_add (primsOk_add (primsOk_add (primsOk_add (primsOk_add (primsOk_add (primsOk_add (primsOk_add (primsOk_add (primsOk_add (primsOk_add (primsOk_add (primsOk_add (primsOk_none) (by kernel_rfl) (by kernel_rfl) pok16) (by kernel_rfl) (by kernel_rfl) pok17) (by kernel_rfl) (by kernel_rfl) pok41) (by kernel_rfl) (by kernel_rfl) pok42) (by kernel_rfl) (by kernel_rfl) pok43) (by kernel_rfl) (by kernel_rfl) pok44) (by kernel_rfl) (by kernel_rfl) pok45) (by kernel_rfl) (by kernel_rfl) pok46) (by kernel_rfl) (by kernel_rfl) pok47) (by kernel_rfl) (by kernel_rfl) pok22) (by kernel_rfl) (by kernel_rfl) pok34) (by kernel_rfl) (by kernel_rfl) pok48) (by kernel_rfl) (by kernel_rfl) pok49) (by kernel_rfl) (by kernel_rfl) pok50) (by kernel_rfl) (by kernel_rfl) pok19
theorem enF5_16 : En PPF5 16 p16 := enter_prim (by rfl) (by kernel_rfl)
theorem enF5_17 : En PPF5 17 p17 := enter_prim (by rfl) (by kernel_rfl)
theorem enF5_41 : En PPF5 41 p41 := enter_prim (by rfl) (by kernel_rfl)
theorem enF5_42 : En PPF5 42 p42 := enter_prim (by rfl) (by kernel_rfl)
theorem enF5_43 : En PPF5 43 p43 := enter_prim (by rfl) (by kernel_rfl)
theorem enF5_44 : En PPF5 44 p44 := enter_prim (by rfl) (by kernel_rfl)
theorem enF5_45 : En PPF5 45 p45 := enter_prim (by rfl) (by kernel_rfl)
theorem enF5_46 : En PPF5 46 p46 := enter_prim (by rfl) (by kernel_rfl)
theorem enF5_47 : En PPF5 47 p47 := enter_prim (by rfl) (by kernel_rfl)
theorem enF5_22 : En PPF5 22 p22 := enter_prim (by rfl) (by kernel_rfl)
theorem enF5_34 : En PPF5 34 p34 := enter_prim (by rfl) (by kernel_rfl)
theorem enF5_48 : En PPF5 48 p48 := enter_prim (by rfl) (by kernel_rfl)
theorem enF5_49 : En PPF5 49 p49 := enter_prim (by rfl) (by kernel_rfl)
theorem enF5_50 : En PPF5 50 p50 := enter_prim (by rfl) (by kernel_rfl)
theorem enF5_19 : En PPF5 19 p19 := enter_prim (by rfl) (by kernel_rfl)
attribute [go_sem ↓] enF5_16 enF5_17 enF5_41 enF5_42 enF5_43 enF5_44 enF5_45 enF5_46 enF5_47 enF5_22 enF5_34 enF5_48 enF5_49 enF5_50 enF5_19
theorem shortM_few {m : List Mv} (h : shortM m = true) : m.length ≤ 25 ∧ ∀ x ∈ m, x.line.length ≤ 40 ∧ x.other.length ≤ 40 := by
  unfold shortM at h
  simp only [Bool.and_eq_true, Bool.not_eq_true', decide_eq_false_iff_not, List.all_eq_true] at h
  refine ⟨by omega, fun x hx => ?_⟩
  have := h.1 x hx
  unfold shortMv shortB at this
  simp only [Bool.and_eq_true, Bool.not_eq_true', decide_eq_false_iff_not] at this
  omega
theorem shortM_ok {m : List Mv} (h : shortM m = true) : MapOk m := by
  obtain ⟨h1, h2⟩ := shortM_few h
  refine ⟨by unfold maxRows; omega, fun x hx => ?_⟩
  have := h2 x hx
  unfold maxRows; omega
theorem carR_shape (m : List Mv) (s : List Nat) (q : Int) : ∃ s' k b, carR m s q = [.agg [.str s', .int .i64 k], .bool b] ∧ (b = false → s' = [] ∧ k = 0) := by
  unfold carR
  cases m.find? (hitR s q) with
  | none => exact ⟨_, _, _, rfl, fun _ => ⟨rfl, rfl⟩⟩
  | some x => exact ⟨_, _, _, rfl, fun h => by cases h⟩
theorem firstI_two (a b : Int) : firstI [a, b] = if a = 0 then b else a := by
  simp only [firstI_cons, firstI_nil]
  split
  · split
    · rename_i h; exact h.symm
    · rfl
  · rfl
theorem carried_same {m : List Mv} {s : List Nat} {q : Int} : carriedP m s q = (if firstI [mapR m, pointI s q] = 0 then (match carR m s q with | [p, .bool b] => [p, i64 (whenI (!b) 7)] | _ => []) else [noPlace, i64 (firstI [mapR m, pointI s q])]) := by
  obtain ⟨s', k, b, hc, hcp⟩ := carP_shape m s q
  rw [hcp, map_same]
  have he : firstI [mapR m, whenI (!nameB s) 8, rangeI q 0 800000] = firstI [mapR m, pointI s q] := by
    rw [firstI_two]
    unfold pointI
    rw [firstI_cons]
  simp only [he]
  by_cases z : firstI [mapR m, pointI s q] = 0
  · simp only [z, if_true]
    have hz := firstI_zero z
    have h1 : mapR m = 0 := hz _ (by simp)
    have h2 : pointI s q = 0 := hz _ (by simp)
    have h3 := rangeI_zero (firstI_zero h2 (rangeI q 0 800000) (by simp))
    rw [← car_same h1 s h3.1 h3.2, hc]
  · simp only [z, if_false]
theorem c5 (m : List Mv) (a b : Net) (s : List Nat) (q : Int) (hm : m.length ≤ 9223372036854775807) : ∀ lo H, CallOk NC lo 5 [.ps .unk (m.map Mv.row), .agg (a.cells ++ b.cells), .agg [.str s, i64 q]] H (.bool true) H := by
  refine contract saneNC primsF5 (fn := Tryz.f5) (by kernel_rfl) Tryz.func5 rfl rfl (by rfl) (by rfl) ?_
  have e41 := pe41 m hm
  have ea := pe17 a trivial
  have eb := pe17 b trivial
  simp only [Net.cells, i64] at ea eb
  cases hS : shortM m with
  | false =>
    simp only [hS] at e41
    simp only [go_sem, reduceIte, Nat.reduceEqDiff, Nat.reduceAdd, Nat.reduceMul, Nat.reduceSub, Nat.reduceLeDiff, Nat.reduceLT, Nat.reduceBEq, reduceCtorEq, Net.cells, e16, e41]
  | true =>
  simp only [hS] at e41
  cases hA : shortN a with
  | false =>
    simp only [hA] at ea
    simp only [go_sem, reduceIte, Nat.reduceEqDiff, Nat.reduceAdd, Nat.reduceMul, Nat.reduceSub, Nat.reduceLeDiff, Nat.reduceLT, Nat.reduceBEq, reduceCtorEq, Net.cells, e16, e41, ea]
  | true =>
  simp only [hA] at ea
  cases hB : shortN b with
  | false =>
    simp only [hB] at eb
    simp only [go_sem, reduceIte, Nat.reduceEqDiff, Nat.reduceAdd, Nat.reduceMul, Nat.reduceSub, Nat.reduceLeDiff, Nat.reduceLT, Nat.reduceBEq, reduceCtorEq, Net.cells, e16, e41, ea, eb]
  | true =>
  simp only [hB] at eb
  rcases Classical.propComplete ((40 : Int) < s.length) with q1 | q1
  · simp only [go_sem, reduceIte, Nat.reduceEqDiff, Nat.reduceAdd, Nat.reduceMul, Nat.reduceSub, Nat.reduceLeDiff, Nat.reduceLT, Nat.reduceBEq, reduceCtorEq, Net.cells, e16, e41, ea, eb, q1]
  have hs : s.length ≤ maxRows := by have := of_eq_false q1; unfold maxRows; omega
  have hM := shortM_ok hS
  have hAo := short_ok hA
  have hBo := short_ok hB
  have e43 := pe43 m hM.few
  have e42 := pe42 m s q ⟨hM, hs⟩
  have e44 := pe44 m hM.few
  have e22a := pe22 a ⟨hAo.fits, hAo.sws, hAo.sts⟩
  have e22b := pe22 b ⟨hBo.fits, hBo.sws, hBo.sts⟩
  have e45 := pe45 m a b ⟨hM.few, hAo.fits, hBo.fits⟩
  have e46 := pe46 s q
  have e47 := pe47 m s q hM.few
  have e49 := pe49 m hM
  have e50 := pe50 m a b ⟨hM, hAo, hBo⟩
  have e19a := pe19 a ⟨hAo.fits, hAo.sws, hAo.sts⟩
  have e19b := pe19 b ⟨hBo.fits, hBo.sws, hBo.sts⟩
  rw [carried_same] at e42
  rw [map_same] at e49
  have hfp : fitsP a b m = (if firstI [mapR m, netR a, netR b] = 0 then fitsR a b m else firstI [mapR m, netR a, netR b]) := by
    unfold fitsP fitsR; simp only [map_same, net_same]
  rw [hfp] at e50
  simp only [Net.cells, i64] at e22a e22b e45 e19a e19b e50
  obtain ⟨s', k', b', hcr, hno⟩ := carR_shape m s q
  rw [hcr] at e42 e47
  generalize hF : fitsR a b m = F at e45 e50
  generalize hE : firstI [mapR m, netR a, netR b] = E at e50
  generalize hG : firstI [mapR m, pointI s q] = G at e42
  rcases Classical.propComplete (E = 0) with z1 | z1 <;> rcases Classical.propComplete (G = 0) with z2 | z2 <;> simp only [z1, z2, if_true, if_false, noPlace, i64] at e50 e42 <;>
    simp only [go_sem, reduceIte, Nat.reduceEqDiff, Nat.reduceAdd, Nat.reduceMul, Nat.reduceSub, Nat.reduceLeDiff, Nat.reduceLT, Nat.reduceBEq, reduceCtorEq, Net.cells, e16, e41, ea, eb, q1, e43, e42, e44, e22a, e22b, e34_3, e34_2, e45, e46, e47, e48, e49, e50, e19a, e19b, hE, hG, z1, z2, ety28, aeq28]
end Go.Sim

/-
Addresses as keys of a map; the reference's Small; the program's Posts.
-/
namespace Go.Sim
open Go Go.Proofs
set_option maxRecDepth 100000
set_option maxHeartbeats 8000000
abbrev Ad : Type := List Nat × Int × Int
def adRow (a : Ad) : List AV := [.str a.1, i64 a.2.1, i64 a.2.2]
theorem adRow_len (a : Ad) : (adRow a).length = 3 := rfl
def adB (a b : Ad) : Bool := beqL a.1 b.1 && (eqI a.2.1 b.2.1 && eqI a.2.2 b.2.2)
theorem adB_iff (a b : Ad) : adB a b = true ↔ a = b := by
  obtain ⟨a1, a2, a3⟩ := a
  obtain ⟨b1, b2, b3⟩ := b
  unfold adB
  simp only [Bool.and_eq_true, beqL_iff, eqI_iff, decide_eq_true_eq, Prod.mk.injEq]
def postAt (l : Ln) (s : List Nat) (P : Int) (k : Nat) : List Ad := match l.ps[k]? with
  | some p => if metreB p P then [(s, ((k : Nat) : Int), P)] else []
  | none => []
def postsK (l : Ln) (s : List Nat) (P : Int) : Nat → List Ad
  | 0 => []
  | k + 1 => postsK l s P k ++ postAt l s P k
theorem postsK_len (l : Ln) (s : List Nat) (P : Int) : ∀ k, (postsK l s P k).length ≤ k
  | 0 => Nat.le_refl _
  | k + 1 => by
    have := postsK_len l s P k
    unfold postsK postAt
    cases l.ps[k]? with
    | none => simp; omega
    | some p => simp only []; split <;> simp <;> omega
def postsE (n : Net) (s : List Nat) (P : Int) : Int := firstI [whenI (!lnB n.lines s) 10, rangeI P 0 9999999]
def postsP (n : Net) (s : List Nat) (P : Int) : List AV :=
  if netP n = 0 then (if postsE n s P = 0 then [.ps .unk ((postsK (lnOf n.lines s) s P (lnOf n.lines s).ps.length).map adRow), i64 0] else [.ps .unk [], i64 (postsE n s P)]) else [.ps .unk [], i64 (netP n)]
theorem postsP_pure (n : Net) (s : List Nat) (P : Int) : (AV.tup (postsP n s P)).pure = true := by
  unfold postsP; repeat' split
  all_goals rfl
noncomputable def PPF51 : FuncId → Option (List AV → Option AV) := addPrim 134 p134 (addPrim 111 p111 (addPrim 115 p115 (addPrim 121 p121 (addPrim 98 p98 (addPrim 29 p29 (fun _ => none))))))
theorem primsF51 : PrimsOk NC PPF51 := primsOk_add (primsOk_add (primsOk_add (primsOk_add (primsOk_add (primsOk_add (primsOk_none) (by kernel_rfl) (by kernel_rfl) pok29) (by kernel_rfl) (by kernel_rfl) pok98) (by kernel_rfl) (by kernel_rfl) pok121) (by kernel_rfl) (by kernel_rfl) pok115) (by kernel_rfl) (by kernel_rfl) pok111) (by kernel_rfl) (by kernel_rfl) pok134
theorem enF51_29 : En PPF51 29 p29 := enter_prim (by rfl) (by kernel_rfl)
theorem enF51_98 : En PPF51 98 p98 := enter_prim (by rfl) (by kernel_rfl)
theorem enF51_121 : En PPF51 121 p121 := enter_prim (by rfl) (by kernel_rfl)
theorem enF51_115 : En PPF51 115 p115 := enter_prim (by rfl) (by kernel_rfl)
theorem enF51_111 : En PPF51 111 p111 := enter_prim (by rfl) (by kernel_rfl)
theorem enF51_134 : En PPF51 134 p134 := enter_prim (by rfl) (by kernel_rfl)
attribute [go_sem ↓] enF51_29 enF51_98 enF51_121 enF51_115 enF51_111 enF51_134
theorem c51 (n : Net) (s : List Nat) (P : Int) (hp : n.Ok) : ∀ lo H, CallOk NC lo 51 [.agg n.cells, .str s, i64 P] H (.tup (postsP n s P)) H := by
  refine contract saneNC primsF51 (fn := Tryz.f51) (by kernel_rfl) Tryz.func51 rfl rfl (by rfl) (postsP_pure n s P) ?_
  have e29 : p29 [.agg n.cells] = some (.int .i64 (netP n)) := pe29 n hp
  have e98 : p98 [.agg n.cells, .str s] = some (.tup [.agg (lnOf n.lines s).row, .bool (lnB n.lines s)]) := pe98 (n, s) hp.lines
  have hfit : (lnOf n.lines s).ps.length ≤ maxRows := lnOf_fits fun l hl => (hp.line l hl).2
  simp only [Net.cells] at e29 e98
  unfold postsP
  generalize hE : postsE n s P = E2
  unfold postsE at hE
  generalize netP n = E at e29 ⊢
  rcases Classical.propComplete (E = 0) with z | z
  case inr =>
    simp only [go_sem, reduceIte, Nat.reduceEqDiff, Nat.reduceAdd, Nat.reduceMul, Nat.reduceSub, Nat.reduceLeDiff, Nat.reduceLT, Nat.reduceBEq, reduceCtorEq, Net.cells, e29, z]
  generalize lnOf n.lines s = l at e98 hfit ⊢
  generalize lnB n.lines s = B at e98 hE
  simp only [Ln.row] at e98
  rcases Classical.propComplete (E2 = 0) with z2 | z2
  case inr =>
    simp only [go_sem, reduceIte, Nat.reduceEqDiff, Nat.reduceAdd, Nat.reduceMul, Nat.reduceSub, Nat.reduceLeDiff, Nat.reduceLT, Nat.reduceBEq, reduceCtorEq, Net.cells, e29, e98, e121, e115, e111_2, hE, z, z2]
  simp only [go_sem, reduceIte, Nat.reduceEqDiff, Nat.reduceAdd, Nat.reduceMul, Nat.reduceSub, Nat.reduceLeDiff, Nat.reduceLT, Nat.reduceBEq, reduceCtorEq, Net.cells, List.length_map, e29, e98, e121, e115, e111_2, hE, z, z2]
  refine W_for (fun k T H M => M = [] ∧ getT T 1 = .str s ∧ getT T 2 = i64 P ∧ getT T 39 = .ps .unk (l.ps.map Pc.row) ∧ getT T 40 = i64 (l.ps.length : Nat) ∧ getT T 41 = i64 k ∧ ∃ t, getT T 12 = .ps t ((postsK l s P k).map adRow) ∧ App H t ((postsK l s P k).map adRow) 3 42) l.ps.length ?_ ?_ ?_
  · simp only [go_sem, reduceIte, Nat.reduceEqDiff, Nat.reduceAdd, Nat.reduceMul, Nat.reduceSub, Nat.reduceLeDiff, Nat.reduceLT, Nat.reduceBEq, reduceCtorEq, List.length_map]; exact ⟨.nil, rfl, .inl ⟨rfl, rfl⟩⟩
  · rintro k T H M hk ⟨rfl, g1, g2, g39, g40, g41, t, g12, hA⟩
    obtain ⟨p, hx⟩ : ∃ p, l.ps[k]? = some p := ⟨l.ps[k], by simp⟩
    have hr := map_at (f := Pc.row) hx
    have hw := wrap_succ hk hfit
    have e134 : p134 [.agg p.row, .int .i64 P] = some (.tup [.int .i64 (metreI p P), .bool (metreB p P)]) := pe134 (p, P) trivial
    have hat : postAt l s P k = if metreB p P then [(s, ((k : Nat) : Int), P)] else [] := by unfold postAt; simp only [hx]
    have hsuc : postsK l s P (k + 1) = postsK l s P k ++ postAt l s P k := rfl
    rw [hat] at hsuc
    have hlen := postsK_len l s P k
    cases hb : metreB p P with
    | true =>
      rw [hb] at e134 hsuc
      simp only [if_true] at hsuc
      obtain ⟨t', H1, ha, hB, hn1, hc1, _⟩ := app_any (H := (H.push (.cells [.int .i64 0, .int .i64 0, .bool false] 200)).set H.n (.cells p.row 200)) (hA.fresh _ _ rfl) (r := adRow (s, ((k : Nat) : Int), P)) (by simp; omega) rfl (by decide) (rows_all adRow_len _)
      obtain ⟨a, b, c⟩ := p
      simp only [Pc.row, adRow] at hr ha e134
      simp only [go_sem, reduceIte, Nat.reduceEqDiff, Nat.reduceAdd, Nat.reduceMul, Nat.reduceSub, Nat.reduceLeDiff, Nat.reduceLT, Nat.reduceBEq, reduceCtorEq, g1, g2, g39, g40, g41, g12, List.length_map, hk, hr, hw, e134, appO, ha]
      rw [hsuc, List.map_append]
      exact ⟨t', rfl, hB⟩
    | false =>
      rw [hb] at e134 hsuc
      simp only [Bool.false_eq_true, if_false, List.append_nil] at hsuc
      obtain ⟨a, b, c⟩ := p
      simp only [Pc.row] at hr e134
      simp only [go_sem, reduceIte, Nat.reduceEqDiff, Nat.reduceAdd, Nat.reduceMul, Nat.reduceSub, Nat.reduceLeDiff, Nat.reduceLT, Nat.reduceBEq, reduceCtorEq, g1, g2, g39, g40, g41, g12, List.length_map, hk, hr, hw, e134]
      rw [hsuc]
      exact ⟨t, rfl, hA.fresh _ _ rfl⟩
  · rintro T H M ⟨rfl, g1, g2, g39, g40, g41, t, g12, hA⟩
    simp only [go_sem, reduceIte, Nat.reduceEqDiff, Nat.reduceAdd, Nat.reduceMul, Nat.reduceSub, Nat.reduceLeDiff, Nat.reduceLT, Nat.reduceBEq, reduceCtorEq, g1, g2, g39, g40, g41, g12, Nat.lt_irrefl]
    simp [z, z2]
noncomputable def p51 : List AV → Option AV := primOf (α := (Net) × (List Nat) × (Int)) (fun x => [.agg x.1.cells, .str x.2.1, i64 x.2.2]) (fun x => x.1.Ok) (fun x => .tup (postsP x.1 x.2.1 x.2.2))
theorem pok51 : ∀ args v, p51 args = some v → ∀ lo H, CallOk NC lo 51 args H v H := by
  intro args v h
  obtain ⟨x, rfl, hp, rfl⟩ := primOf_inv h
  exact c51 x.1 x.2.1 x.2.2 hp
theorem pe51 (n : Net) (s : List Nat) (P : Int) (hp : n.Ok) : p51 [.agg n.cells, .str s, .int .i64 P] = some (.tup (postsP n s P)) := primOf_enc (α := (Net) × (List Nat) × (Int)) (enc := fun x => [.agg x.1.cells, .str x.2.1, i64 x.2.2]) (pre := fun x => x.1.Ok) (spec := fun x => .tup (postsP x.1 x.2.1 x.2.2)) (by intro x y h; (simp only [List.cons.injEq, AV.agg.injEq, AV.str.injEq, AV.int.injEq, AV.ps.injEq, AV.bool.injEq, Net.cells_iff, Ln.row_iff, Pc.row_iff, Mv.row_iff, lns_iff, pcs_iff, mvs_iff, true_and, and_true] at h; first | simpa only [Prod.ext_iff] using h | simpa only [Prod.ext_iff, and_assoc] using h)) (n, s, P) hp
end Go.Sim

/-
Histories: data; the program's CheckHistory, On; moves that carry back.
-/
-- INJ Sv.row_iff svs_iff
namespace Go.Sim
open Go Go.Proofs
set_option maxRecDepth 100000
set_option maxHeartbeats 8000000
structure Sv where
  day : Int
  net : Net
  map : List Mv
def Sv.row (s : Sv) : List AV := i64 s.day :: (s.net.cells ++ [.ps .unk (s.map.map Mv.row)])
theorem Sv.row_inj (a b : Sv) (h : a.row = b.row) : a = b := by
  obtain ⟨d, n, m⟩ := a
  obtain ⟨d', n', m'⟩ := b
  unfold Sv.row Net.cells at h
  simp only [List.cons_append, List.nil_append, List.cons.injEq, AV.int.injEq, AV.ps.injEq, true_and, and_true] at h
  obtain ⟨rfl, h1, h2, h3, h4⟩ := h
  have hn : n = n' := Net.cells_inj n n' (by unfold Net.cells; rw [h1, h2, h3])
  rw [hn, map_inj Mv.row_inj h4]
theorem Sv.row_iff (a b : Sv) : a.row = b.row ↔ a = b := ⟨Sv.row_inj a b, fun h => by rw [h]⟩
theorem Sv.row_len (s : Sv) : s.row.length = 5 := rfl
end Go.Sim

/-
Histories: the program's Since.
-/
-- INJ Sv.row_iff svs_iff
namespace Go.Sim
open Go Go.Proofs
set_option maxRecDepth 100000
set_option maxHeartbeats 8000000
section
variable {C : Cfg} {lo : Nat} {fid : FuncId} {rnd : Bool} (T : TT AV) (H : Heap) (M : List Nat) (Q : AExit → TT AV → Heap → List Nat → Prop)
def unscope (Q : AExit → TT AV → Heap → List Nat → Prop) (e : AExit) (T : TT AV) (H : Heap) (M : List Nat) (_t : Tag Q := ⟨⟩) : Prop := match e with
  | .gto _ => False
  | e => Q e T H M
theorem unscope_nrm : unscope Q .nrm T H M = Q .nrm T H M := rfl
theorem unscope_ret : unscope Q .ret T H M = Q .ret T H M := rfl
theorem unscope_ext (i : Nat) : unscope Q (.ext i) T H M = Q (.ext i) T H M := rfl
theorem W_scope (b : Code) : W C lo fid rnd (.scope b) T H M Q = W C lo fid rnd b T H M (fun e T H M => unscope Q e T H M) := by
  unfold W
  rw [R_scope]
  cases h : R C (.code lo fid rnd b ⟨T, H, M⟩) with
  | none => rfl
  | some o => obtain ⟨e, ⟨T', H', M'⟩⟩ := o; cases e <;> rfl
end
attribute [go_sem ↓] W_scope W_label unscope_nrm unscope_ret unscope_ext
end Go.Sim

/-
The plain law of histories: valid ones; places stay within the networks.
-/
namespace Go.Sim
open Go
theorem sum_bound {l : Ln} (hg : l.Good) : 0 ≤ sumW l.ps 0 ∧ sumW l.ps 0 ≤ 800000 := by
  have := beg_bound hg l.ps.length (Nat.le_refl _)
  rw [begI_all] at this
  have := hg.few
  omega
end Go.Sim

/-
The plain law: each metre of a valid line has one address, and it names this metre alone.
-/
namespace Go.Sim
open Go
variable {l : Ln}
theorem beg_zero (l : Ln) : begI l 0 = 0 := by unfold begI; simp [sumW]
theorem metreB_iff {p : Pc} {P : Int} (hp : 0 ≤ p.post ∧ p.post ≤ 9999999) (hP : 0 ≤ P ∧ P ≤ 9999999) : metreB p P = true ↔ 0 ≤ offI p P ∧ offI p P < p.len := by
  unfold metreB
  rw [off_same hp hP]
  simp only [Bool.and_eq_true, Bool.not_eq_true', decide_eq_true_eq, decide_eq_false_iff_not]
  omega
end Go.Sim

/-
Posts: the reference, the law's own helpers; ends of switches.
-/
namespace Go.Sim
open Go Go.Proofs
set_option maxRecDepth 100000
set_option maxHeartbeats 8000000
def listB {α : Type} (f : α → α → Bool) : List α → List α → Bool
  | [], [] => true
  | a :: x, b :: y => f a b && listB f x y
  | _, _ => false
theorem listB_iff {α : Type} {f : α → α → Bool} (hf : ∀ a b, f a b = true ↔ a = b) : ∀ {x y : List α}, listB f x y = true ↔ x = y
  | [], [] => by simp [listB]
  | [], _ :: _ => by simp [listB]
  | _ :: _, [] => by simp [listB]
  | a :: x, b :: y => by simp [listB, hf, listB_iff hf (x := x) (y := y)]
theorem listB_len {α : Type} {f : α → α → Bool} : ∀ {x y : List α}, x.length ≠ y.length → listB f x y = false
  | [], [], h => absurd rfl h
  | [], _ :: _, _ => rfl
  | _ :: _, [], _ => rfl
  | a :: x, b :: y, h => by simp [listB, listB_len (f := f) (x := x) (y := y) (by simpa using h)]
theorem listB_at {α : Type} {f : α → α → Bool} : ∀ {x y : List α} {k : Nat} {a b : α}, x[k]? = some a → y[k]? = some b → f a b = false → listB f x y = false
  | [], _, _, _, _, h, _, _ => by simp at h
  | _ :: _, [], _, _, _, _, h, _ => by simp at h
  | a :: x, b :: y, 0, _, _, h1, h2, h => by simp at h1 h2; subst h1; subst h2; simp [listB, h]
  | a :: x, b :: y, k + 1, _, _, h1, h2, h => by simp [listB, listB_at (f := f) (x := x) (y := y) (k := k) (by simpa using h1) (by simpa using h2) h]
theorem listB_all {α : Type} {f : α → α → Bool} : ∀ {x y : List α}, x.length = y.length → (∀ (k : Nat) a b, x[k]? = some a → y[k]? = some b → f a b = true) → listB f x y = true
  | [], [], _, _ => rfl
  | [], _ :: _, h, _ => by simp at h
  | _ :: _, [], h, _ => by simp at h
  | a :: x, b :: y, h, hf => by
    simp only [listB, Bool.and_eq_true]
    exact ⟨hf 0 a b rfl rfl, listB_all (by simpa using h) fun k a b h1 h2 => hf (k + 1) a b (by simpa using h1) (by simpa using h2)⟩
theorem aeq30ad (a b : Ad) : aeqT NC.P 100 30 (.agg (adRow a)) (.agg (adRow b)) = some (adB a b) := by
  unfold adRow adB
  rw [aeq30']
  cases beqL a.1 b.1 <;> cases eqI a.2.1 b.2.1 <;> cases eqI a.2.2 b.2.2 <;> rfl
theorem adRow_inj (a b : Ad) (h : adRow a = adRow b) : a = b := by
  obtain ⟨a1, a2, a3⟩ := a
  obtain ⟨b1, b2, b3⟩ := b
  simp only [adRow, List.cons.injEq, AV.str.injEq, AV.int.injEq, true_and, and_true] at h
  obtain ⟨rfl, rfl, rfl⟩ := h; rfl
theorem ads_iff (a b : List Ad) : a.map adRow = b.map adRow ↔ a = b := ⟨fun h => map_inj adRow_inj h, fun h => by rw [h]⟩
-- INJ ads_iff
def strRow (s : List Nat) : List AV := [.str s]
theorem strRow_len (s : List Nat) : (strRow s).length = 1 := rfl
theorem strRow_inj (a b : List Nat) (h : strRow a = strRow b) : a = b := by simpa [strRow] using h
theorem strs_iff (a b : List (List Nat)) : a.map strRow = b.map strRow ↔ a = b := ⟨fun h => map_inj strRow_inj h, fun h => by rw [h]⟩
-- INJ strs_iff
theorem len_eq (a b : Nat) : ((a : Int) = (b : Int)) = (a = b) := by simp only [eq_iff_iff]; omega
noncomputable def PPF84 : FuncId → Option (List AV → Option AV) := fun _ => none
theorem primsF84 : PrimsOk NC PPF84 := primsOk_none
theorem c84 (a b : List Ad) (hp : a.length ≤ maxRows) : ∀ lo H, CallOk NC lo 84 [.ps .unk (a.map adRow), .ps .unk (b.map adRow)] H (.bool (listB adB a b)) H := by
  refine contract saneNC primsF84 (fn := Tryz.f84) (by kernel_rfl) Tryz.func84 rfl rfl (by rfl) (by first | rfl | (split <;> first | rfl | (split <;> rfl))) ?_
  rcases Classical.propComplete (a.length = b.length) with q | q
  case inr =>
    have hb : listB adB a b = false := listB_len (by simpa using q)
    simp only [go_sem, reduceIte, Nat.reduceEqDiff, Nat.reduceAdd, Nat.reduceMul, Nat.reduceSub, Nat.reduceLeDiff, Nat.reduceLT, Nat.reduceBEq, reduceCtorEq, List.length_map, len_eq, q, hb]
  have hab := of_eq_true q
  simp only [go_sem, reduceIte, Nat.reduceEqDiff, Nat.reduceAdd, Nat.reduceMul, Nat.reduceSub, Nat.reduceLeDiff, Nat.reduceLT, Nat.reduceBEq, reduceCtorEq, List.length_map, len_eq, q]
  refine W_for (fun k T H M => M = [] ∧ getT T 0 = .ps .unk (a.map adRow) ∧ getT T 1 = .ps .unk (b.map adRow) ∧ getT T 5 = i64 k ∧ ∀ (j : Nat) x y, j < k → a[j]? = some x → b[j]? = some y → adB x y = true) a.length ?_ ?_ ?_
  · simp only [go_sem, reduceIte, Nat.reduceEqDiff, Nat.reduceAdd, Nat.reduceMul, Nat.reduceSub, Nat.reduceLeDiff, Nat.reduceLT, Nat.reduceBEq, reduceCtorEq]; exact fun j x y hj => absurd hj (by omega)
  · rintro k T H M hk ⟨rfl, g0, g1, g5, hf⟩
    obtain ⟨x, hx⟩ : ∃ p, a[k]? = some p := ⟨a[k], by simp⟩
    obtain ⟨y, hy⟩ : ∃ p, b[k]? = some p := ⟨b[k]'(by omega), by simp⟩
    have hr := map_at (f := adRow) hx
    have hr2 := map_at (f := adRow) hy
    have hk2 : (k < b.length) = True := by simp; omega
    have hw := wrap_succ hk hp
    have he := aeq30ad x y
    cases hb : adB x y with
    | true =>
      rw [hb] at he
      simp only [adRow, i64] at hr hr2 he
      simp only [go_sem, reduceIte, Nat.reduceEqDiff, Nat.reduceAdd, Nat.reduceMul, Nat.reduceSub, Nat.reduceLeDiff, Nat.reduceLT, Nat.reduceBEq, reduceCtorEq, g0, g1, g5, List.length_map, hk, hk2, hr, hr2, hw, ety30, he]
      intro j x' y' hj h1 h2
      by_cases e : j = k
      · subst e; rw [hx] at h1; rw [hy] at h2; cases h1; cases h2; exact hb
      · exact hf j x' y' (by omega) h1 h2
    | false =>
      rw [hb] at he
      simp only [adRow, i64] at hr hr2 he
      have hb2 : listB adB a b = false := listB_at hx hy hb
      simp only [go_sem, reduceIte, Nat.reduceEqDiff, Nat.reduceAdd, Nat.reduceMul, Nat.reduceSub, Nat.reduceLeDiff, Nat.reduceLT, Nat.reduceBEq, reduceCtorEq, g0, g1, g5, List.length_map, hk, hk2, hr, hr2, hw, ety30, he, hb2]
  · rintro T H M ⟨rfl, g0, g1, g5, hf⟩
    have hb : listB adB a b = true := listB_all hab fun k x y h1 h2 => hf k x y (List.getElem?_eq_some_iff.1 h1).1 h1 h2
    simp only [go_sem, reduceIte, Nat.reduceEqDiff, Nat.reduceAdd, Nat.reduceMul, Nat.reduceSub, Nat.reduceLeDiff, Nat.reduceLT, Nat.reduceBEq, reduceCtorEq, g0, g1, g5, List.length_map, Nat.lt_irrefl, hb]
noncomputable def p84 : List AV → Option AV := primOf (α := (List Ad) × (List Ad)) (fun x => [.ps .unk (x.1.map adRow), .ps .unk (x.2.map adRow)]) (fun x => x.1.length ≤ maxRows) (fun x => .bool (listB adB x.1 x.2))
theorem pok84 : ∀ args v, p84 args = some v → ∀ lo H, CallOk NC lo 84 args H v H := by
  intro args v h
  obtain ⟨x, rfl, hp, rfl⟩ := primOf_inv h
  exact c84 x.1 x.2 hp
theorem pe84 (a b : List Ad) (hp : a.length ≤ maxRows) : p84 [.ps .unk (a.map adRow), .ps .unk (b.map adRow)] = some (.bool (listB adB a b)) := primOf_enc (α := (List Ad) × (List Ad)) (enc := fun x => [.ps .unk (x.1.map adRow), .ps .unk (x.2.map adRow)]) (pre := fun x => x.1.length ≤ maxRows) (spec := fun x => .bool (listB adB x.1 x.2)) (by intro x y h; (simp only [List.cons.injEq, AV.agg.injEq, AV.str.injEq, AV.int.injEq, AV.ps.injEq, AV.bool.injEq, Net.cells_iff, Ln.row_iff, Pc.row_iff, Mv.row_iff, lns_iff, pcs_iff, mvs_iff, ads_iff, strs_iff, true_and, and_true] at h; first | simpa only [Prod.ext_iff] using h | simpa only [Prod.ext_iff, and_assoc] using h)) (a, b) hp
noncomputable def PPF157 : FuncId → Option (List AV → Option AV) := fun _ => none
theorem primsF157 : PrimsOk NC PPF157 := primsOk_none
theorem c157 (a b : List (List Nat)) (hp : a.length ≤ maxRows) : ∀ lo H, CallOk NC lo 157 [.ps .unk (a.map strRow), .ps .unk (b.map strRow)] H (.bool (listB beqL a b)) H := by
  refine contract saneNC primsF157 (fn := Tryz.f157) (by kernel_rfl) Tryz.func157 rfl rfl (by rfl) (by first | rfl | (split <;> first | rfl | (split <;> rfl))) ?_
  rcases Classical.propComplete (a.length = b.length) with q | q
  case inr =>
    have hb : listB beqL a b = false := listB_len (by simpa using q)
    simp only [go_sem, reduceIte, Nat.reduceEqDiff, Nat.reduceAdd, Nat.reduceMul, Nat.reduceSub, Nat.reduceLeDiff, Nat.reduceLT, Nat.reduceBEq, reduceCtorEq, List.length_map, len_eq, q, hb]
  have hab := of_eq_true q
  simp only [go_sem, reduceIte, Nat.reduceEqDiff, Nat.reduceAdd, Nat.reduceMul, Nat.reduceSub, Nat.reduceLeDiff, Nat.reduceLT, Nat.reduceBEq, reduceCtorEq, List.length_map, len_eq, q]
  refine W_for (fun k T H M => M = [] ∧ getT T 0 = .ps .unk (a.map strRow) ∧ getT T 1 = .ps .unk (b.map strRow) ∧ getT T 5 = i64 k ∧ ∀ (j : Nat) x y, j < k → a[j]? = some x → b[j]? = some y → beqL x y = true) a.length ?_ ?_ ?_
  · simp only [go_sem, reduceIte, Nat.reduceEqDiff, Nat.reduceAdd, Nat.reduceMul, Nat.reduceSub, Nat.reduceLeDiff, Nat.reduceLT, Nat.reduceBEq, reduceCtorEq]; exact fun j x y hj => absurd hj (by omega)
  · rintro k T H M hk ⟨rfl, g0, g1, g5, hf⟩
    obtain ⟨x, hx⟩ : ∃ p, a[k]? = some p := ⟨a[k], by simp⟩
    obtain ⟨y, hy⟩ : ∃ p, b[k]? = some p := ⟨b[k]'(by omega), by simp⟩
    have hr := map_at (f := strRow) hx
    have hr2 := map_at (f := strRow) hy
    have hk2 : (k < b.length) = True := by simp; omega
    have hw := wrap_succ hk hp
    simp only [strRow] at hr hr2
    cases hb : beqL x y with
    | true =>
      simp only [go_sem, reduceIte, Nat.reduceEqDiff, Nat.reduceAdd, Nat.reduceMul, Nat.reduceSub, Nat.reduceLeDiff, Nat.reduceLT, Nat.reduceBEq, reduceCtorEq, g0, g1, g5, List.length_map, hk, hk2, hr, hr2, hw, hb]
      intro j x' y' hj h1 h2
      by_cases e : j = k
      · subst e; rw [hx] at h1; rw [hy] at h2; cases h1; cases h2; exact hb
      · exact hf j x' y' (by omega) h1 h2
    | false =>
      have hb2 : listB beqL a b = false := listB_at hx hy hb
      simp only [go_sem, reduceIte, Nat.reduceEqDiff, Nat.reduceAdd, Nat.reduceMul, Nat.reduceSub, Nat.reduceLeDiff, Nat.reduceLT, Nat.reduceBEq, reduceCtorEq, g0, g1, g5, List.length_map, hk, hk2, hr, hr2, hw, hb, hb2]
  · rintro T H M ⟨rfl, g0, g1, g5, hf⟩
    have hb : listB beqL a b = true := listB_all hab fun k x y h1 h2 => hf k x y (List.getElem?_eq_some_iff.1 h1).1 h1 h2
    simp only [go_sem, reduceIte, Nat.reduceEqDiff, Nat.reduceAdd, Nat.reduceMul, Nat.reduceSub, Nat.reduceLeDiff, Nat.reduceLT, Nat.reduceBEq, reduceCtorEq, g0, g1, g5, List.length_map, Nat.lt_irrefl, hb]
noncomputable def p157 : List AV → Option AV := primOf (α := (List (List Nat)) × (List (List Nat))) (fun x => [.ps .unk (x.1.map strRow), .ps .unk (x.2.map strRow)]) (fun x => x.1.length ≤ maxRows) (fun x => .bool (listB beqL x.1 x.2))
theorem pok157 : ∀ args v, p157 args = some v → ∀ lo H, CallOk NC lo 157 args H v H := by
  intro args v h
  obtain ⟨x, rfl, hp, rfl⟩ := primOf_inv h
  exact c157 x.1 x.2 hp
theorem pe157 (a b : List (List Nat)) (hp : a.length ≤ maxRows) : p157 [.ps .unk (a.map strRow), .ps .unk (b.map strRow)] = some (.bool (listB beqL a b)) := primOf_enc (α := (List (List Nat)) × (List (List Nat))) (enc := fun x => [.ps .unk (x.1.map strRow), .ps .unk (x.2.map strRow)]) (pre := fun x => x.1.length ≤ maxRows) (spec := fun x => .bool (listB beqL x.1 x.2)) (by intro x y h; (simp only [List.cons.injEq, AV.agg.injEq, AV.str.injEq, AV.int.injEq, AV.ps.injEq, AV.bool.injEq, Net.cells_iff, Ln.row_iff, Pc.row_iff, Mv.row_iff, lns_iff, pcs_iff, mvs_iff, ads_iff, strs_iff, true_and, and_true] at h; first | simpa only [Prod.ext_iff] using h | simpa only [Prod.ext_iff, and_assoc] using h)) (a, b) hp
def namedB (a : List (List Nat)) (e bad : Int) (w : List (List Nat)) : Bool := decide (e = bad) && ((!decide (bad = 0) && decide ((a.length : Int) = 0)) || (decide (bad = 0) && listB beqL a w))
noncomputable def PPF86 : FuncId → Option (List AV → Option AV) := addPrim 157 p157 (fun _ => none)
theorem primsF86 : PrimsOk NC PPF86 := primsOk_add (primsOk_none) (by kernel_rfl) (by kernel_rfl) pok157
theorem enF86_157 : En PPF86 157 p157 := enter_prim (by rfl) (by kernel_rfl)
attribute [go_sem ↓] enF86_157
theorem c86 (a : List (List Nat)) (e bad : Int) (w : List (List Nat)) (hp : a.length ≤ maxRows) : ∀ lo H, CallOk NC lo 86 [.ps .unk (a.map strRow), i64 e, i64 bad, .ps .unk (w.map strRow)] H (.bool (namedB a e bad w)) H := by
  refine contract saneNC primsF86 (fn := Tryz.f86) (by kernel_rfl) Tryz.func86 rfl rfl (by rfl) (by first | rfl | (split <;> first | rfl | (split <;> rfl))) ?_
  have e157 := pe157 a w hp
  unfold namedB
  rcases Classical.propComplete (e = bad) with q1 | q1 <;> rcases Classical.propComplete (bad = 0) with q2 | q2 <;> rcases Classical.propComplete ((a.length : Int) = 0) with q3 | q3 <;> simp only [go_sem, reduceIte, Nat.reduceEqDiff, Nat.reduceAdd, Nat.reduceMul, Nat.reduceSub, Nat.reduceLeDiff, Nat.reduceLT, Nat.reduceBEq, reduceCtorEq, List.length_map, q1, q2, q3, e157]
noncomputable def p86 : List AV → Option AV := primOf (α := (List (List Nat)) × (Int) × (Int) × (List (List Nat))) (fun x => [.ps .unk (x.1.map strRow), i64 x.2.1, i64 x.2.2.1, .ps .unk (x.2.2.2.map strRow)]) (fun x => x.1.length ≤ maxRows) (fun x => .bool (namedB x.1 x.2.1 x.2.2.1 x.2.2.2))
theorem pok86 : ∀ args v, p86 args = some v → ∀ lo H, CallOk NC lo 86 args H v H := by
  intro args v h
  obtain ⟨x, rfl, hp, rfl⟩ := primOf_inv h
  exact c86 x.1 x.2.1 x.2.2.1 x.2.2.2 hp
theorem pe86 (a : List (List Nat)) (e bad : Int) (w : List (List Nat)) (hp : a.length ≤ maxRows) : p86 [.ps .unk (a.map strRow), .int .i64 e, .int .i64 bad, .ps .unk (w.map strRow)] = some (.bool (namedB a e bad w)) := primOf_enc (α := (List (List Nat)) × (Int) × (Int) × (List (List Nat))) (enc := fun x => [.ps .unk (x.1.map strRow), i64 x.2.1, i64 x.2.2.1, .ps .unk (x.2.2.2.map strRow)]) (pre := fun x => x.1.length ≤ maxRows) (spec := fun x => .bool (namedB x.1 x.2.1 x.2.2.1 x.2.2.2)) (by intro x y h; (simp only [List.cons.injEq, AV.agg.injEq, AV.str.injEq, AV.int.injEq, AV.ps.injEq, AV.bool.injEq, Net.cells_iff, Ln.row_iff, Pc.row_iff, Mv.row_iff, lns_iff, pcs_iff, mvs_iff, ads_iff, strs_iff, true_and, and_true] at h; first | simpa only [Prod.ext_iff] using h | simpa only [Prod.ext_iff, and_assoc] using h)) (a, e, bad, w) hp
noncomputable def PPF85 : FuncId → Option (List AV → Option AV) := fun _ => none
theorem primsF85 : PrimsOk NC PPF85 := primsOk_none
theorem c85 (l : List Ad) (hp : l.length ≤ maxRows) : ∀ lo H, CallOk NC lo 85 [.ps .unk (l.map adRow)] H (.ps .unk (l.map adRow)) H := by
  refine contract saneNC primsF85 (fn := Tryz.f85) (by kernel_rfl) Tryz.func85 rfl rfl (by rfl) (by first | rfl | (split <;> first | rfl | (split <;> rfl))) ?_
  simp only [go_sem, reduceIte, Nat.reduceEqDiff, Nat.reduceAdd, Nat.reduceMul, Nat.reduceSub, Nat.reduceLeDiff, Nat.reduceLT, Nat.reduceBEq, reduceCtorEq]
  refine W_for (fun k T H M => M = [] ∧ getT T 6 = .ps .unk (l.map adRow) ∧ getT T 7 = i64 (l.length : Nat) ∧ getT T 8 = i64 k ∧ ∃ t, getT T 3 = .ps t ((l.take k).map adRow) ∧ App H t ((l.take k).map adRow) 3 30) l.length ?_ ?_ ?_
  · simp only [go_sem, reduceIte, Nat.reduceEqDiff, Nat.reduceAdd, Nat.reduceMul, Nat.reduceSub, Nat.reduceLeDiff, Nat.reduceLT, Nat.reduceBEq, reduceCtorEq, List.length_map]; exact ⟨.nil, by simp, .inl ⟨rfl, rfl⟩⟩
  · rintro k T H M hk ⟨rfl, g6, g7, g8, t, g3, hA⟩
    obtain ⟨x, hx⟩ : ∃ p, l[k]? = some p := ⟨l[k], by simp⟩
    have hr := map_at (f := adRow) hx
    have hw := wrap_succ hk hp
    have htk := take_map (f := adRow) hx
    obtain ⟨t', H1, ha, hB, hn1, hc1, _⟩ := app_any (H := (H.push (.cells [.str [], .int .i64 0, .int .i64 0] 42)).set H.n (.cells (adRow x) 42)) (hA.fresh _ _ rfl) (r := adRow x) (by simp; omega) rfl (by decide) (rows_all adRow_len _)
    obtain ⟨a, b, c⟩ := x
    simp only [adRow, i64] at hr ha
    simp only [go_sem, reduceIte, Nat.reduceEqDiff, Nat.reduceAdd, Nat.reduceMul, Nat.reduceSub, Nat.reduceLeDiff, Nat.reduceLT, Nat.reduceBEq, reduceCtorEq, g6, g7, g8, g3, List.length_map, hk, hr, hw, appO, ha]
    rw [htk]
    exact ⟨t', rfl, hB⟩
  · rintro T H M ⟨rfl, g6, g7, g8, t, g3, hA⟩
    simp only [go_sem, reduceIte, Nat.reduceEqDiff, Nat.reduceAdd, Nat.reduceMul, Nat.reduceSub, Nat.reduceLeDiff, Nat.reduceLT, Nat.reduceBEq, reduceCtorEq, g6, g7, g8, g3, List.take_length, Nat.lt_irrefl]
noncomputable def p85 : List AV → Option AV := primOf (α := (List Ad)) (fun x => [.ps .unk (x.map adRow)]) (fun x => x.length ≤ maxRows) (fun x => .ps .unk (x.map adRow))
theorem pok85 : ∀ args v, p85 args = some v → ∀ lo H, CallOk NC lo 85 args H v H := by
  intro args v h
  obtain ⟨x, rfl, hp, rfl⟩ := primOf_inv h
  exact c85 x hp
theorem pe85 (l : List Ad) (hp : l.length ≤ maxRows) : p85 [.ps .unk (l.map adRow)] = some (.ps .unk (l.map adRow)) := primOf_enc (α := (List Ad)) (enc := fun x => [.ps .unk (x.map adRow)]) (pre := fun x => x.length ≤ maxRows) (spec := fun x => .ps .unk (x.map adRow)) (by intro x y h; (simp only [List.cons.injEq, AV.agg.injEq, AV.str.injEq, AV.int.injEq, AV.ps.injEq, AV.bool.injEq, Net.cells_iff, Ln.row_iff, Pc.row_iff, Mv.row_iff, lns_iff, pcs_iff, mvs_iff, ads_iff, strs_iff, true_and, and_true] at h; first | simpa only [Prod.ext_iff] using h | simpa only [Prod.ext_iff, and_assoc] using h)) l hp
/-! ### The reference's Posts -/
def postAtR (l : Ln) (s : List Nat) (P : Int) (k : Nat) : List Ad := if decide (metreOfI l k P < 0) then [] else [(s, ((k : Nat) : Int), P)]
def postsRK (l : Ln) (s : List Nat) (P : Int) : Nat → List Ad
  | 0 => []
  | k + 1 => postsRK l s P k ++ postAtR l s P k
theorem postsRK_len (l : Ln) (s : List Nat) (P : Int) : ∀ k, (postsRK l s P k).length ≤ k
  | 0 => Nat.le_refl _
  | k + 1 => by
    have := postsRK_len l s P k
    unfold postsRK postAtR
    split <;> simp <;> omega
noncomputable def PPF82 : FuncId → Option (List AV → Option AV) := addPrim 107 p107 (addPrim 27 p27 (fun _ => none))
theorem primsF82 : PrimsOk NC PPF82 := primsOk_add (primsOk_add (primsOk_none) (by kernel_rfl) (by kernel_rfl) pok27) (by kernel_rfl) (by kernel_rfl) pok107
theorem enF82_27 : En PPF82 27 p27 := enter_prim (by rfl) (by kernel_rfl)
theorem enF82_107 : En PPF82 107 p107 := enter_prim (by rfl) (by kernel_rfl)
attribute [go_sem ↓] enF82_27 enF82_107
theorem c82 (n : Net) (s : List Nat) (P : Int) (hp : n.fits ∧ ∃ i, findL n.lines s = some i) : ∀ lo H, CallOk NC lo 82 [.agg n.cells, .str s, i64 P] H (.ps .unk ((postsRK (lnOf n.lines s) s P (lnOf n.lines s).ps.length).map adRow)) H := by
  refine contract saneNC primsF82 (fn := Tryz.f82) (by kernel_rfl) Tryz.func82 rfl rfl (by rfl) (by first | rfl | (split <;> first | rfl | (split <;> rfl))) ?_
  obtain ⟨hf, i, hi⟩ := hp
  obtain ⟨l, hl, hlt, hmem⟩ := findL_at hi
  have hlo : lnOf n.lines s = l := by unfold lnOf; rw [hi]; simp [hl]
  have hfit := hf.2 l hmem
  have e27 := pe27 (n, s) hf.1
  have hrl := map_at (f := Ln.row) hl
  have e107 := fun (k : Nat) (hk : k < l.ps.length) => pe107 (l, k, P) ⟨hfit, hk⟩
  simp only [findI, hi, Net.cells] at e27
  simp only [Ln.row, i64] at hrl e107
  rw [hlo]
  simp only [go_sem, reduceIte, Nat.reduceEqDiff, Nat.reduceAdd, Nat.reduceMul, Nat.reduceSub, Nat.reduceLeDiff, Nat.reduceLT, Nat.reduceBEq, reduceCtorEq, Net.cells, List.length_map, e27, hlt, hrl]
  refine W_for (fun k T H M => M = [] ∧ getT T 1 = .str s ∧ getT T 2 = i64 P ∧ getT T 7 = .ptr 1 0 ∧ getT T 9 = i64 k ∧ H.get 1 = .cells [.str l.name, .ps .unk (l.ps.map Pc.row)] 56 ∧ 1 < H.n ∧ ∃ t, getT T 8 = .ps t ((postsRK l s P k).map adRow) ∧ App H t ((postsRK l s P k).map adRow) 3 30) l.ps.length ?_ ?_ ?_
  · simp only [go_sem, reduceIte, Nat.reduceEqDiff, Nat.reduceAdd, Nat.reduceMul, Nat.reduceSub, Nat.reduceLeDiff, Nat.reduceLT, Nat.reduceBEq, reduceCtorEq]; exact ⟨.nil, rfl, .inl ⟨rfl, rfl⟩⟩
  · rintro k T H M hk ⟨rfl, g1, g2, g7, g9, h1, hn, t, g8, hA⟩
    have hw := wrap_succ hk hfit
    have ee := e107 k hk
    have hlen := postsRK_len l s P k
    have hsuc : postsRK l s P (k + 1) = postsRK l s P k ++ postAtR l s P k := rfl
    unfold postAtR at hsuc
    generalize metreOfI l k P = E at ee hsuc
    rcases Classical.propComplete (E < 0) with z | z
    · simp only [z, decide_true, if_true, List.append_nil] at hsuc
      simp only [go_sem, reduceIte, Nat.reduceEqDiff, Nat.reduceAdd, Nat.reduceMul, Nat.reduceSub, Nat.reduceLeDiff, Nat.reduceLT, Nat.reduceBEq, reduceCtorEq, g1, g2, g7, g9, g8, h1, List.length_map, hk, hw, ee, z]
      rw [hsuc]
      exact ⟨hn, t, rfl, hA⟩
    · simp only [z, decide_false, if_false, Bool.false_eq_true] at hsuc
      obtain ⟨t', H1, ha, hB, hn1, hc1, _⟩ := app_any hA (r := adRow (s, ((k : Nat) : Int), P)) (by simp; omega) rfl (by decide) (rows_all adRow_len _)
      have x1 := hc1 1 _ _ hn h1
      simp only [adRow, i64] at ha
      simp only [go_sem, reduceIte, Nat.reduceEqDiff, Nat.reduceAdd, Nat.reduceMul, Nat.reduceSub, Nat.reduceLeDiff, Nat.reduceLT, Nat.reduceBEq, reduceCtorEq, g1, g2, g7, g9, g8, h1, List.length_map, hk, hw, ee, z, appO, ha, x1]
      rw [hsuc, List.map_append]
      exact ⟨by omega, t', rfl, hB⟩
  · rintro T H M ⟨rfl, g1, g2, g7, g9, h1, hn, t, g8, hA⟩
    simp only [go_sem, reduceIte, Nat.reduceEqDiff, Nat.reduceAdd, Nat.reduceMul, Nat.reduceSub, Nat.reduceLeDiff, Nat.reduceLT, Nat.reduceBEq, reduceCtorEq, g1, g2, g7, g9, g8, h1, List.length_map, Nat.lt_irrefl]
noncomputable def p82 : List AV → Option AV := primOf (α := (Net) × (List Nat) × (Int)) (fun x => [.agg x.1.cells, .str x.2.1, i64 x.2.2]) (fun x => x.1.fits ∧ ∃ i, findL x.1.lines x.2.1 = some i) (fun x => .ps .unk ((postsRK (lnOf x.1.lines x.2.1) x.2.1 x.2.2 (lnOf x.1.lines x.2.1).ps.length).map adRow))
theorem pok82 : ∀ args v, p82 args = some v → ∀ lo H, CallOk NC lo 82 args H v H := by
  intro args v h
  obtain ⟨x, rfl, hp, rfl⟩ := primOf_inv h
  exact c82 x.1 x.2.1 x.2.2 hp
theorem pe82 (n : Net) (s : List Nat) (P : Int) (hp : n.fits ∧ ∃ i, findL n.lines s = some i) : p82 [.agg n.cells, .str s, .int .i64 P] = some (.ps .unk ((postsRK (lnOf n.lines s) s P (lnOf n.lines s).ps.length).map adRow)) := primOf_enc (α := (Net) × (List Nat) × (Int)) (enc := fun x => [.agg x.1.cells, .str x.2.1, i64 x.2.2]) (pre := fun x => x.1.fits ∧ ∃ i, findL x.1.lines x.2.1 = some i) (spec := fun x => .ps .unk ((postsRK (lnOf x.1.lines x.2.1) x.2.1 x.2.2 (lnOf x.1.lines x.2.1).ps.length).map adRow)) (by intro x y h; (simp only [List.cons.injEq, AV.agg.injEq, AV.str.injEq, AV.int.injEq, AV.ps.injEq, AV.bool.injEq, Net.cells_iff, Ln.row_iff, Pc.row_iff, Mv.row_iff, lns_iff, pcs_iff, mvs_iff, ads_iff, strs_iff, true_and, and_true] at h; first | simpa only [Prod.ext_iff] using h | simpa only [Prod.ext_iff, and_assoc] using h)) (n, s, P) hp
end Go.Sim

/-
Further facts on the types and the regions of this program.
-/
namespace Go.Sim
open Go Go.Proofs
theorem un_376 : NC.P.underlying 376 = some (.int .u64) := by kernel_rfl
theorem ze_376 : zeroOf NC.P 376 = some (.int .u64 0) := by kernel_rfl
theorem sz_376 : szOf NC.P 376 = some 1 := by kernel_rfl
theorem ze_388 : zeroOf NC.P 388 = some (.agg [.int .u8 0, .int .u8 0, .int .u8 0, .int .u8 0, .int .u8 0, .int .u8 0, .int .u8 0, .int .u8 0, .int .u8 0, .int .u8 0, .int .u8 0, .int .u8 0, .int .u8 0, .int .u8 0, .int .u8 0, .int .u8 0, .int .u8 0, .int .u8 0, .int .u8 0, .int .u8 0, .int .u8 0, .int .u8 0, .int .u8 0, .int .u8 0]) := by kernel_rfl
theorem un_2 : NC.P.underlying 2 = some (.int .i64) := by kernel_rfl
theorem un_388 : NC.P.underlying 388 = some (.array 24 5) := by kernel_rfl
theorem ag_376 : aggOf NC.P 376 = some false := by kernel_rfl
theorem pl_248_4 (P : FuncId → Option (List AV → Option AV)) : (NC.withPrims P).plans 248 4 = [⟨.data, 0, 0, []⟩, ⟨.data, 0, 0, []⟩, ⟨.data, 0, 3, []⟩, ⟨.data, 0, 7, []⟩, ⟨.data, 0, 15, []⟩, ⟨.data, 0, 15, []⟩, ⟨.data, 0, 15, []⟩, ⟨.data, 0, 111, []⟩, ⟨.load, 0, 239, []⟩, ⟨.data, 0, 15, []⟩, ⟨.data, 0, 15, []⟩, ⟨.data, 0, 1039, []⟩, ⟨.data, 0, 3599, []⟩, ⟨.load, 0, 7695, []⟩, ⟨.write, 0, 16383, []⟩, ⟨.data, 1, 32767, []⟩, ⟨.data, 1, 65535, []⟩] := by kernel_rfl
theorem pl_248_6 (P : FuncId → Option (List AV → Option AV)) : (NC.withPrims P).plans 248 6 = [⟨.data, 0, 0, []⟩, ⟨.data, 0, 0, []⟩, ⟨.data, 0, 0, []⟩, ⟨.data, 0, 0, []⟩, ⟨.data, 0, 8, []⟩, ⟨.data, 0, 0, []⟩, ⟨.data, 0, 0, []⟩, ⟨.data, 0, 64, []⟩, ⟨.data, 0, 224, []⟩, ⟨.load, 0, 480, []⟩, ⟨.data, 0, 0, []⟩, ⟨.data, 0, 0, []⟩, ⟨.data, 0, 3072, []⟩, ⟨.load, 0, 7168, []⟩, ⟨.data, 0, 16355, []⟩, ⟨.writeAt, 0, 32739, []⟩, ⟨.data, 1, 65535, []⟩, ⟨.writeAt, 1, 131071, []⟩] := by kernel_rfl
attribute [go_sem] un_376 ze_376 sz_376 ze_388 un_2 un_388 ag_376 pl_248_4 pl_248_6
end Go.Sim

/-
Sorting by insertion: the plain law.
-/
namespace Go.Sim
section
variable {α : Type} (lt : α → α → Bool)
def insRev (x : α) : List α → List α
  | [] => [x]
  | y :: r => if lt x y then y :: insRev x r else x :: y :: r
def isortRev : List α → List α → List α
  | acc, [] => acc
  | acc, x :: r => isortRev (insRev lt x acc) r
def isort (l : List α) : List α := (isortRev lt [] l).reverse
theorem insRev_cons (x y : α) (r : List α) : insRev lt x (y :: r) = if lt x y then y :: insRev lt x r else x :: y :: r := rfl
theorem isortRev_append : ∀ (l m acc : List α), isortRev lt acc (l ++ m) = isortRev lt (isortRev lt acc l) m
  | [], _, _ => rfl
  | x :: r, m, acc => by
    show isortRev lt (insRev lt x acc) (r ++ m) = _
    rw [isortRev_append r m]; rfl
theorem insRev_perm (x : α) : ∀ l : List α, List.Perm (insRev lt x l) (x :: l)
  | [] => List.Perm.refl _
  | y :: r => by
    unfold insRev
    split
    · exact ((insRev_perm x r).cons y).trans (List.Perm.swap x y r)
    · exact List.Perm.refl _
theorem isortRev_perm : ∀ (l acc : List α), List.Perm (isortRev lt acc l) (acc ++ l)
  | [], acc => by simp [isortRev]
  | x :: r, acc => by
    show List.Perm (isortRev lt (insRev lt x acc) r) _
    refine (isortRev_perm r _).trans ?_
    refine ((insRev_perm lt x acc).append_right r).trans ?_
    exact List.perm_middle.symm
theorem isort_perm (l : List α) : List.Perm (isort lt l) l := by
  unfold isort
  exact (List.reverse_perm _).trans (by simpa using isortRev_perm lt l [])
theorem isort_length (l : List α) : (isort lt l).length = l.length := (isort_perm lt l).length_eq
theorem isort_snoc (l : List α) (x : α) : isort lt (l ++ [x]) = (insRev lt x (isort lt l).reverse).reverse := by
  unfold isort
  rw [isortRev_append, List.reverse_reverse]; rfl
theorem ins_at {pre suf : List α} {x : α} (h1 : ∀ y ∈ suf, lt x y = true) (h2 : pre = [] ∨ ∃ p y, pre = p ++ [y] ∧ lt x y = false) : (insRev lt x (pre ++ suf).reverse).reverse = pre ++ x :: suf := by
  have key : ∀ (s p : List α), (∀ y ∈ s, lt x y = true) → insRev lt x (s ++ p) = s ++ insRev lt x p := by
    intro s
    induction s with
    | nil => intro p _; rfl
    | cons y r ih =>
      intro p h
      rw [List.cons_append, insRev_cons, if_pos (h y (by simp)), ih p fun z hz => h z (by simp [hz])]; rfl
  rw [List.reverse_append, key _ _ fun y hy => h1 y (by simpa using hy)]
  have : insRev lt x pre.reverse = x :: pre.reverse := by
    rcases h2 with rfl | ⟨p, y, rfl, hy⟩
    · rfl
    · rw [List.reverse_append]
      show insRev lt x (y :: p.reverse) = _
      rw [insRev_cons, if_neg (by rw [hy]; simp)]; rfl
  rw [this]
  simp
variable (asym : ∀ a b, lt a b = true → lt b a = false) (tr : ∀ a b c, lt b a = false → lt c b = false → lt c a = false)
include asym tr
theorem insRev_sorted (x : α) : ∀ l : List α, l.Pairwise (fun a b => lt a b = false) → (insRev lt x l).Pairwise (fun a b => lt a b = false)
  | [], _ => by simp [insRev]
  | y :: r, h => by
    have hc := List.pairwise_cons.1 h
    unfold insRev
    split
    · rename_i hxy
      rw [List.pairwise_cons]
      refine ⟨fun z hz => ?_, insRev_sorted x r hc.2⟩
      rcases List.mem_cons.1 ((insRev_perm lt x r).mem_iff.1 hz) with rfl | hz
      · exact asym _ _ hxy
      · exact hc.1 z hz
    · rename_i hxy
      have hxy : lt x y = false := by simpa using hxy
      rw [List.pairwise_cons]
      refine ⟨fun z hz => ?_, h⟩
      rcases List.mem_cons.1 hz with rfl | hz
      · exact hxy
      · exact tr z y x (hc.1 z hz) hxy
theorem isortRev_sorted : ∀ (l acc : List α), acc.Pairwise (fun a b => lt a b = false) → (isortRev lt acc l).Pairwise (fun a b => lt a b = false)
  | [], _, h => h
  | x :: r, acc, h => isortRev_sorted r _ (insRev_sorted lt asym tr x acc h)
theorem isort_sorted (l : List α) : (isort lt l).Pairwise (fun a b => lt b a = false) := by
  unfold isort
  rw [List.pairwise_reverse]
  exact isortRev_sorted lt asym tr l [] List.Pairwise.nil
end
/-! ### By a key: what is alike keeps its order -/
section
variable {α : Type} (key : α → Int)
def keyLt (a b : α) : Bool := decide (key a < key b)
theorem keyLt_asym (a b : α) (h : keyLt key a b = true) : keyLt key b a = false := by
  unfold keyLt at *
  simp only [decide_eq_true_eq, decide_eq_false_iff_not] at *
  omega
theorem keyLt_tr (a b c : α) (h1 : keyLt key b a = false) (h2 : keyLt key c b = false) : keyLt key c a = false := by
  unfold keyLt at *
  simp only [decide_eq_false_iff_not] at *
  omega
def withKey (k : Int) (l : List α) : List α := l.filter fun x => decide (key x = k)
theorem insRev_with (k : Int) (x : α) : ∀ l : List α, withKey key k (insRev (keyLt key) x l) = withKey key k (x :: l)
  | [] => rfl
  | y :: r => by
    unfold insRev
    split
    · rename_i h
      have hlt : key x < key y := by unfold keyLt at h; simpa using h
      have ih := insRev_with k x r
      unfold withKey at ih ⊢
      rw [List.filter_cons, ih]
      by_cases h1 : key y = k
      · have h2 : ¬ key x = k := by omega
        simp [List.filter_cons, h1, h2]
      · by_cases h2 : key x = k <;> simp [List.filter_cons, h1, h2]
    · rfl
theorem isortRev_with (k : Int) : ∀ (l acc : List α), withKey key k (isortRev (keyLt key) acc l) = withKey key k (l.reverse ++ acc)
  | [], acc => rfl
  | x :: r, acc => by
    show withKey key k (isortRev (keyLt key) (insRev (keyLt key) x acc) r) = _
    rw [isortRev_with k r]
    have := insRev_with key k x acc
    unfold withKey at this ⊢
    rw [List.filter_append, this, List.reverse_cons, List.append_assoc, List.filter_append]
    rfl
theorem isort_with (k : Int) (l : List α) : withKey key k (isort (keyLt key) l) = withKey key k l := by
  have h := isortRev_with key k l []
  unfold isort
  unfold withKey at h ⊢
  rw [List.filter_reverse, h, List.append_nil, List.filter_reverse, List.reverse_reverse]
theorem asc_with : ∀ {l m : List α}, l.Pairwise (fun a b => key a ≤ key b) → m.Pairwise (fun a b => key a ≤ key b) → (∀ k, withKey key k l = withKey key k m) → l = m
  | [], [], _, _, _ => rfl
  | [], b :: m, _, _, h => by
    have := h (key b)
    simp [withKey] at this
  | a :: l, [], _, _, h => by
    have := h (key a)
    simp [withKey] at this
  | a :: l, b :: m, h1, h2, h => by
    rw [List.pairwise_cons] at h1 h2
    have e1 : key a = key b := by
      have ha : a ∈ withKey key (key a) (b :: m) := by
        rw [← h (key a)]; simp [withKey]
      have hb : b ∈ withKey key (key b) (a :: l) := by
        rw [h (key b)]; simp [withKey]
      unfold withKey at ha hb
      rw [List.mem_filter] at ha hb
      have h3 : key b ≤ key a := by
        rcases List.mem_cons.1 ha.1 with e | e
        · rw [e]; exact Int.le_refl _
        · exact h2.1 a e
      have h4 : key a ≤ key b := by
        rcases List.mem_cons.1 hb.1 with e | e
        · rw [e]; exact Int.le_refl _
        · exact h1.1 b e
      omega
    have hk := h (key a)
    have e2 : a = b := by
      unfold withKey at hk
      rw [List.filter_cons, List.filter_cons, if_pos (by simp), if_pos (by simp [e1])] at hk
      exact (List.cons.inj hk).1
    subst e2
    rw [asc_with h1.2 h2.2 fun k => ?_]
    have hk := h k
    unfold withKey at hk ⊢
    rw [List.filter_cons, List.filter_cons] at hk
    split at hk
    · exact (List.cons.inj hk).2
    · exact hk
theorem isort_asc (l : List α) : (isort (keyLt key) l).Pairwise (fun a b => key a ≤ key b) :=
  (isort_sorted (keyLt key) (keyLt_asym key) (keyLt_tr key) l).imp fun h => by unfold keyLt at h; simpa using h
end
end Go.Sim

/-
Rows that lie one behind the other.
-/
namespace Go.Sim
open Go
/-! ### Small numbers -/
theorem wl01 : wrapq .i64 (Int.add 0 1) = 1 := rfl
theorem wl12 : wrapq .i64 (Int.add 1 1) = 2 := rfl
theorem i02 : ((0 : Int) < 2) = True := by simp
theorem i12 : ((1 : Int) < 2) = True := by simp
theorem i22 : ((2 : Int) < 2) = False := by simp
def Even (sz : Nat) (rows : List (List AV)) : Prop := ∀ r ∈ rows, r.length = sz
theorem Even.map {α : Type} {sz : Nat} {f : α → List AV} (hf : ∀ x, (f x).length = sz) (l : List α) : Even sz (l.map f) := by
  intro r hr
  obtain ⟨x, _, rfl⟩ := List.mem_map.1 hr
  exact hf x
theorem fl_len {sz : Nat} : ∀ {rows : List (List AV)}, Even sz rows → rows.flatten.length = rows.length * sz
  | [], _ => by simp
  | r :: rs, h => by
    rw [List.flatten_cons, List.length_append, h r (by simp), fl_len fun x hx => h x (by simp [hx]), List.length_cons, Nat.succ_mul, Nat.add_comm]
theorem fl_split {sz : Nat} : ∀ {rows : List (List AV)} {j : Nat} {r : List AV}, Even sz rows → rows[j]? = some r → ∃ a b, rows.flatten = a ++ r ++ b ∧ a.length = j * sz ∧ (∀ v, (rows.set j v).flatten = a ++ v ++ b)
  | [], j, r, _, h => by simp at h
  | x :: xs, 0, r, he, h => by
    simp at h; subst h
    exact ⟨[], xs.flatten, by simp, by simp, fun v => by simp⟩
  | x :: xs, j + 1, r, he, h => by
    have h' : xs[j]? = some r := by simpa using h
    obtain ⟨a, b, h1, h2, h3⟩ := fl_split (fun y hy => he y (by simp [hy])) h'
    refine ⟨x ++ a, b, by rw [List.flatten_cons, h1]; simp, by rw [List.length_append, h2, he x (by simp), Nat.succ_mul, Nat.add_comm], fun v => ?_⟩
    rw [List.set_cons_succ, List.flatten_cons, h3]; simp
theorem fl_at {sz : Nat} {rows : List (List AV)} {j : Nat} {r : List AV} (he : Even sz rows) (h : rows[j]? = some r) : j * sz + sz ≤ rows.flatten.length ∧ (rows.flatten.drop (j * sz)).take sz = r := by
  obtain ⟨a, b, h1, h2, _⟩ := fl_split he h
  have hr := he r (List.mem_of_getElem? h)
  rw [h1]
  refine ⟨by simp; omega, ?_⟩
  rw [List.append_assoc, ← h2, List.drop_left, ← hr, List.take_left]
theorem fl_over {sz : Nat} {rows : List (List AV)} {j : Nat} {r v : List AV} (he : Even sz rows) (h : rows[j]? = some r) (hv : v.length = sz) : over rows.flatten (j * sz) v = (rows.set j v).flatten := by
  obtain ⟨a, b, h1, h2, h3⟩ := fl_split he h
  have hr := he r (List.mem_of_getElem? h)
  have ht : (a ++ r ++ b).take a.length = a := by rw [List.append_assoc, List.take_left]
  have hd : (a ++ r ++ b).drop (a.length + sz) = b := by
    have e : a.length + sz = (a ++ r).length := by rw [List.length_append, hr]
    rw [e, List.drop_left]
  rw [h3 v, h1]
  unfold over
  rw [hv, ← h2, ht, hd]
theorem Even.set {sz : Nat} {rows : List (List AV)} (he : Even sz rows) {j : Nat} {v : List AV} (hv : v.length = sz) : Even sz (rows.set j v) := by
  intro r hr
  rcases List.mem_or_eq_of_mem_set hr with h | h
  · exact he r h
  · subst h; exact hv
theorem Even.append {sz : Nat} {a b : List (List AV)} (ha : Even sz a) (hb : Even sz b) : Even sz (a ++ b) := fun r hr => (List.mem_append.1 hr).elim (ha r) (hb r)
theorem swap_rows {α : Type} (f : α → List AV) (p s : List α) (x y : α) :
    ((((p ++ y :: x :: s).map f).set (p.length + 1) (f y)).set p.length (f x)) = (p ++ x :: y :: s).map f := by
  have key : ∀ (a : List (List AV)) (u v w z : List AV) (b : List (List AV)), ((a ++ u :: v :: b).set (a.length + 1) w).set a.length z = a ++ z :: w :: b := by
    intro a u v w z b
    induction a with
    | nil => rfl
    | cons c r ih => simp only [List.cons_append, List.length_cons, List.set_cons_succ, ih]
  have := key (p.map f) (f y) (f x) (f y) (f x) (s.map f)
  rw [List.length_map] at this
  rw [List.map_append, List.map_cons, List.map_cons, this, List.map_append, List.map_cons, List.map_cons]
end Go.Sim

/-
Ends of switches; where a switch lies on a line.
-/
namespace Go.Sim
open Go Go.Proofs
set_option maxRecDepth 100000
set_option maxHeartbeats 8000000
theorem Sw.row_iff (a b : Sw) : a.row = b.row ↔ a = b := ⟨Sw.row_inj a b, fun h => by rw [h]⟩
-- INJ Sw.row_iff Br.row_iff
structure Br where
  sw : Sw
  at' : Int
def Br.row (b : Br) : List AV := [.str b.sw.name, .str b.sw.line, i64 b.sw.metre, .str b.sw.other, .bool b.sw.last, i64 b.at']
theorem Br.row_len (b : Br) : b.row.length = 6 := rfl
theorem Br.row_inj (a b : Br) (h : a.row = b.row) : a = b := by
  obtain ⟨⟨a1, a2, a3, a4, a5⟩, a6⟩ := a
  obtain ⟨⟨b1, b2, b3, b4, b5⟩, b6⟩ := b
  simp only [Br.row, List.cons.injEq, AV.str.injEq, AV.int.injEq, AV.bool.injEq, true_and, and_true] at h
  obtain ⟨rfl, rfl, rfl, rfl, rfl, rfl⟩ := h; rfl
theorem Br.row_iff (a b : Br) : a.row = b.row ↔ a = b := ⟨Br.row_inj a b, fun h => by rw [h]⟩
theorem evalO_str0 {C : Cfg} {T : TT AV} : evalO C T (.const (.string { data := #[] })) = some (.str []) := rfl
attribute [go_sem] evalO_str0
theorem ab259 (a c : List Nat) (b d : Int) : abuild NC.P 259 [(0, .agg [.str a, .int .i64 b]), (1, .agg [.str c, .int .i64 d])] = some (.agg [.str a, .int .i64 b, .str c, .int .i64 d]) := by kernel_rfl
theorem ab137 (a c : List Nat) (b d : Int) : abuild NC.P 137 [(0, .agg [.str a, .int .i64 b]), (1, .agg [.str c, .int .i64 d])] = some (.agg [.str a, .int .i64 b, .str c, .int .i64 d]) := by kernel_rfl
attribute [go_sem] ab259 ab137
def endM (n : Net) (s : Sw) : Int := if s.last then wrapq .i64 (Int.sub (sumW (lnOf n.lines s.other).ps 0) 1) else 0
noncomputable def PPF151 : FuncId → Option (List AV → Option AV) := addPrim 99 p99 (addPrim 98 p98 (fun _ => none))
theorem primsF151 : PrimsOk NC PPF151 := primsOk_add (primsOk_add (primsOk_none) (by kernel_rfl) (by kernel_rfl) pok98) (by kernel_rfl) (by kernel_rfl) pok99
theorem enF151_98 : En PPF151 98 p98 := enter_prim (by rfl) (by kernel_rfl)
theorem enF151_99 : En PPF151 99 p99 := enter_prim (by rfl) (by kernel_rfl)
attribute [go_sem ↓] enF151_98 enF151_99
theorem c151 (n : Net) (s : Sw) (hp : n.Ok) : ∀ lo H, CallOk NC lo 151 [.agg n.cells, .agg s.row] H (.agg [.str s.line, i64 s.metre, .str s.other, i64 (endM n s)]) H := by
  refine contract saneNC primsF151 (fn := Tryz.f151) (by kernel_rfl) Tryz.func151 rfl rfl (by rfl) rfl ?_
  have e98 : p98 [.agg n.cells, .str s.other] = some (.tup [.agg (lnOf n.lines s.other).row, .bool (lnB n.lines s.other)]) := pe98 (n, s.other) hp.lines
  have e99 := pe99 (lnOf n.lines s.other) (lnOf_fits fun l hl => (hp.line l hl).2)
  have hE : endM n s = if s.last then wrapq .i64 (Int.sub (sumW (lnOf n.lines s.other).ps 0) 1) else 0 := rfl
  rw [hE]
  simp only [Net.cells] at e98
  generalize lnOf n.lines s.other = l at e98 e99
  obtain ⟨a, b, c, d, e⟩ := s
  obtain ⟨ln, lp⟩ := l
  simp only [Ln.row] at e98 e99
  cases e <;> simp only [go_sem, reduceIte, Nat.reduceEqDiff, Nat.reduceAdd, Nat.reduceMul, Nat.reduceSub, Nat.reduceLeDiff, Nat.reduceLT, Nat.reduceBEq, reduceCtorEq, Net.cells, Sw.row, e98, e99]
noncomputable def p151 : List AV → Option AV := primOf (α := (Net) × (Sw)) (fun x => [.agg x.1.cells, .agg x.2.row]) (fun x => x.1.Ok) (fun x => .agg [.str x.2.line, i64 x.2.metre, .str x.2.other, i64 (endM x.1 x.2)])
theorem pok151 : ∀ args v, p151 args = some v → ∀ lo H, CallOk NC lo 151 args H v H := by
  intro args v h
  obtain ⟨x, rfl, hp, rfl⟩ := primOf_inv h
  exact c151 x.1 x.2 hp
theorem pe151 (n : Net) (s : Sw) (hp : n.Ok) : p151 [.agg n.cells, .agg s.row] = some (.agg [.str s.line, .int .i64 s.metre, .str s.other, .int .i64 (endM n s)]) := primOf_enc (α := (Net) × (Sw)) (enc := fun x => [.agg x.1.cells, .agg x.2.row]) (pre := fun x => x.1.Ok) (spec := fun x => .agg [.str x.2.line, i64 x.2.metre, .str x.2.other, i64 (endM x.1 x.2)]) (by intro x y h; (simp only [List.cons.injEq, AV.agg.injEq, AV.str.injEq, AV.int.injEq, AV.ps.injEq, AV.bool.injEq, Net.cells_iff, Ln.row_iff, Pc.row_iff, Mv.row_iff, lns_iff, pcs_iff, mvs_iff, Sw.row_iff, Br.row_iff, true_and, and_true] at h; first | simpa only [Prod.ext_iff] using h | simpa only [Prod.ext_iff, and_assoc] using h)) (n, s) hp
noncomputable def PPF207 : FuncId → Option (List AV → Option AV) := addPrim 26 p26 (addPrim 27 p27 (fun _ => none))
theorem primsF207 : PrimsOk NC PPF207 := primsOk_add (primsOk_add (primsOk_none) (by kernel_rfl) (by kernel_rfl) pok27) (by kernel_rfl) (by kernel_rfl) pok26
theorem enF207_27 : En PPF207 27 p27 := enter_prim (by rfl) (by kernel_rfl)
theorem enF207_26 : En PPF207 26 p26 := enter_prim (by rfl) (by kernel_rfl)
attribute [go_sem ↓] enF207_27 enF207_26
theorem c207 (n : Net) (s : Sw) (hp : n.fits ∧ (s.last = true → ∃ i, findL n.lines s.other = some i)) : ∀ lo H, CallOk NC lo 207 [.agg n.cells, .agg s.row] H (.agg [.str s.line, i64 s.metre, .str s.other, i64 (endM n s)]) H := by
  refine contract saneNC primsF207 (fn := Tryz.f207) (by kernel_rfl) Tryz.func207 rfl rfl (by rfl) rfl ?_
  have e27 : p27 [.agg n.cells, .str s.other] = some (.int .i64 (findI n.lines s.other)) := pe27 (n, s.other) hp.1.1
  have hE : endM n s = if s.last then wrapq .i64 (Int.sub (sumW (lnOf n.lines s.other).ps 0) 1) else 0 := rfl
  rw [hE]
  have hlast := hp.2
  have hfit := hp.1.2
  cases hb : s.last with
  | false =>
    obtain ⟨a, b, c, d, e⟩ := s
    simp only at hb
    simp only [go_sem, reduceIte, Nat.reduceEqDiff, Nat.reduceAdd, Nat.reduceMul, Nat.reduceSub, Nat.reduceLeDiff, Nat.reduceLT, Nat.reduceBEq, reduceCtorEq, Net.cells, Sw.row, hb]
  | true =>
    obtain ⟨i, hi⟩ := hlast hb
    obtain ⟨l, hl, hlt, hmem⟩ := findL_at hi
    have hlo : lnOf n.lines s.other = l := by unfold lnOf; rw [hi]; simp [hl]
    have hrl := map_at (f := Ln.row) hl
    have e26 := pe26 l (hfit l hmem)
    simp only [findI, hi, Net.cells] at e27
    rw [hlo]
    obtain ⟨a, b, c, d, e⟩ := s
    simp only [Ln.row, i64] at hrl e26
    simp only at hb e27
    simp only [go_sem, reduceIte, Nat.reduceEqDiff, Nat.reduceAdd, Nat.reduceMul, Nat.reduceSub, Nat.reduceLeDiff, Nat.reduceLT, Nat.reduceBEq, reduceCtorEq, Net.cells, Sw.row, hb, e27, e26, List.length_map, hlt, hrl]
noncomputable def p207 : List AV → Option AV := primOf (α := (Net) × (Sw)) (fun x => [.agg x.1.cells, .agg x.2.row]) (fun x => x.1.fits ∧ (x.2.last = true → ∃ i, findL x.1.lines x.2.other = some i)) (fun x => .agg [.str x.2.line, i64 x.2.metre, .str x.2.other, i64 (endM x.1 x.2)])
theorem pok207 : ∀ args v, p207 args = some v → ∀ lo H, CallOk NC lo 207 args H v H := by
  intro args v h
  obtain ⟨x, rfl, hp, rfl⟩ := primOf_inv h
  exact c207 x.1 x.2 hp
theorem pe207 (n : Net) (s : Sw) (hp : n.fits ∧ (s.last = true → ∃ i, findL n.lines s.other = some i)) : p207 [.agg n.cells, .agg s.row] = some (.agg [.str s.line, .int .i64 s.metre, .str s.other, .int .i64 (endM n s)]) := primOf_enc (α := (Net) × (Sw)) (enc := fun x => [.agg x.1.cells, .agg x.2.row]) (pre := fun x => x.1.fits ∧ (x.2.last = true → ∃ i, findL x.1.lines x.2.other = some i)) (spec := fun x => .agg [.str x.2.line, i64 x.2.metre, .str x.2.other, i64 (endM x.1 x.2)]) (by intro x y h; (simp only [List.cons.injEq, AV.agg.injEq, AV.str.injEq, AV.int.injEq, AV.ps.injEq, AV.bool.injEq, Net.cells_iff, Ln.row_iff, Pc.row_iff, Mv.row_iff, lns_iff, pcs_iff, mvs_iff, Sw.row_iff, Br.row_iff, true_and, and_true] at h; first | simpa only [Prod.ext_iff] using h | simpa only [Prod.ext_iff, and_assoc] using h)) (n, s) hp
def atS (n : Net) (s : Sw) (w : List Nat) : Int := if beqL s.line w then s.metre else if beqL s.other w then endM n s else -1
noncomputable def PPF156 : FuncId → Option (List AV → Option AV) := addPrim 207 p207 (fun _ => none)
theorem primsF156 : PrimsOk NC PPF156 := primsOk_add (primsOk_none) (by kernel_rfl) (by kernel_rfl) pok207
theorem enF156_207 : En PPF156 207 p207 := enter_prim (by rfl) (by kernel_rfl)
attribute [go_sem ↓] enF156_207
theorem c156 (n : Net) (s : Sw) (w : List Nat) (hp : n.fits ∧ (s.last = true → ∃ i, findL n.lines s.other = some i)) : ∀ lo H, CallOk NC lo 156 [.agg n.cells, .agg s.row, .str w] H (i64 (atS n s w)) H := by
  refine contract saneNC primsF156 (fn := Tryz.f156) (by kernel_rfl) Tryz.func156 rfl rfl (by rfl) (by first | rfl | (split <;> first | rfl | (split <;> rfl))) ?_
  have e207 : p207 [.agg n.cells, .agg s.row] = some (.agg [.str s.line, .int .i64 s.metre, .str s.other, .int .i64 (endM n s)]) := pe207 n s hp
  have hA : atS n s w = if beqL s.line w then s.metre else if beqL s.other w then endM n s else -1 := rfl
  rw [hA]
  generalize endM n s = E at e207
  obtain ⟨a, b, c, d, e⟩ := s
  simp only [Sw.row, Net.cells, i64] at e207
  cases h1 : beqL b w <;> cases h2 : beqL d w <;> simp only [go_sem, reduceIte, Nat.reduceEqDiff, Nat.reduceAdd, Nat.reduceMul, Nat.reduceSub, Nat.reduceLeDiff, Nat.reduceLT, Nat.reduceBEq, reduceCtorEq, W_loop, Net.cells, Sw.row, e207, i02, i12, i22, wl01, wl12, h1, h2]
noncomputable def p156 : List AV → Option AV := primOf (α := (Net) × (Sw) × (List Nat)) (fun x => [.agg x.1.cells, .agg x.2.1.row, .str x.2.2]) (fun x => x.1.fits ∧ (x.2.1.last = true → ∃ i, findL x.1.lines x.2.1.other = some i)) (fun x => i64 (atS x.1 x.2.1 x.2.2))
theorem pok156 : ∀ args v, p156 args = some v → ∀ lo H, CallOk NC lo 156 args H v H := by
  intro args v h
  obtain ⟨x, rfl, hp, rfl⟩ := primOf_inv h
  exact c156 x.1 x.2.1 x.2.2 hp
theorem pe156 (n : Net) (s : Sw) (w : List Nat) (hp : n.fits ∧ (s.last = true → ∃ i, findL n.lines s.other = some i)) : p156 [.agg n.cells, .agg s.row, .str w] = some (.int .i64 (atS n s w)) := primOf_enc (α := (Net) × (Sw) × (List Nat)) (enc := fun x => [.agg x.1.cells, .agg x.2.1.row, .str x.2.2]) (pre := fun x => x.1.fits ∧ (x.2.1.last = true → ∃ i, findL x.1.lines x.2.1.other = some i)) (spec := fun x => i64 (atS x.1 x.2.1 x.2.2)) (by intro x y h; (simp only [List.cons.injEq, AV.agg.injEq, AV.str.injEq, AV.int.injEq, AV.ps.injEq, AV.bool.injEq, Net.cells_iff, Ln.row_iff, Pc.row_iff, Mv.row_iff, lns_iff, pcs_iff, mvs_iff, Sw.row_iff, Br.row_iff, true_and, and_true] at h; first | simpa only [Prod.ext_iff] using h | simpa only [Prod.ext_iff, and_assoc] using h)) (n, s, w) hp
/-! ### Branches of the program -/
noncomputable def PPF153 : FuncId → Option (List AV → Option AV) := fun _ => none
theorem primsF153 : PrimsOk NC PPF153 := primsOk_none
theorem c153 (a b : Br) : ∀ lo H, CallOk NC lo 153 [.agg a.row, .agg b.row] H (i64 (wrapq .i64 (Int.sub a.at' b.at'))) H := by
  refine contract saneNC primsF153 (fn := Tryz.f153) (by kernel_rfl) Tryz.func153 rfl rfl (by rfl) (by first | rfl | (split <;> first | rfl | (split <;> rfl))) ?_
  obtain ⟨⟨a1, a2, a3, a4, a5⟩, a6⟩ := a
  obtain ⟨⟨b1, b2, b3, b4, b5⟩, b6⟩ := b
  simp only [go_sem, reduceIte, Nat.reduceEqDiff, Nat.reduceAdd, Nat.reduceMul, Nat.reduceSub, Nat.reduceLeDiff, Nat.reduceLT, Nat.reduceBEq, reduceCtorEq, Br.row]
noncomputable def p153 : List AV → Option AV := primOf (α := (Br) × (Br)) (fun x => [.agg x.1.row, .agg x.2.row]) (fun x => True) (fun x => i64 (wrapq .i64 (Int.sub x.1.at' x.2.at')))
theorem pok153 : ∀ args v, p153 args = some v → ∀ lo H, CallOk NC lo 153 args H v H := by
  intro args v h
  obtain ⟨x, rfl, hp, rfl⟩ := primOf_inv h
  exact c153 x.1 x.2
theorem pe153 (a b : Br) : p153 [.agg a.row, .agg b.row] = some (.int .i64 (wrapq .i64 (Int.sub a.at' b.at'))) := primOf_enc (α := (Br) × (Br)) (enc := fun x => [.agg x.1.row, .agg x.2.row]) (pre := fun x => True) (spec := fun x => i64 (wrapq .i64 (Int.sub x.1.at' x.2.at'))) (by intro x y h; (simp only [List.cons.injEq, AV.agg.injEq, AV.str.injEq, AV.int.injEq, AV.ps.injEq, AV.bool.injEq, Net.cells_iff, Ln.row_iff, Pc.row_iff, Mv.row_iff, lns_iff, pcs_iff, mvs_iff, Sw.row_iff, Br.row_iff, true_and, and_true] at h; first | simpa only [Prod.ext_iff] using h | simpa only [Prod.ext_iff, and_assoc] using h)) (a, b) trivial
noncomputable def PPF155 : FuncId → Option (List AV → Option AV) := fun _ => none
theorem primsF155 : PrimsOk NC PPF155 := primsOk_none
theorem c155 (a : Br) : ∀ lo H, CallOk NC lo 155 [.agg a.row] H (.str a.sw.name) H := by
  refine contract saneNC primsF155 (fn := Tryz.f155) (by kernel_rfl) Tryz.func155 rfl rfl (by rfl) (by first | rfl | (split <;> first | rfl | (split <;> rfl))) ?_
  obtain ⟨⟨a1, a2, a3, a4, a5⟩, a6⟩ := a
  simp only [go_sem, reduceIte, Nat.reduceEqDiff, Nat.reduceAdd, Nat.reduceMul, Nat.reduceSub, Nat.reduceLeDiff, Nat.reduceLT, Nat.reduceBEq, reduceCtorEq, Br.row]
noncomputable def p155 : List AV → Option AV := primOf (α := (Br)) (fun x => [.agg x.row]) (fun x => True) (fun x => .str x.sw.name)
theorem pok155 : ∀ args v, p155 args = some v → ∀ lo H, CallOk NC lo 155 args H v H := by
  intro args v h
  obtain ⟨x, rfl, hp, rfl⟩ := primOf_inv h
  exact c155 x
theorem pe155 (a : Br) : p155 [.agg a.row] = some (.str a.sw.name) := primOf_enc (α := (Br)) (enc := fun x => [.agg x.row]) (pre := fun x => True) (spec := fun x => .str x.sw.name) (by intro x y h; (simp only [List.cons.injEq, AV.agg.injEq, AV.str.injEq, AV.int.injEq, AV.ps.injEq, AV.bool.injEq, Net.cells_iff, Ln.row_iff, Pc.row_iff, Mv.row_iff, lns_iff, pcs_iff, mvs_iff, Sw.row_iff, Br.row_iff, true_and, and_true] at h; first | simpa only [Prod.ext_iff] using h | simpa only [Prod.ext_iff, and_assoc] using h)) a trivial
def brLt (a b : Br) : Bool := decide (wrapq .i64 (Int.sub a.at' b.at') < 0)
end Go.Sim

/-
The sorting of branches.
-/
-- INJ Sw.row_iff Br.row_iff
namespace Go.Sim
open Go Go.Proofs
set_option maxRecDepth 100000
set_option maxHeartbeats 16000000
variable {P : FuncId → Option (List AV → Option AV)}
theorem known {f : FuncId} {q : List AV → Option AV} (h : P f = some q) (h0 : NC.prim f = none) : (NC.withPrims P).prim f = some q := by
  show (match NC.prim f with | some p => some p | none => P f) = _
  rw [h0, h]
theorem en248 {P : FuncId → Option (List AV → Option AV)} (hP : P 248 = none) {lo : Nat} {args : List AV} {H : Heap} {K : AV → Heap → Prop} : VO (aenter (NC.withPrims P) (R (NC.withPrims P)) lo 248 args H) K = AO (R (NC.withPrims P) (.call lo 248 args H)) fun o => K o.val o.s.H := by
  refine enter_free rfl ?_ (by kernel_rfl) (by kernel_rfl) (by kernel_rfl)
  show (match NC.prim 248 with | some p => some p | none => P 248) = none
  rw [hP]; kernel_rfl
theorem en208 {P : FuncId → Option (List AV → Option AV)} (hP : P 208 = none) {lo : Nat} {args : List AV} {H : Heap} {K : AV → Heap → Prop} : VO (aenter (NC.withPrims P) (R (NC.withPrims P)) lo 208 args H) K = AO (R (NC.withPrims P) (.call lo 208 args H)) fun o => K o.val o.s.H := by
  refine enter_free rfl ?_ (by kernel_rfl) (by kernel_rfl) (by kernel_rfl)
  show (match NC.prim 208 with | some p => some p | none => P 208) = none
  rw [hP]; kernel_rfl
theorem en152 {P : FuncId → Option (List AV → Option AV)} (hP : P 152 = none) {lo : Nat} {args : List AV} {H : Heap} {K : AV → Heap → Prop} : VO (aenter (NC.withPrims P) (R (NC.withPrims P)) lo 152 args H) K = AO (R (NC.withPrims P) (.call lo 152 args H)) fun o => K o.val o.s.H := by
  refine enter_free rfl ?_ (by kernel_rfl) (by kernel_rfl) (by kernel_rfl)
  show (match NC.prim 152 with | some p => some p | none => P 152) = none
  rw [hP]; kernel_rfl
theorem en153 (h : P 153 = some p153) {lo : Nat} {rec : Rec} {args : List AV} {H : Heap} {K : AV → Heap → Prop} : VO (aenter (NC.withPrims P) rec lo 153 args H) K = AO (p153 args) fun v => K v H := enter_prim (by rfl) (known h (by kernel_rfl))
theorem e153 (a b : Br) : p153 [.agg a.row, .agg b.row] = some (.int .i64 (wrapq .i64 (Int.sub a.at' b.at'))) := pe153 a b
theorem take_snoc {α : Type} {l : List α} {i : Nat} {x : α} (h : l[i]? = some x) : l.take (i + 1) = l.take i ++ [x] := by rw [List.take_add_one, h]; rfl
theorem drop_cons_at {α : Type} {l : List α} {i : Nat} {x : α} (h : l[i]? = some x) : l.drop i = x :: l.drop (i + 1) := by
  obtain ⟨h1, rfl⟩ := List.getElem?_eq_some_iff.1 h
  exact List.drop_eq_getElem_cons h1
theorem mid_at {α : Type} (p : List α) (y : α) (s : List α) : (p ++ y :: s)[p.length]? = some y := by simp
theorem mid_at1 {α : Type} (p : List α) (y x : α) (s : List α) : (p ++ y :: x :: s)[p.length + 1]? = some x := by
  rw [List.getElem?_append_right (by omega)]; simp
def brF (l : List Br) : List AV := (l.map Br.row).flatten
theorem r248 (h153 : P 153 = some p153) (l : List Br) (hl : l.length ≤ maxRows) (lo id : Nat) (H : Heap) (hid : lo ≤ id) (hn : id < H.n) (hs : H.get id = .row (brF l) 6 262) :
    ∃ v H', R (NC.withPrims P) (.call lo 248 [.rs id 0 l.length 6 none, .int .i64 0, .int .i64 (l.length : Nat), .fn 153 [] []] H) = some (.ofVal v H') ∧ v = aundef ∧ H'.get id = .row (brF (isort brLt l)) 6 262 ∧ H'.n = H.n ∧ ∀ i, i ≠ id → H'.get i = H.get i := by
  refine R_of_body (C := NC.withPrims P) (f := 248) (lo := lo) (args := [.rs id 0 l.length 6 none, .int .i64 0, .int .i64 (l.length : Nat), .fn 153 [] []]) (H := H) (fn := Tryz.f248) (Q := fun v H' => v = aundef ∧ H'.get id = .row (brF (isort brLt l)) 6 262 ∧ H'.n = H.n ∧ ∀ i, i ≠ id → H'.get i = H.get i) (by kernel_rfl) Tryz.func248 rfl rfl ?_
  rcases Nat.eq_zero_or_pos l.length with h0 | h0
  · have hl0 : l = [] := List.length_eq_zero_iff.1 h0
    subst hl0
    have i10 : ((1 : Int) < 0) = False := by simp
    have c00 : ((List.length ([] : List Br) : Nat) : Int) = 0 := rfl
    simp only [go_sem, reduceIte, Nat.reduceEqDiff, Nat.reduceAdd, Nat.reduceMul, Nat.reduceSub, Nat.reduceLeDiff, Nat.reduceLT, Nat.reduceBEq, reduceCtorEq, W_loop, wl01, i10, c00]
    exact ⟨rfl, hs, fun _ _ => trivial⟩
  have w1 : wrapq .i64 (Int.add 0 1) = ((0 + 1 : Nat) : Int) := rfl
  simp only [go_sem, reduceIte, Nat.reduceEqDiff, Nat.reduceAdd, Nat.reduceMul, Nat.reduceSub, Nat.reduceLeDiff, Nat.reduceLT, Nat.reduceBEq, reduceCtorEq, w1]
  refine W_for (fun k T H' M => M = [] ∧ getT T 0 = .rs id 0 l.length 6 none ∧ getT T 1 = i64 0 ∧ getT T 2 = i64 (l.length : Nat) ∧ getT T 3 = .fn 153 [] [] ∧ getT T 8 = i64 ((k + 1 : Nat) : Int) ∧ H'.n = H.n ∧ (∀ i, i ≠ id → H'.get i = H.get i) ∧ H'.get id = .row (brF (isort brLt (l.take (k + 1)) ++ l.drop (k + 1))) 6 262) (l.length - 1) ?_ ?_ ?_
  · have hi : isort brLt (l.take (0 + 1)) ++ l.drop (0 + 1) = l := by
      cases l with
      | nil => rfl
      | cons a r => rfl
    simp only [go_sem, reduceIte, Nat.reduceEqDiff, Nat.reduceAdd, Nat.reduceMul, Nat.reduceSub, Nat.reduceLeDiff, Nat.reduceLT, Nat.reduceBEq, reduceCtorEq]
    rw [hi]
    exact ⟨fun _ _ => trivial, hs⟩
  · rintro k T H1 M hk ⟨rfl, g0, g1, g2, g3, g8, hn1, ho1, hs1⟩
    have hi : k + 1 < l.length := by omega
    obtain ⟨x, hx⟩ : ∃ p, l[k + 1]? = some p := ⟨l[k + 1], by simp⟩
    have hw := wrap_succ hi hl
    have hlen : (isort brLt (l.take (k + 1))).length = k + 1 := by rw [isort_length, List.length_take]; omega
    have hdone : ∀ pre suf, isort brLt (l.take (k + 1)) = pre ++ suf → (∀ y ∈ suf, brLt x y = true) → (pre = [] ∨ ∃ p y, pre = p ++ [y] ∧ brLt x y = false) → isort brLt (l.take (k + 1 + 1)) ++ l.drop (k + 1 + 1) = pre ++ x :: suf ++ l.drop (k + 1 + 1) := by
      intro pre suf h1 h2 h3
      rw [take_snoc hx, isort_snoc, h1, ins_at brLt h2 h3]
    simp only [go_sem, reduceIte, Nat.reduceEqDiff, Nat.reduceAdd, Nat.reduceMul, Nat.reduceSub, Nat.reduceLeDiff, Nat.reduceLT, Nat.reduceBEq, reduceCtorEq, g0, g1, g2, g3, g8, hi]
    refine W_for (fun m T H' M => M = [] ∧ getT T 0 = .rs id 0 l.length 6 none ∧ getT T 1 = i64 0 ∧ getT T 2 = i64 (l.length : Nat) ∧ getT T 3 = .fn 153 [] [] ∧ getT T 8 = i64 ((k + 1 : Nat) : Int) ∧ getT T 9 = i64 ((k + 1 - m : Nat) : Int) ∧ H'.n = H.n ∧ (∀ i, i ≠ id → H'.get i = H.get i) ∧ ∃ pre suf, isort brLt (l.take (k + 1)) = pre ++ suf ∧ suf.length = m ∧ (∀ y ∈ suf, brLt x y = true) ∧ H'.get id = .row (brF (pre ++ x :: suf ++ l.drop (k + 1 + 1))) 6 262) (k + 1) ?_ ?_ ?_
    · simp only [go_sem, reduceIte, Nat.reduceEqDiff, Nat.reduceAdd, Nat.reduceMul, Nat.reduceSub, Nat.reduceLeDiff, Nat.reduceLT, Nat.reduceBEq, reduceCtorEq, g0, g1, g2, g3, g8, Nat.sub_zero]
      refine ⟨hn1, ho1, isort brLt (l.take (k + 1)), [], by simp, rfl, by simp, ?_⟩
      rw [hs1, drop_cons_at hx]; simp
    · rintro m T H2 M hm ⟨rfl, i0, i1, i2, i3, i8, i9, hn2, ho2, pre, suf, hp, hsl, hlt, hs2⟩
      have hpl : pre.length = k + 1 - m := by
        have := congrArg List.length hp
        rw [hlen, List.length_append] at this; omega
      obtain ⟨p, y, rfl⟩ : ∃ p y, pre = p ++ [y] := by
        have hne : pre ≠ [] := by intro e; rw [e] at hpl; simp at hpl; omega
        exact ⟨pre.dropLast, pre.getLast hne, (List.dropLast_concat_getLast hne).symm⟩
      have hq : k + 1 - m = p.length + 1 := by simp at hpl; omega
      have hq2 : k + 1 - (m + 1) = p.length := by omega
      rw [hq] at i9
      have e1 : (p ++ [y] ++ x :: suf ++ l.drop (k + 1 + 1)) = p ++ y :: x :: (suf ++ l.drop (k + 1 + 1)) := by simp
      rw [e1] at hs2
      have hev : Even 6 ((p ++ y :: x :: (suf ++ l.drop (k + 1 + 1))).map Br.row) := Even.map Br.row_len _
      have rx := map_at (f := Br.row) (mid_at1 p y x (suf ++ l.drop (k + 1 + 1)))
      have ry := map_at (f := Br.row) (mid_at p y (x :: (suf ++ l.drop (k + 1 + 1))))
      obtain ⟨a1, a2⟩ := fl_at hev rx
      obtain ⟨b1, b2⟩ := fl_at hev ry
      have o1 := fl_over (v := y.row) hev rx rfl
      have hev1 : Even 6 (((p ++ y :: x :: (suf ++ l.drop (k + 1 + 1))).map Br.row).set (p.length + 1) y.row) := hev.set rfl
      have ry1 : (((p ++ y :: x :: (suf ++ l.drop (k + 1 + 1))).map Br.row).set (p.length + 1) y.row)[p.length]? = some y.row := by
        rw [List.getElem?_set_ne (by omega)]; exact ry
      have b3 := (fl_at hev1 ry1).1
      have o2 := fl_over (v := x.row) hev1 ry1 rfl
      rw [swap_rows] at o2
      have hsum : (p ++ y :: x :: (suf ++ l.drop (k + 1 + 1))).length ≤ l.length := by
        simp at hpl ⊢; omega
      have hj : p.length + 1 < l.length := by simp at hsum; omega
      have hj0 : p.length < l.length := by omega
      have hwp : wrapq .i64 (Int.sub ((p.length + 1 : Nat) : Int) 1) = ((p.length : Nat) : Int) := by
        have := wrap_pred (k := p.length + 1) (n := l.length) (by omega) (by omega) hl
        simpa using this
      have hpos : ((0 : Int) < ((p.length + 1 : Nat) : Int)) = True := by simp only [eq_iff_iff, iff_true]; omega
      have ec := e153 x y
      have hB : brLt x y = decide (wrapq .i64 (Int.sub x.at' y.at') < 0) := rfl
      have hnext := hdone (p ++ [y]) suf hp hlt
      rw [show ((p ++ x :: y :: (suf ++ l.drop (k + 1 + 1))).map Br.row).flatten = brF (p ++ x :: y :: (suf ++ l.drop (k + 1 + 1))) from rfl] at o2
      rw [show ((p ++ y :: x :: (suf ++ l.drop (k + 1 + 1))).map Br.row).flatten = brF (p ++ y :: x :: (suf ++ l.drop (k + 1 + 1))) from rfl] at a1 a2 b1 b2 o1
      generalize (((p ++ y :: x :: (suf ++ l.drop (k + 1 + 1))).map Br.row).set (p.length + 1) y.row).flatten = F1 at o1 b3 o2
      generalize hF0 : brF (p ++ y :: x :: (suf ++ l.drop (k + 1 + 1))) = F at hs2 a1 a2 b1 b2 o1
      have a1' : ((p.length + 1) * 6 + 6 ≤ F.length) = True := by simp [a1]
      have b1' : (p.length * 6 + 6 ≤ F.length) = True := by simp [b1]
      have b3' : (p.length * 6 + 6 ≤ F1.length) = True := by simp [b3]
      have hlo : (lo ≤ id) = True := by simp [hid]
      have szr := sz_262
      generalize hE : wrapq .i64 (Int.sub x.at' y.at') = E at ec hB
      rcases Classical.propComplete (E < 0) with z | z
      · have hlx : brLt x y = true := by rw [hB]; simp [z]
        have hend : isort brLt (l.take (k + 1)) = p ++ y :: suf := by rw [hp]; simp
        obtain ⟨⟨x1, x2, x3, x4, x5⟩, x6⟩ := x
        obtain ⟨⟨y1, y2, y3, y4, y5⟩, y6⟩ := y
        simp only [Br.row] at a2 b2 o1 o2 ec
        simp only [over, List.length_cons, List.length_nil, Nat.reduceAdd, Nat.zero_add] at o1 o2
        simp only [go_sem, reduceIte, Nat.reduceEqDiff, Nat.reduceAdd, Nat.reduceMul, Nat.reduceSub, Nat.reduceLeDiff, Nat.reduceLT, Nat.reduceBEq, reduceCtorEq, i0, i1, i2, i3, i8, i9, hs2, hlo, en153 h153, ec, z, a1', a2, b1', b2, b3', o1, o2, hj, hj0, hwp, hpos, szr]
        refine ⟨by rw [hq2], hn2, fun i hi => ?_, p, _ :: suf, hend, by simp [hsl], fun w hw => ?_, ?_⟩
        · rw [if_neg hi, if_neg hi]; exact ho2 i hi
        · rcases List.mem_cons.1 hw with rfl | hw
          · exact hlx
          · exact hlt w hw
        · simp
      · have hlx : brLt x y = false := by rw [hB]; simp [z]
        have hnx := hnext (.inr ⟨p, y, rfl, hlx⟩)
        obtain ⟨⟨x1, x2, x3, x4, x5⟩, x6⟩ := x
        obtain ⟨⟨y1, y2, y3, y4, y5⟩, y6⟩ := y
        simp only [Br.row] at a2 b2 ec
        simp only [go_sem, reduceIte, Nat.reduceEqDiff, Nat.reduceAdd, Nat.reduceMul, Nat.reduceSub, Nat.reduceLeDiff, Nat.reduceLT, Nat.reduceBEq, reduceCtorEq, i0, i1, i2, i3, i8, i9, hs2, hlo, en153 h153, ec, z, a1', a2, b1', b2, hj, hj0, hwp, hpos, szr, hw]
        refine ⟨hn2, ho2, ?_⟩
        rw [hnx, e1, hF0]
    · rintro T H2 M ⟨rfl, i0, i1, i2, i3, i8, i9, hn2, ho2, pre, suf, hp, hsl, hlt, hs2⟩
      have hpl : pre = [] := by
        have := congrArg List.length hp
        rw [hlen, List.length_append] at this
        exact List.length_eq_zero_iff.1 (by omega)
      subst hpl
      have hnx := hdone [] suf hp hlt (.inl rfl)
      rw [Nat.sub_self] at i9
      have i00 : ((0 : Int) < 0) = False := by simp
      simp only [go_sem, reduceIte, Nat.reduceEqDiff, Nat.reduceAdd, Nat.reduceMul, Nat.reduceSub, Nat.reduceLeDiff, Nat.reduceLT, Nat.reduceBEq, reduceCtorEq, i0, i1, i2, i3, i8, i9, i00, hw]
      refine ⟨hn2, ho2, ?_⟩
      rw [hnx]; exact hs2
  · rintro T H1 M ⟨rfl, g0, g1, g2, g3, g8, hn1, ho1, hs1⟩
    have hk : l.length - 1 + 1 = l.length := by omega
    rw [hk] at g8 hs1
    rw [List.take_length, List.drop_length, List.append_nil] at hs1
    simp only [go_sem, reduceIte, Nat.reduceEqDiff, Nat.reduceAdd, Nat.reduceMul, Nat.reduceSub, Nat.reduceLeDiff, Nat.reduceLT, Nat.reduceBEq, reduceCtorEq, g0, g1, g2, g3, g8, Nat.lt_irrefl]
    exact ⟨rfl, hs1, hn1, ho1⟩
theorem r208 (h153 : P 153 = some p153) (h248 : P 248 = none) (l : List Br) (hl : l.length < 20) (lo id : Nat) (H : Heap) (hid : lo ≤ id) (hn : id < H.n) (hs : H.get id = .row (brF l) 6 262) :
    ∃ v H', R (NC.withPrims P) (.call lo 208 [.rs id 0 l.length 6 none, .int .i64 (l.length : Nat), .fn 153 [] []] H) = some (.ofVal v H') ∧ v = aundef ∧ H'.get id = .row (brF (isort brLt l)) 6 262 ∧ H'.n = H.n ∧ ∀ i, i ≠ id → H'.get i = H.get i := by
  obtain ⟨v, H1, h1, rfl, h2⟩ := r248 h153 l (by unfold maxRows; omega) lo id H hid hn hs
  refine R_of_body (C := NC.withPrims P) (f := 208) (lo := lo) (args := [.rs id 0 l.length 6 none, .int .i64 (l.length : Nat), .fn 153 [] []]) (H := H) (fn := Tryz.f208) (Q := fun v H' => v = aundef ∧ H'.get id = .row (brF (isort brLt l)) 6 262 ∧ H'.n = H.n ∧ ∀ i, i ≠ id → H'.get i = H.get i) (by kernel_rfl) Tryz.func208 rfl rfl ?_
  have q1 : (((l.length : Nat) : Int) < 20) = True := by simp; omega
  have q2 : ((20 : Int) < ((l.length : Nat) : Int)) = False := by simp; omega
  have eh := ex_eq ⟨H1, h1⟩
  simp only [go_sem, reduceIte, Nat.reduceEqDiff, Nat.reduceAdd, Nat.reduceMul, Nat.reduceSub, Nat.reduceLeDiff, Nat.reduceLT, Nat.reduceBEq, reduceCtorEq, W_loop, q1, q2, en248 h248, h1, ofVal_v, ofVal_H]
  exact ⟨rfl, h2⟩
theorem r152 (h153 : P 153 = some p153) (h248 : P 248 = none) (h208 : P 208 = none) (l : List Br) (hl : l.length < 20) (lo id : Nat) (H : Heap) (hid : lo ≤ id) (hn : id < H.n) (hs : H.get id = .row (brF l) 6 262) :
    ∃ v H', R (NC.withPrims P) (.call lo 152 [.rs id 0 l.length 6 none, .fn 153 [] []] H) = some (.ofVal v H') ∧ v = aundef ∧ H'.get id = .row (brF (isort brLt l)) 6 262 ∧ H'.n = H.n ∧ ∀ i, i ≠ id → H'.get i = H.get i := by
  obtain ⟨v, H1, h1, rfl, h2⟩ := r208 h153 h248 l hl lo id H hid hn hs
  refine R_of_body (C := NC.withPrims P) (f := 152) (lo := lo) (args := [.rs id 0 l.length 6 none, .fn 153 [] []]) (H := H) (fn := Tryz.f152) (Q := fun v H' => v = aundef ∧ H'.get id = .row (brF (isort brLt l)) 6 262 ∧ H'.n = H.n ∧ ∀ i, i ≠ id → H'.get i = H.get i) (by kernel_rfl) Tryz.func152 rfl rfl ?_
  simp only [go_sem, reduceIte, Nat.reduceEqDiff, Nat.reduceAdd, Nat.reduceMul, Nat.reduceSub, Nat.reduceLeDiff, Nat.reduceLT, Nat.reduceBEq, reduceCtorEq, en208 h208, h1, ofVal_v, ofVal_H]
  exact ⟨rfl, h2⟩
end Go.Sim

/-
Branches, by the program.
-/
-- INJ Sw.row_iff Br.row_iff
namespace Go.Sim
open Go Go.Proofs
set_option maxRecDepth 100000
set_option maxHeartbeats 16000000
variable {P : FuncId → Option (List AV → Option AV)}
theorem en154 {P : FuncId → Option (List AV → Option AV)} (hP : P 154 = none) {lo : Nat} {args : List AV} {H : Heap} {K : AV → Heap → Prop} : VO (aenter (NC.withPrims P) (R (NC.withPrims P)) lo 154 args H) K = AO (R (NC.withPrims P) (.call H.n 154 args H)) fun o => o.val.strip.pure = true ∧ K o.val.strip H := by
  refine enter_pure rfl ?_ (by kernel_rfl) (by kernel_rfl) (by kernel_rfl)
  show (match NC.prim 154 with | some p => some p | none => P 154) = none
  rw [hP]; kernel_rfl
theorem en155 (h : P 155 = some p155) {lo : Nat} {rec : Rec} {args : List AV} {H : Heap} {K : AV → Heap → Prop} : VO (aenter (NC.withPrims P) rec lo 155 args H) K = AO (p155 args) fun v => K v H := enter_prim (by rfl) (known h (by kernel_rfl))
theorem e155 (a : Br) : p155 [.agg a.row] = some (.str a.sw.name) := pe155 a
def nameRow (b : Br) : List AV := [.str b.sw.name]
theorem nameRow_len (b : Br) : (nameRow b).length = 1 := rfl
def RAp (H : Heap) (v : AV) (rows : List (List AV)) (sz : Nat) (e : TypeId) : Prop := (v = .ps .nil [] ∧ rows = []) ∨ ∃ id, v = .rs id 0 rows.length sz none ∧ rows ≠ [] ∧ id < H.n ∧ H.get id = .row rows.flatten sz e
theorem RAp.fresh {H : Heap} {v : AV} {rows : List (List AV)} {sz : Nat} {e : TypeId} (h : RAp H v rows sz e) (b c : ABlk) {i : Nat} (hi : i = H.n) : RAp ((H.push b).set i c) v rows sz e := by
  subst hi
  rcases h with h | ⟨j, h1, h2, h3, h4⟩
  · exact .inl h
  · exact .inr ⟨j, h1, h2, by simp; omega, by rw [Heap.get_set, if_neg (by omega), Heap.get_push, if_neg (by omega)]; exact h4⟩
theorem rap_app {H : Heap} {v : AV} {rows : List (List AV)} {sz : Nat} {e : TypeId} (h : RAp H v rows sz e) {r : List AV} (h1 : rows.length + 1 ≤ maxRows) (h2 : r.all AV.one = true) (h3 : 0 < sz) (h4 : r.length = sz) (h5 : Even sz rows) :
    ∃ v' H', appR 0 H sz e v [r] = some (v', H') ∧ RAp H' v' (rows ++ [r]) sz e ∧ H.n ≤ H'.n ∧ ∀ i c u, i < H.n → H.get i = .cells c u → H'.get i = .cells c u := by
  rcases h with ⟨rfl, rfl⟩ | ⟨j, rfl, hne, hj, hg⟩
  · refine ⟨.rs H.n 0 ([] ++ [r]).length sz none, H.push (.row ([] ++ [r]).flatten sz e), ?_, .inr ⟨H.n, rfl, List.cons_ne_nil _ _, by simp, by rw [Heap.get_push, if_pos rfl]⟩, by simp, fun i c u hi hc => by rw [Heap.get_push, if_neg (by omega)]; exact hc⟩
    unfold appR
    simp [Tok.full, h2, h3, maxRows]
  · have hf := fl_len h5
    refine ⟨.rs H.n 0 (rows ++ [r]).length sz none, (H.set j .dead).push (.row (rows ++ [r]).flatten sz e), ?_, .inr ⟨H.n, rfl, by simp, by simp, by rw [Heap.get_push, if_pos (by simp)]⟩, by simp, fun i c u hi hc => ?_⟩
    · unfold appR
      simp only [hg]
      simp [h2, h3, h1, hf]
    · rw [Heap.get_push, if_neg (by simp; omega), Heap.get_set, if_neg (fun he => by rw [he, hg] at hc; cases hc)]; exact hc
theorem r154 (h155 : P 155 = some p155) (l : List Br) (hl : l.length ≤ maxRows) (lo id : Nat) (H : Heap) (hlo : lo ≤ H.n) (hn : id < H.n) (hs : H.get id = .row (brF l) 6 262) :
    ∃ t H', R (NC.withPrims P) (.call lo 154 [.rs id 0 l.length 6 none, .fn 155 [] []] H) = some (.ofVal (.ps t (l.map nameRow)) H') := by
  suffices hh : ∃ v H', R (NC.withPrims P) (.call lo 154 [.rs id 0 l.length 6 none, .fn 155 [] []] H) = some (.ofVal v H') ∧ ∃ t, v = .ps t (l.map nameRow) by
    obtain ⟨v, H', h1, t, rfl⟩ := hh; exact ⟨t, H', h1⟩
  refine R_of_body (C := NC.withPrims P) (f := 154) (lo := lo) (args := [.rs id 0 l.length 6 none, .fn 155 [] []]) (H := H) (fn := Tryz.f154) (Q := fun v H' => ∃ t, v = .ps t (l.map nameRow)) (by kernel_rfl) Tryz.func154 rfl rfl ?_
  simp only [go_sem, reduceIte, Nat.reduceEqDiff, Nat.reduceAdd, Nat.reduceMul, Nat.reduceSub, Nat.reduceLeDiff, Nat.reduceLT, Nat.reduceBEq, reduceCtorEq]
  refine W_for (fun k T H' M => M = [] ∧ getT T 1 = .fn 155 [] [] ∧ getT T 8 = .rs id 0 l.length 6 none ∧ getT T 9 = i64 (l.length : Nat) ∧ getT T 10 = i64 k ∧ Old H.n H H' ∧ ∃ t, getT T 5 = .ps t ((l.take k).map nameRow) ∧ AppB H.n H' t ((l.take k).map nameRow) 1 9) l.length ?_ ?_ ?_
  · simp only [go_sem, reduceIte, Nat.reduceEqDiff, Nat.reduceAdd, Nat.reduceMul, Nat.reduceSub, Nat.reduceLeDiff, Nat.reduceLT, Nat.reduceBEq, reduceCtorEq]; exact ⟨Old.refl H, .nil, rfl, .inl ⟨rfl, rfl⟩⟩
  · rintro k T H1 M hk ⟨rfl, g1, g8, g9, g10, hO, t, g5, hA⟩
    obtain ⟨x, hx⟩ : ∃ p, l[k]? = some p := ⟨l[k], by simp⟩
    have hw := wrap_succ hk hl
    have htk := take_map (f := nameRow) hx
    have rx := map_at (f := Br.row) hx
    obtain ⟨a1, a2⟩ := fl_at (Even.map Br.row_len l) rx
    have h1s : H1.get id = .row (brF l) 6 262 := by rw [hO.2 id hn]; exact hs
    rw [show (l.map Br.row).flatten = brF l from rfl] at a1 a2
    have hlo' : lo ≤ H1.n := Nat.le_trans hlo hO.1
    generalize brF l = F at h1s a1 a2
    have a1' : (k * 6 + 6 ≤ F.length) = True := by simp [a1]
    have hidn : (id = H1.n) = False := by have := hO.1; simp; omega
    obtain ⟨t', H2, ha, hA2, hn2, hO2, _⟩ := app_b (lo := lo) (hA.new (.cells [.str [], .str [], .int .i64 0, .str [], .bool false, .int .i64 0] 262) (.cells x.row 262)) (by have := hO.1; simp; omega) hlo (r := nameRow x) (by simp; omega) rfl (by decide) (rows_all nameRow_len _)
    have ex := e155 x
    have szr := sz_262
    obtain ⟨⟨x1, x2, x3, x4, x5⟩, x6⟩ := x
    simp only [Br.row] at a2 ex
    simp only [Br.row, nameRow] at ha
    simp only [go_sem, reduceIte, Nat.reduceEqDiff, Nat.reduceAdd, Nat.reduceMul, Nat.reduceSub, Nat.reduceLeDiff, Nat.reduceLT, Nat.reduceBEq, reduceCtorEq, g1, g8, g9, g10, g5, hk, h1s, a1', a2, szr, hidn, en155 h155, ex, hlo', appO, ha, hw]
    rw [htk]
    exact ⟨(hO.new _ _).trans hO2 |> fun h => ⟨h.1, h.2⟩, t', rfl, hA2⟩
  · rintro T H1 M ⟨rfl, g1, g8, g9, g10, hO, t, g5, hA⟩
    simp only [go_sem, reduceIte, Nat.reduceEqDiff, Nat.reduceAdd, Nat.reduceMul, Nat.reduceSub, Nat.reduceLeDiff, Nat.reduceLT, Nat.reduceBEq, reduceCtorEq, g1, g8, g9, g10, g5, Nat.lt_irrefl, List.take_length]
    exact ⟨t, rfl⟩
def brsOf (n : Net) (w : List Nat) (s : Sw) : List Br := (if beqL s.line w then [⟨s, s.metre⟩] else []) ++ (if beqL s.other w then [⟨s, endM n s⟩] else [])
def brsAll (n : Net) (w : List Nat) : List Br := n.sws.flatMap (brsOf n w)
def wordsOf (l : List Br) : List (List Nat) := l.map fun b => b.sw.name
theorem words_rows (l : List Br) : (wordsOf l).map strRow = l.map nameRow := by unfold wordsOf; rw [List.map_map]; rfl
theorem brsOf_len (n : Net) (w : List Nat) (s : Sw) : (brsOf n w s).length ≤ 2 := by
  unfold brsOf
  split <;> split <;> simp
theorem brs_len (n : Net) (w : List Nat) : ∀ l : List Sw, (l.flatMap (brsOf n w)).length ≤ 2 * l.length
  | [] => by simp
  | s :: r => by
    have := brs_len n w r
    have := brsOf_len n w s
    rw [List.flatMap_cons, List.length_append, List.length_cons]; omega
def branchesP (n : Net) (w : List Nat) : List AV :=
  if netP n = 0 then (if lnB n.lines w then [.ps .unk ((wordsOf (isort brLt (brsAll n w))).map strRow), i64 0] else [.ps .unk [], i64 10]) else [.ps .unk [], i64 (netP n)]
theorem branchesP_pure (n : Net) (w : List Nat) : (AV.tup (branchesP n w)).pure = true := by
  unfold branchesP
  repeat' split
  all_goals rfl
theorem net_sws {n : Net} (h : netP n = 0) : n.sws.length ≤ 8 := by
  rw [net_same] at h
  unfold netR at h
  by_cases h1 : (8 : Int) < n.lines.length
  · simp [h1] at h
  · simp only [h1, if_false] at h
    split at h
    · by_cases h2 : (8 : Int) < n.sws.length
      · simp [h2] at h
      · omega
    · rename_i h3; exact absurd h h3
theorem r152_nil (h248 : P 248 = none) (h208 : P 208 = none) (lo : Nat) (H : Heap) :
    ∃ v H', R (NC.withPrims P) (.call lo 152 [.ps .unk [], .fn 153 [] []] H) = some (.ofVal v H') ∧ v = aundef ∧ H' = H := by
  have h3 : ∃ v H', R (NC.withPrims P) (.call lo 248 [.ps .unk [], .int .i64 0, .int .i64 0, .fn 153 [] []] H) = some (.ofVal v H') ∧ v = aundef ∧ H' = H := by
    refine R_of_body (C := NC.withPrims P) (f := 248) (lo := lo) (args := [.ps .unk [], .int .i64 0, .int .i64 0, .fn 153 [] []]) (H := H) (fn := Tryz.f248) (Q := fun v H' => v = aundef ∧ H' = H) (by kernel_rfl) Tryz.func248 rfl rfl ?_
    have i10 : ((1 : Int) < 0) = False := by simp
    simp only [go_sem, reduceIte, Nat.reduceEqDiff, Nat.reduceAdd, Nat.reduceMul, Nat.reduceSub, Nat.reduceLeDiff, Nat.reduceLT, Nat.reduceBEq, reduceCtorEq, W_loop, wl01, i10]
    rfl
  obtain ⟨v3, H3, h3, rfl, rfl⟩ := h3
  have h2 : ∃ v H', R (NC.withPrims P) (.call lo 208 [.ps .unk [], .int .i64 0, .fn 153 [] []] H3) = some (.ofVal v H') ∧ v = aundef ∧ H' = H3 := by
    refine R_of_body (C := NC.withPrims P) (f := 208) (lo := lo) (args := [.ps .unk [], .int .i64 0, .fn 153 [] []]) (H := H3) (fn := Tryz.f208) (Q := fun v H' => v = aundef ∧ H' = H3) (by kernel_rfl) Tryz.func208 rfl rfl ?_
    have q1 : ((0 : Int) < 20) = True := by simp
    have q2 : ((20 : Int) < 0) = False := by simp
    simp only [go_sem, reduceIte, Nat.reduceEqDiff, Nat.reduceAdd, Nat.reduceMul, Nat.reduceSub, Nat.reduceLeDiff, Nat.reduceLT, Nat.reduceBEq, reduceCtorEq, W_loop, q1, q2, en248 h248, h3, ofVal_v, ofVal_H]
    rfl
  obtain ⟨v2, H2, h2, rfl, rfl⟩ := h2
  refine R_of_body (C := NC.withPrims P) (f := 152) (lo := lo) (args := [.ps .unk [], .fn 153 [] []]) (H := H2) (fn := Tryz.f152) (Q := fun v H' => v = aundef ∧ H' = H2) (by kernel_rfl) Tryz.func152 rfl rfl ?_
  simp only [go_sem, reduceIte, Nat.reduceEqDiff, Nat.reduceAdd, Nat.reduceMul, Nat.reduceSub, Nat.reduceLeDiff, Nat.reduceLT, Nat.reduceBEq, reduceCtorEq, en208 h208, h2, ofVal_v, ofVal_H, cast0]
  rfl
theorem r154_nil (lo : Nat) (H : Heap) : ∃ v H', R (NC.withPrims P) (.call lo 154 [.ps .unk [], .fn 155 [] []] H) = some (.ofVal v H') ∧ v = .ps .nil [] := by
  refine R_of_body (C := NC.withPrims P) (f := 154) (lo := lo) (args := [.ps .unk [], .fn 155 [] []]) (H := H) (fn := Tryz.f154) (Q := fun v H' => v = .ps .nil []) (by kernel_rfl) Tryz.func154 rfl rfl ?_
  have i00 : ((0 : Int) < 0) = False := by simp
  simp only [go_sem, reduceIte, Nat.reduceEqDiff, Nat.reduceAdd, Nat.reduceMul, Nat.reduceSub, Nat.reduceLeDiff, Nat.reduceLT, Nat.reduceBEq, reduceCtorEq, W_loop, i00, cast0]
noncomputable def PPF81 : FuncId → Option (List AV → Option AV) := addPrim 155 p155 (addPrim 153 p153 (addPrim 151 p151 (addPrim 98 p98 (addPrim 29 p29 (fun _ => none)))))
theorem primsF81 : PrimsOk NC PPF81 := primsOk_add (primsOk_add (primsOk_add (primsOk_add (primsOk_add (primsOk_none) (by kernel_rfl) (by kernel_rfl) pok29) (by kernel_rfl) (by kernel_rfl) pok98) (by kernel_rfl) (by kernel_rfl) pok151) (by kernel_rfl) (by kernel_rfl) pok153) (by kernel_rfl) (by kernel_rfl) pok155
theorem enF81_29 : En PPF81 29 p29 := enter_prim (by rfl) (by kernel_rfl)
theorem enF81_98 : En PPF81 98 p98 := enter_prim (by rfl) (by kernel_rfl)
theorem enF81_151 : En PPF81 151 p151 := enter_prim (by rfl) (by kernel_rfl)
theorem enF81_153 : En PPF81 153 p153 := enter_prim (by rfl) (by kernel_rfl)
theorem enF81_155 : En PPF81 155 p155 := enter_prim (by rfl) (by kernel_rfl)
attribute [go_sem ↓] enF81_29 enF81_98 enF81_151 enF81_153 enF81_155
theorem c81 (n : Net) (w : List Nat) (hp : n.Ok) : ∀ lo H, CallOk NC lo 81 [.agg n.cells, .str w] H (.tup (branchesP n w)) H := by
  refine contract saneNC primsF81 (fn := Tryz.f81) (by kernel_rfl) Tryz.func81 rfl rfl (by rfl) (branchesP_pure n w) ?_
  have e29 : p29 [.agg n.cells] = some (.int .i64 (netP n)) := pe29 n hp
  have e98 : p98 [.agg n.cells, .str w] = some (.tup [.agg (lnOf n.lines w).row, .bool (lnB n.lines w)]) := pe98 (n, w) hp.lines
  simp only [Net.cells] at e29 e98
  unfold branchesP
  have h8 : netP n = 0 → n.sws.length ≤ 8 := net_sws
  generalize netP n = E at e29 h8 ⊢
  rcases Classical.propComplete (E = 0) with z | z
  case inr =>
    simp only [go_sem, reduceIte, Nat.reduceEqDiff, Nat.reduceAdd, Nat.reduceMul, Nat.reduceSub, Nat.reduceLeDiff, Nat.reduceLT, Nat.reduceBEq, reduceCtorEq, Net.cells, e29, z]
  have h8 := h8 (of_eq_true z)
  generalize lnOf n.lines w = l at e98
  obtain ⟨ln, lp⟩ := l
  simp only [Ln.row] at e98
  generalize lnB n.lines w = B at e98
  cases B with
  | false => simp only [go_sem, reduceIte, Nat.reduceEqDiff, Nat.reduceAdd, Nat.reduceMul, Nat.reduceSub, Nat.reduceLeDiff, Nat.reduceLT, Nat.reduceBEq, reduceCtorEq, Net.cells, e29, e98, z]
  | true =>
  have hfit : n.sws.length ≤ maxRows := by unfold maxRows; omega
  simp only [go_sem, reduceIte, Nat.reduceEqDiff, Nat.reduceAdd, Nat.reduceMul, Nat.reduceSub, Nat.reduceLeDiff, Nat.reduceLT, Nat.reduceBEq, reduceCtorEq, Net.cells, List.length_map, e29, e98, z]
  refine W_for (fun k T H M => M = [] ∧ getT T 1 = .str w ∧ getT T 2 = .ptr 0 0 ∧ H.get 0 = .cells n.cells 40 ∧ getT T 28 = .ps .unk (n.sws.map Sw.row) ∧ getT T 29 = i64 (n.sws.length : Nat) ∧ getT T 30 = i64 k ∧ 0 < H.n ∧ RAp H (getT T 9) (((n.sws.take k).flatMap (brsOf n w)).map Br.row) 6 262) n.sws.length ?_ ?_ ?_
  · simp only [go_sem, reduceIte, Nat.reduceEqDiff, Nat.reduceAdd, Nat.reduceMul, Nat.reduceSub, Nat.reduceLeDiff, Nat.reduceLT, Nat.reduceBEq, reduceCtorEq, Net.cells, List.length_map]; exact .inl ⟨rfl, rfl⟩
  · rintro k T H M hk ⟨rfl, g1, g2, h0, g28, g29, g30, hn, hA⟩
    obtain ⟨s, hs⟩ : ∃ p, n.sws[k]? = some p := ⟨n.sws[k], by simp⟩
    have hr := map_at (f := Sw.row) hs
    have hw := wrap_succ hk hfit
    have e151 : p151 [.agg n.cells, .agg s.row] = some (.agg [.str s.line, .int .i64 s.metre, .str s.other, .int .i64 (endM n s)]) := pe151 n s hp
    have htk : (n.sws.take (k + 1)).flatMap (brsOf n w) = (n.sws.take k).flatMap (brsOf n w) ++ brsOf n w s := by rw [take_snoc hs, List.flatMap_append]; simp
    have hlen := brs_len n w (n.sws.take k)
    have hlen2 : (n.sws.take k).length ≤ 8 := by rw [List.length_take]; omega
    have hE : endM n s = endM n s := rfl
    rw [htk, List.map_append]
    have hbr : brsOf n w s = (if beqL s.line w then [⟨s, s.metre⟩] else []) ++ (if beqL s.other w then [⟨s, endM n s⟩] else []) := rfl
    rw [hbr]
    generalize endM n s = E2 at e151 ⊢
    generalize hrows : ((n.sws.take k).flatMap (brsOf n w)).map Br.row = rows at hA ⊢
    have hrl : rows.length ≤ 16 := by rw [← hrows, List.length_map]; omega
    have hev : Even 6 rows := by rw [← hrows]; exact Even.map Br.row_len _
    generalize hv : getT T 9 = v at hA
    have hA1 := hA.fresh (.cells [.str [], .str [], .int .i64 0, .str [], .bool false] 201) (.cells s.row 201) rfl
    have hA2 := hA1.fresh (i := H.n + 1) (.cells [.str [], .int .i64 0] 45) (.cells [.str s.line, .int .i64 s.metre] 45) (by simp)
    have d0 : (0 = H.n) = False := by simp; omega
    have d1 : (0 = H.n + 1) = False := by simp
    have d2 : (0 = H.n + 1 + 1) = False := by simp
    simp only [Net.cells] at e151 h0
    cases h1 : beqL s.line w with
    | false =>
      have hA3 := hA2.fresh (i := H.n + 1 + 1) (.cells [.str [], .int .i64 0] 45) (.cells [.str s.other, .int .i64 E2] 45) (by simp)
      cases h2 : beqL s.other w with
      | false =>
        obtain ⟨s1, s2, s3, s4, s5⟩ := s
        simp only [Sw.row] at hr e151 hA3
        simp only at h1 h2
        simp only [go_sem, reduceIte, Nat.reduceEqDiff, Nat.reduceAdd, Nat.reduceMul, Nat.reduceSub, Nat.reduceLeDiff, Nat.reduceLT, Nat.reduceBEq, reduceCtorEq, W_loop, Net.cells, i02, i12, i22, wl01, wl12, List.length_map, g1, g2, h0, g28, g29, g30, hv, hk, hr, hw, e151, h1, h2, d0, d1, d2]
        exact ⟨by omega, hA3⟩
      | true =>
        obtain ⟨v', H1, ha, hB, hn1, hc1⟩ := rap_app hA3 (r := Br.row ⟨s, E2⟩) (by unfold maxRows; omega) rfl (by decide) rfl hev
        have x0 := hc1 0 (Net.cells n) 40 (by simp) (by simp only [Heap.get_set, Heap.get_push, hn_set, hn_push, d0, d1, d2, if_false]; exact h0)
        obtain ⟨s1, s2, s3, s4, s5⟩ := s
        simp only [Sw.row] at hr e151 ha
        simp only [Br.row] at ha
        simp only [Net.cells] at x0
        simp only at h1 h2
        simp only [go_sem, reduceIte, Nat.reduceEqDiff, Nat.reduceAdd, Nat.reduceMul, Nat.reduceSub, Nat.reduceLeDiff, Nat.reduceLT, Nat.reduceBEq, reduceCtorEq, W_loop, Net.cells, i02, i12, i22, wl01, wl12, List.length_map, g1, g2, h0, g28, g29, g30, hv, hk, hr, hw, e151, h1, h2, d0, d1, d2, appO, rf_81_258, ha, x0]
        exact ⟨by simp at hn1; omega, hB⟩
    | true =>
      obtain ⟨v', H1, ha, hB, hn1, hc1⟩ := rap_app hA2 (r := Br.row ⟨s, s.metre⟩) (by unfold maxRows; omega) rfl (by decide) rfl hev
      have x0 := hc1 0 (Net.cells n) 40 (by simp) (by simp only [Heap.get_set, Heap.get_push, hn_set, hn_push, d0, d1, if_false]; exact h0)
      have xs := hc1 H.n s.row 201 (by simp only [hn_set, hn_push]; omega) (by simp only [Heap.get_set, Heap.get_push, hn_set, hn_push, eqs_01, if_false, if_true])
      simp at hn1
      have f0 : (0 = H1.n) = False := by simp; omega
      have f1 : (H.n = H1.n) = False := by simp; omega
      have hB1 := hB.fresh (.cells [.str [], .int .i64 0] 45) (.cells [.str s.other, .int .i64 E2] 45) rfl
      cases h2 : beqL s.other w with
      | false =>
        obtain ⟨s1, s2, s3, s4, s5⟩ := s
        simp only [Sw.row] at hr e151 ha hB1 xs
        simp only [Br.row] at ha hB1
        simp only [Net.cells] at x0
        simp only at h1 h2
        simp only [go_sem, reduceIte, Nat.reduceEqDiff, Nat.reduceAdd, Nat.reduceMul, Nat.reduceSub, Nat.reduceLeDiff, Nat.reduceLT, Nat.reduceBEq, reduceCtorEq, W_loop, Net.cells, i02, i12, i22, wl01, wl12, List.length_map, g1, g2, h0, g28, g29, g30, hv, hk, hr, hw, e151, h1, h2, d0, d1, d2, appO, rf_81_258, ha, x0, xs, f0, f1]
        exact ⟨by omega, hB1⟩
      | true =>
        obtain ⟨v2, H2, ha2, hB2, hn2, hc2⟩ := rap_app hB1 (r := Br.row ⟨s, E2⟩) (by rw [List.length_append]; simp only [List.length_cons, List.length_nil]; unfold maxRows; omega) rfl (by decide) rfl (hev.append (fun r hr => by rw [List.mem_singleton] at hr; rw [hr]; rfl))
        have y0 := hc2 0 (Net.cells n) 40 (by simp) (by simp only [Heap.get_set, Heap.get_push, hn_set, hn_push, f0, if_false]; exact x0)
        simp at hn2
        obtain ⟨s1, s2, s3, s4, s5⟩ := s
        simp only [Sw.row] at hr e151 ha ha2 hB2 xs
        simp only [Br.row] at ha ha2 hB2
        simp only [Net.cells] at x0 y0
        simp only at h1 h2
        simp only [go_sem, reduceIte, Nat.reduceEqDiff, Nat.reduceAdd, Nat.reduceMul, Nat.reduceSub, Nat.reduceLeDiff, Nat.reduceLT, Nat.reduceBEq, reduceCtorEq, W_loop, Net.cells, i02, i12, i22, wl01, wl12, List.length_map, g1, g2, h0, g28, g29, g30, hv, hk, hr, hw, e151, h1, h2, d0, d1, d2, appO, rf_81_258, ha, ha2, x0, xs, y0, f0, f1]
        rw [List.append_assoc] at hB2
        exact ⟨by omega, hB2⟩
  · rintro T H M ⟨rfl, g1, g2, h0, g28, g29, g30, hn, hA⟩
    rw [List.take_length] at hA
    have hlen := brs_len n w n.sws
    have hba : brsAll n w = n.sws.flatMap (brsOf n w) := rfl
    rw [words_rows, hba]
    generalize n.sws.flatMap (brsOf n w) = bs at hA hlen ⊢
    have h153 : PPF81 153 = some p153 := rfl
    have h155 : PPF81 155 = some p155 := rfl
    rcases hA with ⟨hv, he⟩ | ⟨id, hv, hne, hid, hg⟩
    · have hb0 : bs = [] := List.map_eq_nil_iff.1 he
      subst hb0
      obtain ⟨v1, H1, h1, rfl, rfl⟩ := r152_nil (P := PPF81) rfl rfl 0 H
      obtain ⟨v2, H2, h2, rfl⟩ := r154_nil (P := PPF81) H1.n H1
      simp only [go_sem, reduceIte, Nat.reduceEqDiff, Nat.reduceAdd, Nat.reduceMul, Nat.reduceSub, Nat.reduceLeDiff, Nat.reduceLT, Nat.reduceBEq, reduceCtorEq, Net.cells, List.length_map, g1, g2, h0, g28, g29, g30, hv, Nat.lt_irrefl, en152 (P := PPF81) rfl, en154 (P := PPF81) rfl, h1, h2, ofVal_v, ofVal_H]
      rw [if_pos (of_eq_true z)]; rfl
    · rw [List.length_map] at hv
      obtain ⟨v1, H1, h1, rfl, hs1, hn1, ho1⟩ := r152 (P := PPF81) h153 rfl rfl bs (by omega) 0 id H (Nat.zero_le _) hid hg
      have hil : (isort brLt bs).length = bs.length := isort_length brLt bs
      obtain ⟨t2, H2, h2⟩ := r154 (P := PPF81) h155 (isort brLt bs) (by rw [hil]; unfold maxRows; omega) H1.n id H1 (Nat.le_refl _) (by omega) hs1
      rw [hil] at h2
      have hpr : (AV.ps .unk ((isort brLt bs).map nameRow)).pure = true := rfl
      simp only [go_sem, reduceIte, Nat.reduceEqDiff, Nat.reduceAdd, Nat.reduceMul, Nat.reduceSub, Nat.reduceLeDiff, Nat.reduceLT, Nat.reduceBEq, reduceCtorEq, Net.cells, List.length_map, g1, g2, h0, g28, g29, g30, hv, Nat.lt_irrefl, en152 (P := PPF81) rfl, en154 (P := PPF81) rfl, h1, h2, ofVal_v, ofVal_H]
      rw [if_pos (of_eq_true z)]
noncomputable def p81 : List AV → Option AV := primOf (α := (Net) × (List Nat)) (fun x => [.agg x.1.cells, .str x.2]) (fun x => x.1.Ok) (fun x => .tup (branchesP x.1 x.2))
theorem pok81 : ∀ args v, p81 args = some v → ∀ lo H, CallOk NC lo 81 args H v H := by
  intro args v h
  obtain ⟨x, rfl, hp, rfl⟩ := primOf_inv h
  exact c81 x.1 x.2 hp
theorem pe81 (n : Net) (w : List Nat) (hp : n.Ok) : p81 [.agg n.cells, .str w] = some (.tup (branchesP n w)) := primOf_enc (α := (Net) × (List Nat)) (enc := fun x => [.agg x.1.cells, .str x.2]) (pre := fun x => x.1.Ok) (spec := fun x => .tup (branchesP x.1 x.2)) (by intro x y h; (simp only [List.cons.injEq, AV.agg.injEq, AV.str.injEq, AV.int.injEq, AV.ps.injEq, AV.bool.injEq, Net.cells_iff, Ln.row_iff, Pc.row_iff, Mv.row_iff, lns_iff, pcs_iff, mvs_iff, Sw.row_iff, Br.row_iff, true_and, and_true] at h; first | simpa only [Prod.ext_iff] using h | simpa only [Prod.ext_iff, and_assoc] using h)) (n, w) hp
end Go.Sim

/-
Branches, by the reference.
-/
-- INJ Sw.row_iff Br.row_iff
namespace Go.Sim
open Go Go.Proofs
set_option maxRecDepth 100000
set_option maxHeartbeats 16000000
def nxtF (last nx m : Int) : Int := if decide (last < m) && (decide (nx < 0) || decide (m < nx)) then m else nx
def nxt (last : Int) (l : List Int) : Int := l.foldl (nxtF last) (-1)
theorem nxt_snoc (last : Int) (l : List Int) (m : Int) : nxt last (l ++ [m]) = nxtF last (nxt last l) m := by unfold nxt; rw [List.foldl_append]; rfl
theorem fold_nxt (last : Int) (hl : -1 ≤ last) : ∀ (l : List Int) (acc : Int), (acc = -1 ∨ last < acc) → (l.foldl (nxtF last) acc = acc ∨ l.foldl (nxtF last) acc ∈ l) ∧ (l.foldl (nxtF last) acc = -1 ∨ last < l.foldl (nxtF last) acc) ∧
    (last < acc → last < l.foldl (nxtF last) acc ∧ l.foldl (nxtF last) acc ≤ acc) ∧ ∀ m ∈ l, last < m → last < l.foldl (nxtF last) acc ∧ l.foldl (nxtF last) acc ≤ m
  | [], acc, h => ⟨.inl rfl, h, fun h => ⟨h, Int.le_refl _⟩, fun m hm => by cases hm⟩
  | x :: r, acc, h => by
    have hstep : nxtF last acc x = -1 ∨ last < nxtF last acc x := by
      unfold nxtF
      split
      · rename_i hc
        simp only [Bool.and_eq_true, decide_eq_true_eq] at hc
        exact .inr hc.1
      · exact h
    obtain ⟨h1, h2, h3, h4⟩ := fold_nxt last hl r (nxtF last acc x) hstep
    have hx : nxtF last acc x = acc ∨ nxtF last acc x = x := by unfold nxtF; split <;> simp
    have ha : last < acc → last < nxtF last acc x ∧ nxtF last acc x ≤ acc := by
      intro hla
      unfold nxtF
      split
      · rename_i hc
        simp only [Bool.and_eq_true, Bool.or_eq_true, decide_eq_true_eq] at hc
        omega
      · omega
    have hm : last < x → last < nxtF last acc x ∧ nxtF last acc x ≤ x := by
      intro hlx
      unfold nxtF
      split
      · omega
      · rename_i hc
        simp only [Bool.and_eq_true, Bool.or_eq_true, decide_eq_true_eq, not_and, not_or] at hc
        have := hc hlx
        omega
    simp only [List.foldl_cons]
    refine ⟨?_, h2, fun hla => ?_, fun m hmm hlm => ?_⟩
    · rcases h1 with h1 | h1
      · rcases hx with hx | hx
        · left; rw [h1, hx]
        · right; rw [h1, hx]; simp
      · right; simp [h1]
    · have a := ha hla
      have b := h3 a.1
      omega
    · rcases List.mem_cons.1 hmm with rfl | hmr
      · have a := hm hlm
        have b := h3 a.1
        omega
      · exact h4 m hmr hlm
theorem nxt_spec (last : Int) (hl : -1 ≤ last) (l : List Int) : (nxt last l = -1 ∧ ∀ m ∈ l, m ≤ last) ∨ (nxt last l ∈ l ∧ last < nxt last l ∧ ∀ m ∈ l, last < m → nxt last l ≤ m) := by
  obtain ⟨h1, h2, _, h4⟩ := fold_nxt last hl l (-1) (.inl rfl)
  by_cases c : last < nxt last l
  · right
    refine ⟨?_, c, fun m hm hlm => (h4 m hm hlm).2⟩
    rcases h1 with h1 | h1
    · exfalso
      have : nxt last l = -1 := h1
      omega
    · exact h1
  · left
    have : nxt last l = -1 := by
      rcases h2 with h2 | h2
      · exact h2
      · exact absurd h2 c
    refine ⟨this, fun m hm => ?_⟩
    by_cases d : last < m
    · exact absurd (h4 m hm d).1 c
    · omega
def keysW (n : Net) (w : List Nat) : List Int := n.sws.map fun s => atS n s w
def selK (n : Net) (w : List Nat) (m : Int) (l : List Sw) : List (List Nat) := (l.filter fun s => decide (atS n s w = m)).map Sw.name
def brR (n : Net) (w : List Nat) : Nat → List (List Nat) → Int → List (List Nat)
  | 0, out, _ => out
  | f + 1, out, last => if out.length < n.sws.length then (if nxt last (keysW n w) < 0 then out else brR n w f (out ++ selK n w (nxt last (keysW n w)) n.sws) (nxt last (keysW n w))) else out
theorem selK_len (n : Net) (w : List Nat) (m : Int) (l : List Sw) : (selK n w m l).length ≤ l.length := by unfold selK; rw [List.length_map]; exact List.length_filter_le _ _
theorem take_snoc' {α : Type} {l : List α} {i : Nat} {x : α} (h : l[i]? = some x) : l.take (i + 1) = l.take i ++ [x] := by rw [List.take_add_one, h]; rfl
theorem selK_snoc (n : Net) (w : List Nat) (m : Int) {l : List Sw} {k : Nat} {s : Sw} (hs : l[k]? = some s) : selK n w m (l.take (k + 1)) = selK n w m (l.take k) ++ if decide (atS n s w = m) then [s.name] else [] := by
  unfold selK
  rw [take_snoc' hs, List.filter_append, List.map_append]
  cases hd : decide (atS n s w = m) <;> simp [List.filter_cons, hd]
theorem selK_pos {n : Net} {w : List Nat} {m : Int} {l : List Sw} (h : m ∈ l.map fun s => atS n s w) : 0 < (selK n w m l).length := by
  obtain ⟨s, hs, he⟩ := List.mem_map.1 h
  unfold selK
  rw [List.length_map, List.length_pos_iff]
  intro h0
  have : s ∈ l.filter fun s => decide (atS n s w = m) := List.mem_filter.2 ⟨hs, by simp [he]⟩
  rw [h0] at this; cases this
structure SwOk (n : Net) : Prop where
  fits : n.fits
  few : n.sws.length ≤ 1000
  ends : ∀ s ∈ n.sws, s.last = true → ∃ i, findL n.lines s.other = some i
noncomputable def PPF83 : FuncId → Option (List AV → Option AV) := addPrim 156 p156 (fun _ => none)
theorem primsF83 : PrimsOk NC PPF83 := primsOk_add (primsOk_none) (by kernel_rfl) (by kernel_rfl) pok156
theorem enF83_156 : En PPF83 156 p156 := enter_prim (by rfl) (by kernel_rfl)
attribute [go_sem ↓] enF83_156
theorem c83 (n : Net) (w : List Nat) (hp : SwOk n) : ∀ lo H, CallOk NC lo 83 [.agg n.cells, .str w] H (.ps .unk ((brR n w (n.sws.length + 1) [] (-1)).map strRow)) H := by
  refine contract saneNC primsF83 (fn := Tryz.f83) (by kernel_rfl) Tryz.func83 rfl rfl (by rfl) (by first | rfl | (split <;> first | rfl | (split <;> rfl))) ?_
  have hfew := hp.few
  have hfit : n.sws.length ≤ maxRows := by unfold maxRows; omega
  simp only [go_sem, reduceIte, Nat.reduceEqDiff, Nat.reduceAdd, Nat.reduceMul, Nat.reduceSub, Nat.reduceLeDiff, Nat.reduceLT, Nat.reduceBEq, reduceCtorEq, Net.cells, List.length_map]
  generalize hR : brR n w (n.sws.length + 1) [] (-1) = R
  refine W_for (fun k T H M => M = [] ∧ getT T 1 = .str w ∧ getT T 2 = .ptr 0 0 ∧ H.get 0 = .cells n.cells 26 ∧ 0 < H.n ∧ ∃ t out last, getT T 5 = .ps t (out.map strRow) ∧ getT T 6 = i64 last ∧ App H t (out.map strRow) 1 9 ∧ k ≤ out.length ∧ out.length ≤ k * n.sws.length ∧ -1 ≤ last ∧ brR n w (n.sws.length + 1 - k) out last = R) n.sws.length ?_ ?_ ?_
  · simp only [go_sem, reduceIte, Nat.reduceEqDiff, Nat.reduceAdd, Nat.reduceMul, Nat.reduceSub, Nat.reduceLeDiff, Nat.reduceLT, Nat.reduceBEq, reduceCtorEq, Net.cells]
    refine ⟨.nil, [], -1, rfl, rfl, .inl ⟨rfl, rfl⟩, ?_⟩
    refine ⟨?_, ?_, hR⟩ <;> simp
  · rintro k T H M hk ⟨rfl, g1, g2, h0, hn, t, out, last, g5, g6, hA, hko, hkm, hl1, hR⟩
    have hfu : n.sws.length + 1 - k = (n.sws.length - k) + 1 := by omega
    rw [hfu] at hR
    unfold brR at hR
    have hle : (((out.length : Nat) : Int) < ((n.sws.length : Nat) : Int)) = (out.length < n.sws.length) := by simp
    by_cases c : out.length < n.sws.length
    case neg =>
      have c' : (out.length < n.sws.length) = False := by simp [c]
      rw [if_neg c] at hR
      simp only [go_sem, reduceIte, Nat.reduceEqDiff, Nat.reduceAdd, Nat.reduceMul, Nat.reduceSub, Nat.reduceLeDiff, Nat.reduceLT, Nat.reduceBEq, reduceCtorEq, Net.cells, List.length_map, g1, g2, h0, g5, g6, hle, c']
      rw [hR]
    have c' : (out.length < n.sws.length) = True := by simp [c]
    rw [if_pos c] at hR
    simp only [go_sem, reduceIte, Nat.reduceEqDiff, Nat.reduceAdd, Nat.reduceMul, Nat.reduceSub, Nat.reduceLeDiff, Nat.reduceLT, Nat.reduceBEq, reduceCtorEq, Net.cells, List.length_map, g1, g2, h0, g5, g6, hle, c']
    have e156 : ∀ s ∈ n.sws, p156 [.agg n.cells, .agg s.row, .str w] = some (.int .i64 (atS n s w)) := fun s hs => pe156 n s w ⟨hp.fits, hp.ends s hs⟩
    simp only [Net.cells] at e156
    refine W_for (fun j T H' M => M = [] ∧ getT T 1 = .str w ∧ getT T 2 = .ptr 0 0 ∧ H'.get 0 = .cells n.cells 26 ∧ 0 < H'.n ∧ getT T 5 = .ps t (out.map strRow) ∧ getT T 6 = i64 last ∧ App H' t (out.map strRow) 1 9 ∧ getT T 8 = i64 j ∧ getT T 7 = i64 (nxt last ((keysW n w).take j))) n.sws.length ?_ ?_ ?_
    · simp only [go_sem, reduceIte, Nat.reduceEqDiff, Nat.reduceAdd, Nat.reduceMul, Nat.reduceSub, Nat.reduceLeDiff, Nat.reduceLT, Nat.reduceBEq, reduceCtorEq, Net.cells, g1, g2, g5, g6]
      exact ⟨h0, hn, hA, rfl⟩
    · rintro j T H' M hj ⟨rfl, i1, i2, j0, jn, i5, i6, jA, i8, i7⟩
      obtain ⟨s, hs⟩ : ∃ p, n.sws[j]? = some p := ⟨n.sws[j], by simp⟩
      have hr := map_at (f := Sw.row) hs
      have hw := wrap_succ hj hfit
      have ee := e156 s (List.mem_of_getElem? hs)
      have hks : (keysW n w)[j]? = some (atS n s w) := by unfold keysW; simp [hs]
      have hnx : nxt last ((keysW n w).take (j + 1)) = nxtF last (nxt last ((keysW n w).take j)) (atS n s w) := by rw [List.take_add_one, hks]; exact nxt_snoc _ _ _
      unfold nxtF at hnx
      generalize nxt last ((keysW n w).take j) = N at i7 hnx
      generalize atS n s w = A at ee hnx
      obtain ⟨s1, s2, s3, s4, s5⟩ := s
      simp only [Sw.row, i64] at hr ee
      rcases Classical.propComplete (last < A) with z1 | z1 <;> rcases Classical.propComplete (N < 0) with z2 | z2 <;> rcases Classical.propComplete (A < N) with z3 | z3 <;> simp only [go_sem, reduceIte, Nat.reduceEqDiff, Nat.reduceAdd, Nat.reduceMul, Nat.reduceSub, Nat.reduceLeDiff, Nat.reduceLT, Nat.reduceBEq, reduceCtorEq, Net.cells, List.length_map, i1, i2, j0, i5, i6, i8, i7, hj, hr, hw, ee, z1, z2, z3] <;> rw [hnx] <;> simp only [z1, z2, z3, decide_true, decide_false, Bool.and_true, Bool.true_and, Bool.and_false, Bool.false_and, Bool.or_true, Bool.or_false, Bool.true_or, Bool.false_or, if_true, if_false, Bool.false_eq_true] <;> first | exact ⟨jn, jA, rfl⟩ | exact ⟨jn, jA, trivial⟩
    · rintro T H' M ⟨rfl, i1, i2, j0, jn, i5, i6, jA, i8, i7⟩
      have hall : (keysW n w).take n.sws.length = keysW n w := by rw [List.take_of_length_le]; unfold keysW; simp
      rw [hall] at i7
      have hsp := nxt_spec last hl1 (keysW n w)
      generalize hN : nxt last (keysW n w) = N at i7 hR hsp
      by_cases cz : N < 0
      · have z : (N < 0) = True := by simp [cz]
        rw [if_pos cz] at hR
        simp only [go_sem, reduceIte, Nat.reduceEqDiff, Nat.reduceAdd, Nat.reduceMul, Nat.reduceSub, Nat.reduceLeDiff, Nat.reduceLT, Nat.reduceBEq, reduceCtorEq, Net.cells, List.length_map, i1, i2, j0, i5, i6, i8, i7, Nat.lt_irrefl, z]
        rw [hR]
      · have z : (N < 0) = False := by simp [cz]
        rw [if_neg cz] at hR
        have hin : N ∈ keysW n w := by
          rcases hsp with h | h
          · omega
          · exact h.1
        have hpos := selK_pos (l := n.sws) hin
        have hsl := selK_len n w N n.sws
        simp only [go_sem, reduceIte, Nat.reduceEqDiff, Nat.reduceAdd, Nat.reduceMul, Nat.reduceSub, Nat.reduceLeDiff, Nat.reduceLT, Nat.reduceBEq, reduceCtorEq, Net.cells, List.length_map, i1, i2, j0, i5, i6, i8, i7, Nat.lt_irrefl, z]
        refine W_for (fun j T H' M => M = [] ∧ getT T 1 = .str w ∧ getT T 2 = .ptr 0 0 ∧ H'.get 0 = .cells n.cells 26 ∧ 0 < H'.n ∧ getT T 7 = i64 N ∧ getT T 10 = i64 j ∧ ∃ t, getT T 5 = .ps t ((out ++ selK n w N (n.sws.take j)).map strRow) ∧ App H' t ((out ++ selK n w N (n.sws.take j)).map strRow) 1 9) n.sws.length ?_ ?_ ?_
        · simp only [go_sem, reduceIte, Nat.reduceEqDiff, Nat.reduceAdd, Nat.reduceMul, Nat.reduceSub, Nat.reduceLeDiff, Nat.reduceLT, Nat.reduceBEq, reduceCtorEq, Net.cells, i1, i2, i5, i6, i7]
          exact ⟨j0, jn, t, by simp [selK], by simpa [selK] using jA⟩
        · rintro j T H' M hj ⟨rfl, i1, i2, j0, jn, i7, i10, t, i5, jA⟩
          obtain ⟨s, hs⟩ : ∃ p, n.sws[j]? = some p := ⟨n.sws[j], by simp⟩
          have hr := map_at (f := Sw.row) hs
          have hw := wrap_succ hj hfit
          have ee := e156 s (List.mem_of_getElem? hs)
          have hsn := selK_snoc n w N hs
          have hl2 := selK_len n w N (n.sws.take j)
          have hl3 : (n.sws.take j).length ≤ n.sws.length := by rw [List.length_take]; omega
          have hkk : k * n.sws.length ≤ 1000 * 1000 := Nat.mul_le_mul (by omega) (by omega)
          generalize atS n s w = A at ee hsn
          rcases Classical.propComplete (A = N) with z1 | z1
          · obtain ⟨t', H1, ha, hB, hn1, hc1, _⟩ := app_any jA (r := strRow s.name) (by simp; unfold maxRows; omega) rfl (by decide) (rows_all strRow_len _)
            have x0 := hc1 0 _ _ jn j0
            simp only [z1, decide_true, if_true] at hsn
            obtain ⟨s1, s2, s3, s4, s5⟩ := s
            simp only [Sw.row, i64] at hr ee
            simp only [strRow] at ha
            simp only [Net.cells] at x0
            simp only [go_sem, reduceIte, Nat.reduceEqDiff, Nat.reduceAdd, Nat.reduceMul, Nat.reduceSub, Nat.reduceLeDiff, Nat.reduceLT, Nat.reduceBEq, reduceCtorEq, Net.cells, List.length_map, i1, i2, j0, i5, i7, i10, hj, hr, hw, ee, z1, appO, ha, x0]
            rw [hsn, ← List.append_assoc, List.map_append (l₂ := [s1])]
            exact ⟨by omega, t', rfl, hB⟩
          · simp only [z1, decide_false, if_false, Bool.false_eq_true, List.append_nil] at hsn
            obtain ⟨s1, s2, s3, s4, s5⟩ := s
            simp only [Sw.row, i64] at hr ee
            simp only [go_sem, reduceIte, Nat.reduceEqDiff, Nat.reduceAdd, Nat.reduceMul, Nat.reduceSub, Nat.reduceLeDiff, Nat.reduceLT, Nat.reduceBEq, reduceCtorEq, Net.cells, List.length_map, i1, i2, j0, i5, i7, i10, hj, hr, hw, ee, z1]
            rw [hsn]
            exact ⟨jn, t, rfl, jA⟩
        · rintro T H' M ⟨rfl, i1, i2, j0, jn, i7, i10, t, i5, jA⟩
          rw [List.take_length] at i5 jA
          simp only [go_sem, reduceIte, Nat.reduceEqDiff, Nat.reduceAdd, Nat.reduceMul, Nat.reduceSub, Nat.reduceLeDiff, Nat.reduceLT, Nat.reduceBEq, reduceCtorEq, Net.cells, List.length_map, i1, i2, j0, i5, i7, i10, Nat.lt_irrefl]
          refine ⟨jn, t, _, N, rfl, rfl, jA, ?_, ?_, by omega, ?_⟩
          · rw [List.length_append]; omega
          · rw [List.length_append, Nat.succ_mul]; omega
          · have : n.sws.length + 1 - (k + 1) = n.sws.length - k := by omega
            rw [this]; exact hR
  · rintro T H M ⟨rfl, g1, g2, h0, hn, t, out, last, g5, g6, hA, hko, hkm, hl1, hR⟩
    have c' : (out.length < n.sws.length) = False := by simp; omega
    have hle : (((out.length : Nat) : Int) < ((n.sws.length : Nat) : Int)) = (out.length < n.sws.length) := by simp
    have hfu : n.sws.length + 1 - n.sws.length = 0 + 1 := by omega
    rw [hfu] at hR
    unfold brR at hR
    rw [if_neg (by omega)] at hR
    simp only [go_sem, reduceIte, Nat.reduceEqDiff, Nat.reduceAdd, Nat.reduceMul, Nat.reduceSub, Nat.reduceLeDiff, Nat.reduceLT, Nat.reduceBEq, reduceCtorEq, Net.cells, List.length_map, g1, g2, h0, g5, g6, hle, c']
    rw [hR]
noncomputable def p83 : List AV → Option AV := primOf (α := (Net) × (List Nat)) (fun x => [.agg x.1.cells, .str x.2]) (fun x => SwOk x.1) (fun x => .ps .unk ((brR x.1 x.2 (x.1.sws.length + 1) [] (-1)).map strRow))
theorem pok83 : ∀ args v, p83 args = some v → ∀ lo H, CallOk NC lo 83 args H v H := by
  intro args v h
  obtain ⟨x, rfl, hp, rfl⟩ := primOf_inv h
  exact c83 x.1 x.2 hp
theorem pe83 (n : Net) (w : List Nat) (hp : SwOk n) : p83 [.agg n.cells, .str w] = some (.ps .unk ((brR n w (n.sws.length + 1) [] (-1)).map strRow)) := primOf_enc (α := (Net) × (List Nat)) (enc := fun x => [.agg x.1.cells, .str x.2]) (pre := fun x => SwOk x.1) (spec := fun x => .ps .unk ((brR x.1 x.2 (x.1.sws.length + 1) [] (-1)).map strRow)) (by intro x y h; (simp only [List.cons.injEq, AV.agg.injEq, AV.str.injEq, AV.int.injEq, AV.ps.injEq, AV.bool.injEq, Net.cells_iff, Ln.row_iff, Pc.row_iff, Mv.row_iff, lns_iff, pcs_iff, mvs_iff, Sw.row_iff, Br.row_iff, true_and, and_true] at h; first | simpa only [Prod.ext_iff] using h | simpa only [Prod.ext_iff, and_assoc] using h)) (n, w) hp
end Go.Sim

/-
The plain law: branches are the same; posts are the same.
-/
namespace Go.Sim
open Go
theorem netR_parts {n : Net} (h : netR n = 0) : n.sws.length ≤ 8 ∧ allR (switchR n) n.sws.length = 0 := by
  have hl := netR_lines h
  unfold netR at h
  by_cases h1 : (8 : Int) < n.lines.length
  · simp [h1] at h
  · simp only [h1, if_false, hl, if_true] at h
    by_cases h2 : (8 : Int) < n.sws.length
    · simp [h2] at h
    · simp only [h2, if_false] at h
      refine ⟨by omega, ?_⟩
      split at h
      · rename_i h3; exact h3
      · exact h
structure SwGood (n : Net) (s : Sw) : Prop where
  line : ∃ i l, findL n.lines s.line = some i ∧ n.lines[i]? = some l ∧ 0 ≤ s.metre ∧ s.metre < sumW l.ps 0
  other : ∃ i l, findL n.lines s.other = some i ∧ n.lines[i]? = some l
  ne : s.line ≠ s.other
theorem has_in {ls : List Ln} {s : List Nat} {m : Int} (h : hasI ls s m = 0) : ∃ i l, findL ls s = some i ∧ ls[i]? = some l ∧ 0 ≤ m ∧ m < sumW l.ps 0 := by
  unfold hasI at h
  cases hf : findL ls s with
  | none => rw [hf] at h; cases h
  | some i =>
    obtain ⟨l, hl, _⟩ := findL_at hf
    rw [hf] at h
    simp only [hl] at h
    refine ⟨i, l, rfl, hl, ?_⟩
    unfold whenI at h
    split at h
    · cases h
    · rename_i hc
      simp only [Bool.or_eq_true, decide_eq_true_eq, Bool.not_eq_true', decide_eq_false_iff_not, not_or, Classical.not_not] at hc
      omega
theorem sw_good {n : Net} (h : netR n = 0) {s : Sw} (hs : s ∈ n.sws) : SwGood n s := by
  obtain ⟨i, hi⟩ := List.mem_iff_getElem?.1 hs
  have hz := allR_zero (netR_parts h).2 (List.getElem?_eq_some_iff.1 hi).1
  unfold switchR at hz
  simp only [hi] at hz
  split at hz
  · split at hz
    · cases hz
    · have hm := firstI_zero hz
      have h1 := hm (hasI n.lines s.line s.metre) (by simp)
      have h2 := hm (whenI (decide (findI n.lines s.other < 0)) 10) (by simp)
      have h3 := hm (whenI (beqL s.line s.other) 24) (by simp)
      refine ⟨has_in h1, ?_, ?_⟩
      · unfold findI at h2
        cases hf : findL n.lines s.other with
        | none => rw [hf] at h2; simp [whenI] at h2
        | some j =>
          obtain ⟨l, hl, _⟩ := findL_at hf
          exact ⟨j, l, rfl, hl⟩
      · intro e
        rw [e, beqL_self] at h3; simp [whenI] at h3
  · rename_i he; exact absurd hz he
theorem line_pos {n : Net} (h : netR n = 0) {i : Nat} {l : Ln} (hl : n.lines[i]? = some l) : 1 ≤ sumW l.ps 0 := by
  have hz := allR_zero (netR_lines h) (List.getElem?_eq_some_iff.1 hl).1
  unfold lineR at hz
  simp only [hl] at hz
  split at hz
  · rename_i he
    have h0 := firstI_zero he (whenI (decide ((l.ps.length : Int) = 0)) 12) (by simp)
    have hne : 0 < l.ps.length := by
      cases hc : l.ps.length with
      | zero => rw [hc] at h0; simp [whenI] at h0
      | succ k => omega
    have hg := line_good h hl
    have hp : l.ps[0]? = some l.ps[0] := List.getElem?_eq_getElem hne
    have hs := beg_step hg hp
    have hpc := hg.piece l.ps[0] (List.mem_of_getElem? hp)
    have hm := beg_mono hg (j := 0 + 1) (k := l.ps.length) (by omega) (Nat.le_refl _)
    rw [begI_all] at hm
    rw [beg_zero] at hs
    omega
  · rename_i he; exact absurd hz he
theorem end_range {n : Net} (h : netR n = 0) {s : Sw} (hs : SwGood n s) : 0 ≤ endM n s ∧ endM n s < 800000 := by
  obtain ⟨i, l, hf, hl⟩ := hs.other
  have hlo : lnOf n.lines s.other = l := by unfold lnOf; rw [hf]; simp [hl]
  have hg := line_good h hl
  have hp := line_pos h hl
  have hb := sum_bound hg
  unfold endM
  rw [hlo]
  have e : Int.sub (sumW l.ps 0) 1 = sumW l.ps 0 - 1 := rfl
  rw [e, wrap_small (x := sumW l.ps 0 - 1) (by omega) (by omega)]
  split <;> omega
def onW (w : List Nat) (s : Sw) : Bool := beqL s.line w || beqL s.other w
theorem at_range {n : Net} (h : netR n = 0) {s : Sw} (hs : SwGood n s) (w : List Nat) : (onW w s = true → 0 ≤ atS n s w ∧ atS n s w < 800000) ∧ (onW w s = false → atS n s w = -1) := by
  obtain ⟨i, l, _, hl, h0, h1⟩ := hs.line
  have hb := sum_bound (line_good h hl)
  have he := end_range h hs
  unfold onW atS
  cases beqL s.line w <;> cases beqL s.other w <;> simp <;> omega
theorem brsOf_one {n : Net} {s : Sw} (hs : SwGood n s) (w : List Nat) : brsOf n w s = if onW w s then [⟨s, atS n s w⟩] else [] := by
  have hne := hs.ne
  unfold brsOf onW atS
  cases h1 : beqL s.line w <;> cases h2 : beqL s.other w <;> simp
  rw [(beqL_iff _ _).1 h1, (beqL_iff _ _).1 h2] at hne
  exact absurd rfl hne
theorem brs_few {n : Net} (w : List Nat) : ∀ {l : List Sw}, (∀ s ∈ l, SwGood n s) → (l.flatMap (brsOf n w)).length ≤ l.length
  | [], _ => by simp
  | s :: r, h => by
    have ih := brs_few w (l := r) fun x hx => h x (by simp [hx])
    rw [List.flatMap_cons, List.length_append, brsOf_one (h s (by simp)), List.length_cons]
    have : (if onW w s = true then [(⟨s, atS n s w⟩ : Br)] else []).length ≤ 1 := by split <;> simp
    omega
theorem brs_keys {n : Net} (hz : netR n = 0) (w : List Nat) {b : Br} (hb : b ∈ brsAll n w) : 0 ≤ b.at' ∧ b.at' < 800000 ∧ b.at' ∈ keysW n w := by
  unfold brsAll at hb
  rw [List.mem_flatMap] at hb
  obtain ⟨s, hs, hb⟩ := hb
  have hg := sw_good hz hs
  rw [brsOf_one hg] at hb
  split at hb
  · rename_i ho
    have hb : b = ⟨s, atS n s w⟩ := by simpa using hb
    subst hb
    have hr := (at_range hz hg w).1 ho
    exact ⟨hr.1, hr.2, List.mem_map.2 ⟨s, hs, rfl⟩⟩
  · cases hb
theorem sel_with {n : Net} (hz : netR n = 0) (w : List Nat) {m : Int} (hm : 0 ≤ m) : ∀ {l : List Sw}, (∀ s ∈ l, SwGood n s) → selK n w m l = wordsOf (withKey Br.at' m (l.flatMap (brsOf n w)))
  | [], _ => rfl
  | s :: r, h => by
    have ih := sel_with hz w hm (l := r) fun x hx => h x (by simp [hx])
    have hg := h s (by simp)
    have hr := at_range hz hg w
    unfold selK at ih ⊢
    unfold withKey wordsOf at ih ⊢
    rw [List.filter_cons, List.flatMap_cons, List.filter_append, List.map_append, brsOf_one hg, ← ih]
    cases ho : onW w s with
    | false =>
      have := hr.2 ho
      have hn : ¬ (atS n s w = m) := by omega
      simp [hn]
    | true =>
      by_cases c : atS n s w = m <;> simp [c]
theorem isort_congr {α : Type} {f g : α → α → Bool} {L : List α} (h : ∀ a ∈ L, ∀ b ∈ L, f a b = g a b) : isort f L = isort g L := by
  have ins : ∀ (x : α) (l : List α), x ∈ L → (∀ y ∈ l, y ∈ L) → insRev f x l = insRev g x l := by
    intro x l hx
    induction l with
    | nil => intro _; rfl
    | cons y r ih =>
      intro hl
      unfold insRev
      rw [h x hx y (hl y (by simp)), ih fun z hz => hl z (by simp [hz])]
  have main : ∀ (l acc : List α), (∀ y ∈ l, y ∈ L) → (∀ y ∈ acc, y ∈ L) → isortRev f acc l = isortRev g acc l := by
    intro l
    induction l with
    | nil => intro _ _ _; rfl
    | cons x r ih =>
      intro acc hl ha
      show isortRev f (insRev f x acc) r = isortRev g (insRev g x acc) r
      rw [ins x acc (hl x (by simp)) ha]
      refine ih _ (fun y hy => hl y (by simp [hy])) fun y hy => ?_
      rcases List.mem_cons.1 ((insRev_perm g x acc).mem_iff.1 hy) with e | e
      · subst e; exact hl y (by simp)
      · exact ha y e
  unfold isort
  rw [main L [] (fun y hy => hy) (by simp)]
theorem isort_br {n : Net} (hz : netR n = 0) (w : List Nat) : isort brLt (brsAll n w) = isort (keyLt Br.at') (brsAll n w) := by
  refine isort_congr fun a ha b hb => ?_
  have ka := brs_keys hz w ha
  have kb := brs_keys hz w hb
  unfold brLt keyLt
  have e : Int.sub a.at' b.at' = a.at' - b.at' := rfl
  rw [e, wrap_small (by omega) (by omega)]
  have : (a.at' - b.at' < 0) = (a.at' < b.at') := by simp; omega
  simp only [this]
theorem with_filter {α : Type} (key : α → Int) (q : Int → Bool) (k : Int) (l : List α) : withKey key k (l.filter fun x => q (key x)) = if q k then withKey key k l else [] := by
  unfold withKey
  rw [List.filter_filter]
  split
  · rename_i h
    refine List.filter_congr fun x _ => ?_
    by_cases c : key x = k
    · simp [c, h]
    · simp [c]
  · rename_i h
    rw [List.filter_eq_nil_iff]
    intro x _
    by_cases c : key x = k
    · simp [c, h]
    · simp [c]
theorem filter_next {α : Type} (key : α → Int) {l : List α} (h : l.Pairwise fun a b => key a ≤ key b) {a b : Int} (hab : a < b) (hno : ∀ x ∈ l, a < key x → b ≤ key x) :
    (l.filter fun x => decide (key x ≤ b)) = (l.filter fun x => decide (key x ≤ a)) ++ withKey key b l := by
  refine asc_with key (h.filter _) ?_ fun k => ?_
  · rw [List.pairwise_append]
    refine ⟨h.filter _, ?_, fun x hx y hy => ?_⟩
    · unfold withKey; exact h.filter _
    · have h1 := (List.mem_filter.1 hx).2
      unfold withKey at hy
      have h2 := (List.mem_filter.1 hy).2
      simp only [decide_eq_true_eq] at h1 h2
      omega
  · have e1 := with_filter key (fun k => decide (k ≤ b)) k l
    have e2 := with_filter key (fun k => decide (k ≤ a)) k l
    have e3 := with_filter key (fun k => decide (k = b)) k l
    have happ : withKey key k ((l.filter fun x => decide (key x ≤ a)) ++ withKey key b l) = withKey key k (l.filter fun x => decide (key x ≤ a)) ++ withKey key k (l.filter fun x => decide (key x = b)) := by
      unfold withKey; rw [List.filter_append]
    rw [happ, e1, e2, e3]
    by_cases c1 : k ≤ a
    · have c2 : k ≤ b := by omega
      have c3 : ¬ (k = b) := by omega
      simp [c1, c2, c3]
    · by_cases c3 : k = b
      · have c2 : k ≤ b := by omega
        have c1' : ¬ (b ≤ a) := by omega
        simp [c1', c3]
      · by_cases c2 : k ≤ b
        · have : withKey key k l = [] := by
            unfold withKey
            rw [List.filter_eq_nil_iff]
            intro x hx
            simp only [decide_eq_true_eq]
            intro e
            have := hno x hx (by omega)
            omega
          simp [c1, c2, c3, this]
        · simp [c1, c2, c3]
theorem brR_spec {n : Net} (hz : netR n = 0) (w : List Nat) : ∀ (f : Nat) (out : List (List Nat)) (last : Int), -1 ≤ last → out = wordsOf ((isort (keyLt Br.at') (brsAll n w)).filter fun b => decide (b.at' ≤ last)) → n.sws.length + 1 ≤ f + out.length →
    brR n w f out last = wordsOf (isort (keyLt Br.at') (brsAll n w)) := by
  have hperm := isort_perm (keyLt Br.at') (brsAll n w)
  have hkeys : ∀ b ∈ isort (keyLt Br.at') (brsAll n w), 0 ≤ b.at' ∧ b.at' < 800000 ∧ b.at' ∈ keysW n w := fun b hb => brs_keys hz w (hperm.mem_iff.1 hb)
  have hasc := isort_asc Br.at' (brsAll n w)
  have hwith := fun k => isort_with Br.at' k (brsAll n w)
  have hfew : (isort (keyLt Br.at') (brsAll n w)).length ≤ n.sws.length := by
    rw [hperm.length_eq]
    exact brs_few w fun s hs => sw_good hz hs
  generalize hS : isort (keyLt Br.at') (brsAll n w) = S at hkeys hasc hwith hfew ⊢
  intro f
  induction f with
  | zero =>
    intro out last _ ho hl
    exfalso
    have : out.length ≤ S.length := by rw [ho]; unfold wordsOf; rw [List.length_map]; exact List.length_filter_le _ _
    omega
  | succ f ih =>
    intro out last hl1 ho hl
    unfold brR
    by_cases c : out.length < n.sws.length
    · rw [if_pos c]
      rcases nxt_spec last hl1 (keysW n w) with ⟨h1, h2⟩ | ⟨h1, h2, h3⟩
      · rw [h1, if_pos (by omega), ho]
        congr 1
        rw [List.filter_eq_self]
        intro b hb
        have := h2 _ (hkeys b hb).2.2
        simpa using this
      · have hnn : ¬ (nxt last (keysW n w) < 0) := by omega
        rw [if_neg hnn]
        have hpos := selK_pos (l := n.sws) h1
        generalize nxt last (keysW n w) = N at h1 h2 h3 hnn hpos ⊢
        refine ih _ N (by omega) ?_ (by rw [List.length_append]; omega)
        rw [filter_next Br.at' hasc h2 fun b hb => h3 _ (hkeys b hb).2.2, ho, hwith, sel_with hz w (by omega) fun s hs => sw_good hz hs]
        unfold wordsOf brsAll
        rw [List.map_append]
    · rw [if_neg c, ho]
      congr 1
      have hle : S.length ≤ (S.filter fun b => decide (b.at' ≤ last)).length := by
        have : out.length = (S.filter fun b => decide (b.at' ≤ last)).length := by rw [ho]; unfold wordsOf; rw [List.length_map]
        omega
      exact List.filter_sublist.eq_of_length_le hle
theorem branches_same {n : Net} (hz : netR n = 0) (w : List Nat) : brR n w (n.sws.length + 1) [] (-1) = wordsOf (isort brLt (brsAll n w)) := by
  rw [isort_br hz w]
  refine brR_spec hz w _ [] (-1) (by omega) ?_ (by simp)
  have : ((isort (keyLt Br.at') (brsAll n w)).filter fun b => decide (b.at' ≤ -1)) = [] := by
    rw [List.filter_eq_nil_iff]
    intro b hb
    have := brs_keys hz w ((isort_perm (keyLt Br.at') (brsAll n w)).mem_iff.1 hb)
    simp only [decide_eq_true_eq]
    omega
  rw [this]; rfl
theorem sw_ok {n : Net} (hf : n.fits) (hz : netR n = 0) : SwOk n := ⟨hf, by have := (netR_parts hz).1; omega, fun s hs _ => by
  obtain ⟨i, l, h, _⟩ := (sw_good hz hs).other
  exact ⟨i, h⟩⟩
/-! ### Posts -/
theorem metreOf_neg {l : Ln} (hg : l.Good) {k : Nat} {p : Pc} (hp : l.ps[k]? = some p) {P : Int} (hP : 0 ≤ P ∧ P ≤ 9999999) : decide (metreOfI l k P < 0) = !metreB p P := by
  have hgp := hg.piece p (List.mem_of_getElem? hp)
  have hk := (List.getElem?_eq_some_iff.1 hp).1
  have hb := beg_bound hg k (by omega)
  have h8 := hg.few
  have hin := metreB_iff (p := p) (P := P) ⟨hgp.2.2.1, hgp.2.2.2⟩ hP
  unfold metreOfI
  simp only [hp]
  by_cases c : 0 ≤ offI p P ∧ offI p P < p.len
  · have hb2 : metreB p P = true := hin.2 c
    have c1 : ¬ (offI p P < 0) := by omega
    rw [hb2]
    have e : Int.add (begI l k) (offI p P) = begI l k + offI p P := rfl
    simp only [c1, c.2, decide_false, decide_true, Bool.not_true, Bool.or_self, Bool.false_eq_true, if_false]
    rw [e, wrap_small (by omega) (by omega), decide_eq_false_iff_not]
    omega
  · have hb2 : metreB p P = false := by
      cases hb3 : metreB p P with
      | false => rfl
      | true => exact absurd (hin.1 hb3) c
    rw [hb2]
    have hor : (decide (offI p P < 0) || !decide (offI p P < p.len)) = true := by
      simp only [Bool.or_eq_true, Bool.not_eq_true', decide_eq_true_eq, decide_eq_false_iff_not]
      omega
    rw [if_pos hor]; rfl
theorem posts_same {l : Ln} (hg : l.Good) (s : List Nat) {P : Int} (hP : 0 ≤ P ∧ P ≤ 9999999) : ∀ k, k ≤ l.ps.length → postsRK l s P k = postsK l s P k
  | 0, _ => rfl
  | k + 1, hk => by
    show postsRK l s P k ++ postAtR l s P k = postsK l s P k ++ postAt l s P k
    rw [posts_same hg s hP k (by omega)]
    congr 1
    have hp : l.ps[k]? = some (l.ps[k]'(by omega)) := List.getElem?_eq_getElem (by omega)
    generalize l.ps[k]'(by omega) = p at hp
    unfold postAtR postAt
    rw [metreOf_neg hg hp hP]
    simp only [hp]
    cases metreB p P <;> rfl
end Go.Sim

/-
The law: NetworkPosts returns true.
-/
-- INJ Sw.row_iff Br.row_iff ads_iff strs_iff
namespace Go.Sim
open Go Go.Proofs
set_option maxRecDepth 100000
set_option maxHeartbeats 16000000
theorem listB_self {α : Type} {f : α → α → Bool} (hf : ∀ a b, f a b = true ↔ a = b) (x : List α) : listB f x x = true := (listB_iff hf).2 rfl
theorem named_bad {E : Int} (h : (E = 0) = False) : namedB [] E E [] = true := by unfold namedB; simp [h]
theorem named_good (x : List (List Nat)) : namedB x 0 0 x = true := by unfold namedB; simp [listB_self beqL_iff x]
noncomputable def PPF13 : FuncId → Option (List AV → Option AV) := addPrim 86 p86 (addPrim 84 p84 (addPrim 85 p85 (addPrim 83 p83 (addPrim 82 p82 (addPrim 34 p34 (addPrim 35 p35 (addPrim 23 p23 (addPrim 22 p22 (addPrim 81 p81 (addPrim 51 p51 (addPrim 19 p19 (addPrim 17 p17 (addPrim 16 p16 (fun _ => none))))))))))))))
theorem primsF13 : PrimsOk NC PPF13 := primsOk_add (primsOk_add (primsOk_add (primsOk_add (primsOk_add (primsOk_add (primsOk_add (primsOk_add (primsOk_add (primsOk_add (primsOk_add (primsOk_add (primsOk_add (primsOk_add (primsOk_none) (by kernel_rfl) (by kernel_rfl) pok16) (by kernel_rfl) (by kernel_rfl) pok17) (by kernel_rfl) (by kernel_rfl) pok19) (by kernel_rfl) (by kernel_rfl) pok51) (by kernel_rfl) (by kernel_rfl) pok81) (by kernel_rfl) (by kernel_rfl) pok22) (by kernel_rfl) (by kernel_rfl) pok23) (by kernel_rfl) (by kernel_rfl) pok35) (by kernel_rfl) (by kernel_rfl) pok34) (by kernel_rfl) (by kernel_rfl) pok82) (by kernel_rfl) (by kernel_rfl) pok83) (by kernel_rfl) (by kernel_rfl) pok85) (by kernel_rfl) (by kernel_rfl) pok84) (by kernel_rfl) (by kernel_rfl) pok86
theorem enF13_16 : En PPF13 16 p16 := enter_prim (by rfl) (by kernel_rfl)
theorem enF13_17 : En PPF13 17 p17 := enter_prim (by rfl) (by kernel_rfl)
theorem enF13_19 : En PPF13 19 p19 := enter_prim (by rfl) (by kernel_rfl)
theorem enF13_51 : En PPF13 51 p51 := enter_prim (by rfl) (by kernel_rfl)
theorem enF13_81 : En PPF13 81 p81 := enter_prim (by rfl) (by kernel_rfl)
theorem enF13_22 : En PPF13 22 p22 := enter_prim (by rfl) (by kernel_rfl)
theorem enF13_23 : En PPF13 23 p23 := enter_prim (by rfl) (by kernel_rfl)
theorem enF13_35 : En PPF13 35 p35 := enter_prim (by rfl) (by kernel_rfl)
theorem enF13_34 : En PPF13 34 p34 := enter_prim (by rfl) (by kernel_rfl)
theorem enF13_82 : En PPF13 82 p82 := enter_prim (by rfl) (by kernel_rfl)
theorem enF13_83 : En PPF13 83 p83 := enter_prim (by rfl) (by kernel_rfl)
theorem enF13_85 : En PPF13 85 p85 := enter_prim (by rfl) (by kernel_rfl)
theorem enF13_84 : En PPF13 84 p84 := enter_prim (by rfl) (by kernel_rfl)
theorem enF13_86 : En PPF13 86 p86 := enter_prim (by rfl) (by kernel_rfl)
attribute [go_sem ↓] enF13_16 enF13_17 enF13_19 enF13_51 enF13_81 enF13_22 enF13_23 enF13_35 enF13_34 enF13_82 enF13_83 enF13_85 enF13_84 enF13_86
theorem c13 (n : Net) (s : List Nat) (P : Int) : ∀ lo H, CallOk NC lo 13 [.agg n.cells, .str s, i64 P] H (.bool true) H := by
  refine contract saneNC primsF13 (fn := Tryz.f13) (by kernel_rfl) Tryz.func13 rfl rfl (by rfl) (by rfl) ?_
  have e17 := pe17 n trivial
  simp only [Net.cells] at e17
  cases hS : shortN n with
  | false =>
    simp only [hS] at e17
    simp only [go_sem, reduceIte, Nat.reduceEqDiff, Nat.reduceAdd, Nat.reduceMul, Nat.reduceSub, Nat.reduceLeDiff, Nat.reduceLT, Nat.reduceBEq, reduceCtorEq, Net.cells, e16, e17]
  | true =>
  simp only [hS] at e17
  rcases Classical.propComplete ((40 : Int) < s.length) with q1 | q1
  · simp only [go_sem, reduceIte, Nat.reduceEqDiff, Nat.reduceAdd, Nat.reduceMul, Nat.reduceSub, Nat.reduceLeDiff, Nat.reduceLT, Nat.reduceBEq, reduceCtorEq, Net.cells, e16, e17, q1]
  have hok := short_ok hS
  have e19 := pe19 n ⟨hok.fits, hok.sws, hok.sts⟩
  have e51 : p51 [.agg n.cells, .str s, .int .i64 P] = some (.tup (postsP n s P)) := pe51 n s P hok
  have e81 : p81 [.agg n.cells, .str s] = some (.tup (branchesP n s)) := pe81 n s hok
  have e22 := pe22 n ⟨hok.fits, hok.sws, hok.sts⟩
  have e23 := pe23 (n, s) hok.fits
  have e85n : p85 [.ps .unk []] = some (.ps .unk []) := pe85 [] (Nat.zero_le _)
  have e84n : p84 [.ps .unk [], .ps .unk []] = some (.bool true) := pe84 [] [] (Nat.zero_le _)
  have e86n : ∀ E : Int, (E = 0) = False → p86 [.ps .unk [], .int .i64 E, .int .i64 E, .ps .unk []] = some (.bool true) := fun E hE => by
    have := pe86 [] E E [] (Nat.zero_le _)
    rw [named_bad hE] at this
    exact this
  unfold postsP at e51
  unfold branchesP at e81
  simp only [Net.cells, i64, net_same, lineI] at e19 e51 e81 e22 e23
  rcases Classical.propComplete (netR n = 0) with z | z
  case inr =>
    simp only [z, if_false] at e51 e81
    have ez := e86n _ z
    simp only [go_sem, reduceIte, Nat.reduceEqDiff, Nat.reduceAdd, Nat.reduceMul, Nat.reduceSub, Nat.reduceLeDiff, Nat.reduceLT, Nat.reduceBEq, reduceCtorEq, Net.cells, e16, e17, q1, e19, e51, e81, e22, e85n, e84n, ez, z]
  have hz := of_eq_true z
  simp only [hz, if_true] at e51 e81 e22
  unfold postsE at e51
  unfold lnB at e51 e81
  cases hf : findL n.lines s with
  | none =>
    have z10 : ((10 : Int) = 0) = False := by simp
    have ez := e86n 10 z10
    have hfi : firstI [10, rangeI P 0 9999999] = 10 := by simp [firstI]
    simp only [hf, Option.isSome_none, Bool.not_false, whenI_true, hfi, z10, if_false, Bool.false_eq_true] at e51 e81
    simp only [hf, Option.isNone_none, whenI_true] at e23
    simp only [go_sem, reduceIte, Nat.reduceEqDiff, Nat.reduceAdd, Nat.reduceMul, Nat.reduceSub, Nat.reduceLeDiff, Nat.reduceLT, Nat.reduceBEq, reduceCtorEq, Net.cells, e16, e17, q1, e19, e51, e81, e22, e23, e35, e34_2, hfi, e85n, e84n, ez, z10]
  | some i =>
    obtain ⟨l, hl, hlt, hmem⟩ := findL_at hf
    have hlo : lnOf n.lines s = l := by unfold lnOf; rw [hf]; simp [hl]
    have hg := line_good hz hl
    have hfi : ∀ r, firstI [0, r] = r := fun r => by by_cases h : r = 0 <;> simp [firstI, h]
    have e83 : p83 [.agg n.cells, .str s] = some (.ps .unk ((brR n s (n.sws.length + 1) [] (-1)).map strRow)) := pe83 n s (sw_ok hok.fits hz)
    rw [branches_same hz] at e83
    simp only [hf, Option.isSome_some, Bool.not_true, whenI_false, hfi, if_true] at e51 e81
    simp only [hf, Option.isNone_some, whenI_false] at e23
    have hbl : (wordsOf (isort brLt (brsAll n s))).length ≤ maxRows := by
      unfold wordsOf
      rw [List.length_map, isort_length]
      have := brs_len n s n.sws
      have := (netR_parts hz).1
      unfold brsAll maxRows; omega
    generalize wordsOf (isort brLt (brsAll n s)) = ws at e81 e83 hbl
    have e86 := pe86 ws 0 0 ws hbl
    rw [named_good ws] at e86
    simp only [i64, Net.cells] at e83 e86
    have hE : rangeI P 0 9999999 = rangeI P 0 9999999 := rfl
    rcases Classical.propComplete (rangeI P 0 9999999 = 0) with zr | zr
    · have hP := rangeI_zero (of_eq_true zr)
      have e82 : p82 [.agg n.cells, .str s, .int .i64 P] = some (.ps .unk ((postsRK (lnOf n.lines s) s P (lnOf n.lines s).ps.length).map adRow)) := pe82 n s P ⟨hok.fits, i, hf⟩
      rw [hlo, posts_same hg s hP _ (Nat.le_refl _)] at e82
      simp only [of_eq_true zr, if_true, hlo] at e51
      have hpl := postsK_len l s P l.ps.length
      have h8 := hg.few
      generalize postsK l s P l.ps.length = ps at e51 e82 hpl
      have hpl' : ps.length ≤ maxRows := by unfold maxRows; omega
      have e85 := pe85 ps hpl'
      have e84 := pe84 ps ps hpl'
      rw [listB_self adB_iff ps] at e84
      simp only [Net.cells] at e82
      have hr0 := of_eq_true zr
      have e35' : p35 [.int .i64 P, .int .i64 0, .int .i64 9999999] = some (.int .i64 0) := by rw [e35, hr0]
      have f00 : firstI [0, 0] = 0 := rfl
      simp only [go_sem, reduceIte, Nat.reduceEqDiff, Nat.reduceAdd, Nat.reduceMul, Nat.reduceSub, Nat.reduceLeDiff, Nat.reduceLT, Nat.reduceBEq, reduceCtorEq, Net.cells, e16, e17, q1, e19, e51, e81, e22, e23, e35', e34_2, f00, e82, e83, e85, e84, e86]
    · simp only [zr, if_false] at e51
      have e35' := e35 P 0 9999999
      generalize rangeI P 0 9999999 = r at e51 zr e35'
      simp only [go_sem, reduceIte, Nat.reduceEqDiff, Nat.reduceAdd, Nat.reduceMul, Nat.reduceSub, Nat.reduceLeDiff, Nat.reduceLT, Nat.reduceBEq, reduceCtorEq, Net.cells, e16, e17, q1, e19, e51, e81, e22, e23, e35', e34_2, hfi, zr, e83, e85n, e84n, e86]
end Go.Sim
