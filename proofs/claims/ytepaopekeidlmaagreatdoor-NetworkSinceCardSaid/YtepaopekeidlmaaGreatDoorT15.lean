/-
The parts NetM5, NetF1, NetF2, NetD1, NetD2, NetAwake, NetZ1, NetD3, NetD4, NetD5, NetS1, NetM6, NetN1, NetN2, NetS2, NetD6, NetFacts2, NetI1, NetW2, NetW4, NetW6, NetS3 of one proof, joined: each begins with a remark that says what it shows.
-/
import Derived.Test.YtepaopekeidlmaaGreatDoorT14
set_option linter.unusedSimpArgs false
set_option linter.unusedVariables false

/-
The plain law of maps: the program's errors are the reference's; what a valid map carries.
-/
namespace Go.Sim
open Go
theorem firstI_append (a b : List Int) : firstI (a ++ b) = if firstI a = 0 then firstI b else firstI a := by
  induction a with
  | nil => simp [firstI]
  | cons x r ih =>
    rw [List.cons_append, firstI_cons, firstI_cons, ih]
    by_cases h : x = 0
    · simp [h]
    · simp [h]
theorem any_same {α : Type} {f g : α → Bool} : ∀ {l : List α}, (∀ x ∈ l, f x = g x) → l.any f = l.any g
  | [], _ => rfl
  | a :: r, h => by rw [List.any_cons, List.any_cons, h a (by simp), any_same fun x hx => h x (by simp [hx])]
theorem find_same {α : Type} {f g : α → Bool} : ∀ {l : List α}, (∀ x ∈ l, f x = g x) → l.find? f = l.find? g
  | [], _ => rfl
  | a :: r, h => by rw [List.find?_cons, List.find?_cons, h a (by simp), find_same fun x hx => h x (by simp [hx])]
theorem allR_succ (f : Nat → Int) (n : Nat) : allR f (n + 1) = if allR f n = 0 then f n else allR f n := by
  unfold allR
  rw [List.range_succ, List.map_append, firstI_append]
  simp only [List.map_cons, List.map_nil, firstI_cons, firstI_nil]
  split
  · split
    · rename_i h; exact h.symm
    · rfl
  · rfl
theorem allR_same {f g : Nat → Int} : ∀ {n : Nat}, (∀ i, i < n → (∀ j, j < i → f j = 0) → f i = g i) → allR f n = allR g n
  | 0, _ => rfl
  | n + 1, h => by
    rw [allR_succ, allR_succ, ← allR_same (n := n) (fun i hi => h i (by omega))]
    split
    · rename_i hz
      exact h n (by omega) fun j hj => allR_zero hz hj
    · rfl
structure Mv.Good (x : Mv) : Prop where
  line : nameB x.line = true
  other : nameB x.other = true
  fr : 0 ≤ x.fr
  len : 1 ≤ x.len
  to : 0 ≤ x.to
  frl : x.fr + x.len ≤ 800000
  tol : x.to + x.len ≤ 800000
theorem when_name {s : List Nat} (h : whenI (!nameB s) 8 = 0) : nameB s = true := by
  cases hb : nameB s with
  | true => rfl
  | false => rw [hb] at h; simp [whenI] at h
theorem mv_ranges {x : Mv} (h : firstI [whenI (!nameB x.line) 8, whenI (!nameB x.other) 8, rangeI x.fr 0 800000, rangeI x.len 1 800000, rangeI x.to 0 800000] = 0) :
    nameB x.line = true ∧ nameB x.other = true ∧ (0 ≤ x.fr ∧ x.fr ≤ 800000) ∧ (1 ≤ x.len ∧ x.len ≤ 800000) ∧ 0 ≤ x.to ∧ x.to ≤ 800000 := by
  have hm := firstI_zero h
  exact ⟨when_name (hm _ (by simp)), when_name (hm _ (by simp)), rangeI_zero (hm (rangeI x.fr 0 800000) (by simp)), rangeI_zero (hm (rangeI x.len 1 800000) (by simp)), rangeI_zero (hm (rangeI x.to 0 800000) (by simp))⟩
theorem maxI_lt {a b c : Int} : maxI a b < c ↔ a < c ∧ b < c := by unfold maxI; split <;> omega
theorem lt_minI {a b c : Int} : c < minI a b ↔ c < a ∧ c < b := by unfold minI; split <;> omega
theorem maxI_or (a b : Int) : maxI a b = a ∨ maxI a b = b := by unfold maxI; split <;> simp
theorem mvP_good {x : Mv} (h : mvP x = 0) : x.Good := by
  unfold mvP at h
  simp only [] at h
  split at h
  · rename_i he
    obtain ⟨a, b, c, d, e, f⟩ := mv_ranges he
    have hs : Int.add (maxI x.fr x.to) x.len = maxI x.fr x.to + x.len := rfl
    have hb := maxI_or x.fr x.to
    rw [hs, wrap_small (by rcases hb with hb | hb <;> omega) (by rcases hb with hb | hb <;> omega)] at h
    have hn : ¬ (800000 < maxI x.fr x.to + x.len) := by
      intro hc; rw [decide_eq_true hc] at h; simp [whenI] at h
    have hm : x.fr ≤ maxI x.fr x.to ∧ x.to ≤ maxI x.fr x.to := by unfold maxI; split <;> omega
    exact ⟨a, b, c.1, d.1, e, by omega, by omega⟩
  · rename_i he; exact absurd h he
theorem Mv.Good.end_ {x : Mv} (h : x.Good) : endI x = x.fr + x.len := by
  have e : Int.add x.fr x.len = x.fr + x.len := rfl
  have := h.fr; have := h.len; have := h.frl
  unfold endI; rw [e, wrap_small (by omega) (by omega)]
theorem Mv.Good.till {x : Mv} (h : x.Good) : wrapq .i64 (Int.add x.to x.len) = x.to + x.len := by
  have e : Int.add x.to x.len = x.to + x.len := rfl
  have := h.to; have := h.len; have := h.tol
  rw [e, wrap_small (by omega) (by omega)]
theorem meet_same {x y : Mv} (hx : x.Good) (hy : y.Good) : meetB x y = overB y x := by
  unfold meetB overB
  rw [hx.till, hy.till]
  have := hx.len; have := hy.len
  have : (maxI y.to x.to < minI (y.to + y.len) (x.to + x.len)) ↔ (y.to < x.to + x.len ∧ x.to < y.to + y.len) := by
    rw [maxI_lt, lt_minI, lt_minI]
    omega
  rw [Bool.and_assoc]
  congr 1
  rw [Bool.eq_iff_iff]
  simp only [decide_eq_true_eq, Bool.and_eq_true]
  exact this
theorem move_same (m : List Mv) (i : Nat) (hz : ∀ j, j < i → moveP m j = 0) : moveP m i = mvR m i := by
  unfold moveP mvR
  cases hx : m[i]? with
  | none => rfl
  | some x =>
    simp only []
    unfold mvP
    simp only []
    by_cases he : firstI [whenI (!nameB x.line) 8, whenI (!nameB x.other) 8, rangeI x.fr 0 800000, rangeI x.len 1 800000, rangeI x.to 0 800000] = 0
    · simp only [he, if_true]
      obtain ⟨a, b, c, d, e, f⟩ := mv_ranges he
      have hb := maxI_or x.fr x.to
      have hm : x.fr ≤ maxI x.fr x.to ∧ x.to ≤ maxI x.fr x.to := by unfold maxI; split <;> omega
      have hs : Int.add (maxI x.fr x.to) x.len = maxI x.fr x.to + x.len := rfl
      have hs1 : Int.add x.to x.len = x.to + x.len := rfl
      have hs2 : endI x = x.fr + x.len := by
        have e : Int.add x.fr x.len = x.fr + x.len := rfl
        unfold endI; rw [e, wrap_small (by omega) (by omega)]
      rw [hs, hs1, hs2, wrap_small (x := maxI x.fr x.to + x.len) (by rcases hb with hb | hb <;> omega) (by rcases hb with hb | hb <;> omega), wrap_small (x := x.to + x.len) (by omega) (by omega)]
      have hor : (decide (800000 < x.fr + x.len) || decide (800000 < x.to + x.len)) = decide (800000 < maxI x.fr x.to + x.len) := by
        rw [Bool.eq_iff_iff]
        simp only [Bool.or_eq_true, decide_eq_true_eq]
        rcases hb with hb | hb <;> omega
      rw [hor]
      by_cases hl : 800000 < maxI x.fr x.to + x.len
      · simp [hl, whenI]
      · simp only [hl, decide_false, whenI_false, if_true, Bool.false_eq_true, if_false]
        have hxg : x.Good := ⟨a, b, c.1, d.1, e, by omega, by omega⟩
        have hany : (m.take i).any (meetB x) = (m.take i).any (fun y => overB y x) := by
          apply any_same
          intro y hy
          obtain ⟨j, hj⟩ := List.mem_iff_getElem?.1 hy
          rw [List.getElem?_take] at hj
          split at hj
          · rename_i hji
            have hjz := hz j hji
            unfold moveP at hjz
            simp only [hj] at hjz
            split at hjz
            · rename_i hp
              exact meet_same hxg (mvP_good hp)
            · rename_i hp; exact absurd hjz hp
          · cases hj
        rw [hany]
        first | done | rfl
    · simp [he]
theorem map_same (m : List Mv) : mapP m = mapR m := by
  unfold mapP mapR
  rw [allR_same (f := moveP m) (g := mvR m) (n := m.length) fun i _ hz => move_same m i hz]
theorem map_good {m : List Mv} (h : mapR m = 0) {x : Mv} (hx : x ∈ m) : x.Good := by
  rw [← map_same] at h
  unfold mapP at h
  by_cases hl : (24 : Int) < m.length
  · simp [hl] at h
  · simp only [hl, if_false] at h
    obtain ⟨i, hi⟩ := List.mem_iff_getElem?.1 hx
    have hz := allR_zero h (List.getElem?_eq_some_iff.1 hi).1
    unfold moveP at hz
    simp only [hi] at hz
    split at hz
    · rename_i hp; exact mvP_good hp
    · rename_i hp; exact absurd hz hp
/-! ### What is carried -/
theorem hit_same {x : Mv} (hx : x.Good) (s : List Nat) {q : Int} (h0 : 0 ≤ q) (h1 : q ≤ 800000) : hitMv s q x = hitR s q x := by
  have := hx.fr; have := hx.len; have := hx.frl
  have e : Int.sub q x.fr = q - x.fr := rfl
  unfold hitMv hitR kR
  rw [hx.end_, e, wrap_small (by omega) (by omega)]
  rw [Bool.eq_iff_iff]
  simp only [Bool.and_eq_true, Bool.not_eq_true', decide_eq_true_eq, decide_eq_false_iff_not]
  constructor
  · rintro ⟨⟨a, b⟩, c⟩; exact ⟨⟨a, by omega⟩, by omega⟩
  · rintro ⟨⟨a, b⟩, c⟩; exact ⟨⟨a, by omega⟩, by omega⟩
theorem at_same {x : Mv} (hx : x.Good) {q : Int} (h0 : x.fr ≤ q) (h1 : q < x.fr + x.len) : atI x q = atR x (kR x q) := by
  have := hx.fr; have := hx.len; have := hx.frl; have := hx.to; have := hx.tol
  have e : Int.sub q x.fr = q - x.fr := rfl
  have e1 : Int.sub (x.to + x.len) 1 = x.to + x.len - 1 := rfl
  have e2 : Int.sub (x.to + x.len - 1) (q - x.fr) = x.to + x.len - 1 - (q - x.fr) := rfl
  have e3 : Int.add x.to (q - x.fr) = x.to + (q - x.fr) := rfl
  have e4 : Int.add x.to q = x.to + q := rfl
  have e5 : Int.sub (x.to + q) x.fr = x.to + q - x.fr := rfl
  unfold atI atR kR
  rw [hx.till, e1, wrap_small (x := x.to + x.len - 1) (by omega) (by omega), e, wrap_small (x := q - x.fr) (by omega) (by omega), e2, e3, e4, wrap_small (x := x.to + q) (by omega) (by omega), e5]
  have : x.to + (q - x.fr) = x.to + q - x.fr := by omega
  rw [this]
theorem hit_in {x : Mv} (hx : x.Good) {s : List Nat} {q : Int} (h : hitMv s q x = true) : x.line = s ∧ x.fr ≤ q ∧ q < x.fr + x.len := by
  unfold hitMv at h
  rw [hx.end_] at h
  simp only [Bool.and_eq_true, Bool.not_eq_true', decide_eq_true_eq, decide_eq_false_iff_not] at h
  exact ⟨(beqL_iff _ _).1 h.1.1, by omega, h.2⟩
theorem car_same {m : List Mv} (h : mapR m = 0) (s : List Nat) {q : Int} (h0 : 0 ≤ q) (h1 : q ≤ 800000) : carP m s q = carR m s q := by
  unfold carP carR
  rw [← find_same (l := m) (f := hitMv s q) fun x hx => hit_same (map_good h hx) s h0 h1]
  cases hf : m.find? (hitMv s q) with
  | none => rfl
  | some x =>
    have hm := List.mem_of_find?_eq_some hf
    have hh := List.find?_some hf
    have hg := map_good h hm
    obtain ⟨_, a, b⟩ := hit_in hg hh
    simp only [at_same hg a b]
end Go.Sim

/-
The plain law of short forms: pairs of places, their runs, and what the merging of two moves makes.
-/
namespace Go.Sim
open Go
structure Pr where
  a : List Nat
  i : Int
  b : List Nat
  j : Int
def Pr.next (p q : Pr) (s : Int) : Bool := beqL q.a p.a && decide (q.i = p.i + 1) && (beqL q.b p.b && decide (q.j = p.j + s))
def Mv.dst (x : Mv) (k : Int) : Int := if x.turned then x.to + x.len - 1 - k else x.to + k
theorem beqL_rfl (a : List Nat) : beqL a a = true := (beqL_iff a a).2 rfl
end Go.Sim

/-
The plain law of short forms: the order of places; ascending lists; sorted moves.
-/
namespace Go.Sim
open Go
/-! ### The order of strings and of places -/
theorem strLt_irrefl : ∀ a : List Nat, strLt a a = false
  | [] => rfl
  | a :: x => by
    unfold strLt
    rw [strLt_irrefl x, Bool.and_false, Bool.or_false]
    cases h : Nat.blt a a with
    | false => rfl
    | true =>
      rw [Nat.blt_eq] at h
      omega
theorem strLt_cons {a b : Nat} {x y : List Nat} : strLt (a :: x) (b :: y) = true ↔ a < b ∨ (a = b ∧ strLt x y = true) := by
  show (Nat.blt a b || (Nat.beq a b && strLt x y)) = true ↔ _
  simp only [Bool.or_eq_true, Bool.and_eq_true, Nat.blt_eq, Nat.beq_eq]
theorem strLt_trans : ∀ {a b c : List Nat}, strLt a b = true → strLt b c = true → strLt a c = true
  | _, [], _, h, _ => by cases ‹List Nat› <;> simp [strLt] at h
  | _, _ :: _, [], _, h => by simp [strLt] at h
  | [], _ :: _, _ :: _, _, _ => rfl
  | a :: x, b :: y, c :: z, h1, h2 => by
    rw [strLt_cons] at h1 h2 ⊢
    rcases h1 with h1 | ⟨rfl, h1⟩
    · rcases h2 with h2 | ⟨rfl, h2⟩
      · exact .inl (by omega)
      · exact .inl h1
    · rcases h2 with h2 | ⟨rfl, h2⟩
      · exact .inl h2
      · exact .inr ⟨rfl, strLt_trans h1 h2⟩
theorem strLt_tri : ∀ a b : List Nat, strLt a b = true ∨ a = b ∨ strLt b a = true
  | [], [] => .inr (.inl rfl)
  | [], _ :: _ => .inl rfl
  | _ :: _, [] => .inr (.inr rfl)
  | a :: x, b :: y => by
    rw [strLt_cons, strLt_cons]
    rcases Nat.lt_trichotomy a b with h | h | h
    · exact .inl (.inl h)
    · subst h
      rcases strLt_tri x y with h | h | h
      · exact .inl (.inr ⟨rfl, h⟩)
      · subst h; exact .inr (.inl rfl)
      · exact .inr (.inr (.inr ⟨rfl, h⟩))
    · exact .inr (.inr (.inl h))
def plt (a : List Nat) (i : Int) (b : List Nat) (j : Int) : Bool := strLt a b || (beqL a b && decide (i < j))
theorem plt_iff {a b : List Nat} {i j : Int} : plt a i b j = true ↔ strLt a b = true ∨ (a = b ∧ i < j) := by
  unfold plt
  simp only [Bool.or_eq_true, Bool.and_eq_true, decide_eq_true_eq, beqL_iff]
theorem plt_irrefl (a : List Nat) (i : Int) : plt a i a i = false := by
  cases h : plt a i a i with
  | false => rfl
  | true =>
    rw [plt_iff, strLt_irrefl] at h
    rcases h with h | h
    · cases h
    · omega
theorem plt_trans {a b c : List Nat} {i j k : Int} (h1 : plt a i b j = true) (h2 : plt b j c k = true) : plt a i c k = true := by
  rw [plt_iff] at h1 h2 ⊢
  rcases h1 with h1 | ⟨rfl, h1⟩
  · rcases h2 with h2 | ⟨rfl, h2⟩
    · exact .inl (strLt_trans h1 h2)
    · exact .inl h1
  · rcases h2 with h2 | ⟨rfl, h2⟩
    · exact .inl h2
    · exact .inr ⟨rfl, by omega⟩
def Pr.lt (p q : Pr) : Prop := plt p.a p.i q.a q.i = true
theorem Pr.lt_irrefl (p : Pr) : ¬ p.lt p := by unfold Pr.lt; rw [plt_irrefl]; simp
theorem Pr.lt_trans {p q r : Pr} (h1 : p.lt q) (h2 : q.lt r) : p.lt r := plt_trans h1 h2
def Mv.ahead (x y : Mv) : Prop := strLt x.line y.line = true ∨ (x.line = y.line ∧ x.fr + x.len ≤ y.fr)
def Mv.apart (x y : Mv) : Prop := x.line ≠ y.line ∨ x.fr + x.len ≤ y.fr ∨ y.fr + y.len ≤ x.fr
end Go.Sim

/-
Histories: data; the program's CheckHistory, On; moves that carry back.
-/
-- INJ Sv.row_iff svs_iff
namespace Go.Sim
open Go Go.Proofs
set_option maxRecDepth 100000
set_option maxHeartbeats 8000000
structure Sv where
  day : Int
  net : Net
  map : List Mv
def Sv.row (s : Sv) : List AV := i64 s.day :: (s.net.cells ++ [.ps .unk (s.map.map Mv.row)])
theorem Sv.row_inj (a b : Sv) (h : a.row = b.row) : a = b := by
  obtain ⟨d, n, m⟩ := a
  obtain ⟨d', n', m'⟩ := b
  unfold Sv.row Net.cells at h
  simp only [List.cons_append, List.nil_append, List.cons.injEq, AV.int.injEq, AV.ps.injEq, true_and, and_true] at h
  obtain ⟨rfl, h1, h2, h3, h4⟩ := h
  have hn : n = n' := Net.cells_inj n n' (by unfold Net.cells; rw [h1, h2, h3])
  rw [hn, map_inj Mv.row_inj h4]
theorem Sv.row_iff (a b : Sv) : a.row = b.row ↔ a = b := ⟨Sv.row_inj a b, fun h => by rw [h]⟩
theorem svs_iff (a b : List Sv) : a.map Sv.row = b.map Sv.row ↔ a = b := ⟨fun h => map_inj Sv.row_inj h, fun h => by rw [h]⟩
theorem Sv.row_len (s : Sv) : s.row.length = 5 := rfl
structure HistOk (h : List Sv) : Prop where
  few : h.length ≤ maxRows
  net : ∀ s ∈ h, s.net.Ok
  map : ∀ s ∈ h, MapOk s.map
def lastD (h : List Sv) : Nat → Int
  | 0 => -1
  | k + 1 => match h[k]? with
    | some s => s.day
    | none => -1
def prevN (h : List Sv) : Nat → Net
  | 0 => ⟨[], [], []⟩
  | k + 1 => match h[k]? with
    | some s => s.net
    | none => ⟨[], [], []⟩
def survP (h : List Sv) (i : Nat) : Int := match h[i]? with
  | none => 0
  | some s =>
    let e := firstI [rangeI s.day 0 100000, whenI (!decide (lastD h i < s.day)) 11, netP s.net, mapP s.map]
    if e = 0 then (if decide ((i : Int) = 0) && decide ((0 : Int) < s.map.length) then 21 else if 0 < i then fitsP (prevN h i) s.net s.map else 0) else e
def histE (h : List Sv) : Int := firstI [whenI (decide ((h.length : Int) = 0)) 12, whenI (decide ((6 : Int) < h.length)) 5]
def histP (h : List Sv) : Int := if histE h = 0 then allR (survP h) h.length else histE h
noncomputable def PPF69 : FuncId → Option (List AV → Option AV) := addPrim 111 p111 (addPrim 50 p50 (addPrim 49 p49 (addPrim 29 p29 (addPrim 121 p121 (addPrim 115 p115 (fun _ => none))))))
theorem primsF69 : PrimsOk NC PPF69 := primsOk_add (primsOk_add (primsOk_add (primsOk_add (primsOk_add (primsOk_add (primsOk_none) (by kernel_rfl) (by kernel_rfl) pok115) (by kernel_rfl) (by kernel_rfl) pok121) (by kernel_rfl) (by kernel_rfl) pok29) (by kernel_rfl) (by kernel_rfl) pok49) (by kernel_rfl) (by kernel_rfl) pok50) (by kernel_rfl) (by kernel_rfl) pok111
theorem enF69_115 : En PPF69 115 p115 := enter_prim (by rfl) (by kernel_rfl)
theorem enF69_121 : En PPF69 121 p121 := enter_prim (by rfl) (by kernel_rfl)
theorem enF69_29 : En PPF69 29 p29 := enter_prim (by rfl) (by kernel_rfl)
theorem enF69_49 : En PPF69 49 p49 := enter_prim (by rfl) (by kernel_rfl)
theorem enF69_50 : En PPF69 50 p50 := enter_prim (by rfl) (by kernel_rfl)
theorem enF69_111 : En PPF69 111 p111 := enter_prim (by rfl) (by kernel_rfl)
attribute [go_sem ↓] enF69_115 enF69_121 enF69_29 enF69_49 enF69_50 enF69_111
theorem c69 (h : List Sv) (hp : HistOk h) : ∀ lo H, CallOk NC lo 69 [.ps .unk (h.map Sv.row)] H (i64 (histP h)) H := by
  refine contract saneNC primsF69 (fn := Tryz.f69) (by kernel_rfl) Tryz.func69 rfl rfl (by rfl) (by first | rfl | (split <;> first | rfl | (split <;> rfl))) ?_
  have hl := hp.few
  generalize hE0 : histE h = E0
  have hE0' := hE0
  unfold histE at hE0'
  rcases Classical.propComplete (E0 = 0) with z0 | z0
  case inr =>
    simp only [go_sem, reduceIte, Nat.reduceEqDiff, Nat.reduceAdd, Nat.reduceMul, Nat.reduceSub, Nat.reduceLeDiff, Nat.reduceLT, Nat.reduceBEq, reduceCtorEq, List.length_map, e121, e111_2, hE0', z0]
    simp [histP, hE0, z0]
  simp only [go_sem, reduceIte, Nat.reduceEqDiff, Nat.reduceAdd, Nat.reduceMul, Nat.reduceSub, Nat.reduceLeDiff, Nat.reduceLT, Nat.reduceBEq, reduceCtorEq, List.length_map, e121, e111_2, hE0', z0]
  refine W_for (fun k T H M => M = [] ∧ getT T 0 = .ps .unk (h.map Sv.row) ∧ getT T 22 = .ps .unk (h.map Sv.row) ∧ getT T 23 = i64 (h.length : Nat) ∧ getT T 24 = i64 k ∧ getT T 4 = i64 (lastD h k) ∧ allR (survP h) h.length = firstI (((List.range h.length).map (survP h)).drop k)) h.length ?_ ?_ ?_
  · simp only [go_sem, reduceIte, Nat.reduceEqDiff, Nat.reduceAdd, Nat.reduceMul, Nat.reduceSub, Nat.reduceLeDiff, Nat.reduceLT, Nat.reduceBEq, reduceCtorEq, List.length_map]; exact ⟨rfl, rfl⟩
  · rintro k T H M hk ⟨rfl, g0, g22, g23, g24, g4, hf⟩
    obtain ⟨s, hs⟩ : ∃ p, h[k]? = some p := ⟨h[k], by simp⟩
    have hr := map_at (f := Sv.row) hs
    have hw := wrap_succ hk hl
    have hmem := List.mem_of_getElem? hs
    have hfd := allR_step (f := survP h) hk
    have hsucc : lastD h (k + 1) = s.day := by unfold lastD; simp only [hs]
    have en := pe29 s.net (hp.net s hmem)
    have em := pe49 s.map (hp.map s hmem)
    generalize hE : firstI [rangeI s.day 0 100000, whenI (!decide (lastD h k < s.day)) 11, netP s.net, mapP s.map] = E
    have hms : survP h k = if E = 0 then (if decide ((k : Int) = 0) && decide ((0 : Int) < s.map.length) then 21 else if 0 < k then fitsP (prevN h k) s.net s.map else 0) else E := by
      unfold survP; simp only [hs, hE]
    have hwp : 0 < k → wrapq .i64 (Int.sub (k : Int) 1) = ((k - 1 : Nat) : Int) := fun h => wrap_pred h (Nat.le_of_lt hk) hl
    obtain ⟨l, hl1⟩ : ∃ p, h[k - 1]? = some p := ⟨h[k - 1]'(by omega), by simp⟩
    have hr1 := map_at (f := Sv.row) hl1
    have hk1 : (k - 1 < h.length) = True := by simp; omega
    have hpos : ((0 : Int) < (k : Int)) = (0 < k) := by simp
    have hz : ((k : Int) = 0) = (k = 0) := by simp
    have ef := pe50 s.map l.net s.net ⟨hp.map s hmem, hp.net l (List.mem_of_getElem? hl1), hp.net s hmem⟩
    have hprev : 0 < k → prevN h k = l.net := fun h0 => by
      obtain ⟨j, rfl⟩ : ∃ j, k = j + 1 := ⟨k - 1, by omega⟩
      simp only [Nat.add_sub_cancel] at hl1
      unfold prevN; simp only [hl1]
    generalize hF : fitsP l.net s.net s.map = F at ef
    obtain ⟨d, ⟨a, b, c⟩, m⟩ := s
    obtain ⟨d', ⟨a', b', c'⟩, m'⟩ := l
    simp only [Sv.row, Net.cells, List.cons_append, List.nil_append, i64] at hr hr1 en em ef
    simp only at hE hms hsucc
    rcases Classical.propComplete (E = 0) with z | z
    case inr =>
      simp only [go_sem, reduceIte, Nat.reduceEqDiff, Nat.reduceAdd, Nat.reduceMul, Nat.reduceSub, Nat.reduceLeDiff, Nat.reduceLT, Nat.reduceBEq, reduceCtorEq, g0, g22, g23, g24, g4, List.length_map, hk, hr, e115, e121, en, em, e111_4, hE, z]
      simp [histP, hE0, z0, hf, hfd, hms, z]
    by_cases hk0 : k = 0
    · have hk0' : (0 < k) = False := by simp; omega
      have hk0'' : (k = 0) = True := by simp [hk0]
      rcases Classical.propComplete ((0 : Int) < m.length) with z1 | z1
      · have h4 : survP h k = 21 := by rw [hms]; simp only [z, hz, hk0'', z1, if_true, decide_true, Bool.and_self]
        simp only [go_sem, reduceIte, Nat.reduceEqDiff, Nat.reduceAdd, Nat.reduceMul, Nat.reduceSub, Nat.reduceLeDiff, Nat.reduceLT, Nat.reduceBEq, reduceCtorEq, g0, g22, g23, g24, g4, List.length_map, hk, hr, hw, e115, e121, en, em, e111_4, hE, z, z1, hz, hk0'']
        simp [histP, hE0, z0, hf, hfd, h4]
      · have h4 : survP h k = 0 := by rw [hms]; simp only [z, hz, hk0', hk0'', z1, if_true, if_false, decide_true, decide_false, Bool.and_false, Bool.false_eq_true]
        simp only [go_sem, reduceIte, Nat.reduceEqDiff, Nat.reduceAdd, Nat.reduceMul, Nat.reduceSub, Nat.reduceLeDiff, Nat.reduceLT, Nat.reduceBEq, reduceCtorEq, g0, g22, g23, g24, g4, List.length_map, hk, hr, hw, e115, e121, en, em, e111_4, hE, z, z1, hz, hpos, hk0', hk0'']
        exact ⟨by rw [hsucc], by rw [hf, hfd, h4, if_pos rfl]⟩
    · have hk0' : (0 < k) = True := by simp; omega
      have hk0'' : (k = 0) = False := by simp [hk0]
      have hwp' := hwp (by omega)
      have hpv := hprev (by omega)
      rcases Classical.propComplete (F = 0) with z1 | z1
      · simp only [go_sem, reduceIte, Nat.reduceEqDiff, Nat.reduceAdd, Nat.reduceMul, Nat.reduceSub, Nat.reduceLeDiff, Nat.reduceLT, Nat.reduceBEq, reduceCtorEq, g0, g22, g23, g24, g4, List.length_map, hk, hr, hw, e115, e121, en, em, e111_4, hE, z, hz, hpos, hk0', hk0'', hwp', hk1, hr1, ef, z1]
        refine ⟨by rw [hsucc], ?_⟩
        rw [hf, hfd, hms, hpv]; simp [z, hF, z1, hk0]
      · simp only [go_sem, reduceIte, Nat.reduceEqDiff, Nat.reduceAdd, Nat.reduceMul, Nat.reduceSub, Nat.reduceLeDiff, Nat.reduceLT, Nat.reduceBEq, reduceCtorEq, g0, g22, g23, g24, g4, List.length_map, hk, hr, hw, e115, e121, en, em, e111_4, hE, z, hz, hpos, hk0', hk0'', hwp', hk1, hr1, ef, z1]
        simp [histP, hE0, z0, hf, hfd, hms, z, hz, hk0, hpv, hF, z1]
  · rintro T H M ⟨rfl, g0, g22, g23, g24, g4, hf⟩
    rw [allR_end] at hf
    simp only [go_sem, reduceIte, Nat.reduceEqDiff, Nat.reduceAdd, Nat.reduceMul, Nat.reduceSub, Nat.reduceLeDiff, Nat.reduceLT, Nat.reduceBEq, reduceCtorEq, g0, g22, g23, g24, g4, Nat.lt_irrefl]
    simp [histP, hE0, z0, hf]
noncomputable def p69 : List AV → Option AV := primOf (α := (List Sv)) (fun x => [.ps .unk (x.map Sv.row)]) (fun x => HistOk x) (fun x => i64 (histP x))
theorem pok69 : ∀ args v, p69 args = some v → ∀ lo H, CallOk NC lo 69 args H v H := by
  intro args v h
  obtain ⟨x, rfl, hp, rfl⟩ := primOf_inv h
  exact c69 x hp
theorem pe69 (h : List Sv) (hp : HistOk h) : p69 [.ps .unk (h.map Sv.row)] = some (.int .i64 (histP h)) := primOf_enc (α := (List Sv)) (enc := fun x => [.ps .unk (x.map Sv.row)]) (pre := fun x => HistOk x) (spec := fun x => i64 (histP x)) (by intro x y h; (simp only [List.cons.injEq, AV.agg.injEq, AV.str.injEq, AV.int.injEq, AV.ps.injEq, AV.bool.injEq, Net.cells_iff, Ln.row_iff, Pc.row_iff, Mv.row_iff, lns_iff, pcs_iff, mvs_iff, Sv.row_iff, svs_iff, true_and, and_true] at h; first | simpa only [Prod.ext_iff] using h | simpa only [Prod.ext_iff, and_assoc] using h)) h hp
def onK (h : List Sv) (d : Int) : Nat → Int
  | 0 => -1
  | k + 1 => match h[k]? with
    | some s => if d < s.day then onK h d k else k
    | none => onK h d k
def onQ (h : List Sv) (d : Int) : Int × Int :=
  if rangeI d 0 100000 = 0 then (maxI 0 (onK h d h.length), whenI (decide (onK h d h.length < 0)) 7) else (0, rangeI d 0 100000)
noncomputable def PPF140 : FuncId → Option (List AV → Option AV) := addPrim 121 p121 (addPrim 115 p115 (fun _ => none))
theorem primsF140 : PrimsOk NC PPF140 := primsOk_add (primsOk_add (primsOk_none) (by kernel_rfl) (by kernel_rfl) pok115) (by kernel_rfl) (by kernel_rfl) pok121
theorem enF140_115 : En PPF140 115 p115 := enter_prim (by rfl) (by kernel_rfl)
theorem enF140_121 : En PPF140 121 p121 := enter_prim (by rfl) (by kernel_rfl)
attribute [go_sem ↓] enF140_115 enF140_121
theorem c140 (h : List Sv) (d : Int) (hp : h.length ≤ maxRows) : ∀ lo H, CallOk NC lo 140 [.ps .unk (h.map Sv.row), i64 d] H (.tup [i64 (onQ h d).1, i64 (onQ h d).2]) H := by
  refine contract saneNC primsF140 (fn := Tryz.f140) (by kernel_rfl) Tryz.func140 rfl rfl (by rfl) (by first | rfl | (split <;> first | rfl | (split <;> rfl))) ?_
  have hl := hp
  generalize hE : rangeI d 0 100000 = E
  rcases Classical.propComplete (E = 0) with z | z
  case inr =>
    simp only [go_sem, reduceIte, Nat.reduceEqDiff, Nat.reduceAdd, Nat.reduceMul, Nat.reduceSub, Nat.reduceLeDiff, Nat.reduceLT, Nat.reduceBEq, reduceCtorEq, e115, hE, z]
    simp [onQ, hE, z]
  simp only [go_sem, reduceIte, Nat.reduceEqDiff, Nat.reduceAdd, Nat.reduceMul, Nat.reduceSub, Nat.reduceLeDiff, Nat.reduceLT, Nat.reduceBEq, reduceCtorEq, e115, hE, z]
  refine W_for (fun k T H M => M = [] ∧ getT T 1 = i64 d ∧ getT T 15 = .ps .unk (h.map Sv.row) ∧ getT T 16 = i64 (h.length : Nat) ∧ getT T 17 = i64 k ∧ getT T 7 = i64 (onK h d k)) h.length ?_ ?_ ?_
  · simp only [go_sem, reduceIte, Nat.reduceEqDiff, Nat.reduceAdd, Nat.reduceMul, Nat.reduceSub, Nat.reduceLeDiff, Nat.reduceLT, Nat.reduceBEq, reduceCtorEq, List.length_map]; rfl
  · rintro k T H M hk ⟨rfl, g1, g15, g16, g17, g7⟩
    obtain ⟨s, hs⟩ : ∃ p, h[k]? = some p := ⟨h[k], by simp⟩
    have hr := map_at (f := Sv.row) hs
    have hw := wrap_succ hk hl
    have hon : onK h d (k + 1) = if d < s.day then onK h d k else k := by
      show (match h[k]? with | some s => if d < s.day then onK h d k else (k : Int) | none => onK h d k) = _
      rw [hs]
    obtain ⟨dd, ⟨a, b, c⟩, m⟩ := s
    simp only [Sv.row, Net.cells, List.cons_append, List.nil_append, i64] at hr
    simp only at hon
    rcases Classical.propComplete (d < dd) with z1 | z1 <;> simp only [go_sem, reduceIte, Nat.reduceEqDiff, Nat.reduceAdd, Nat.reduceMul, Nat.reduceSub, Nat.reduceLeDiff, Nat.reduceLT, Nat.reduceBEq, reduceCtorEq, g1, g15, g16, g17, g7, List.length_map, hk, hr, hw, z1] <;> rw [hon] <;> simp [z1]
  · rintro T H M ⟨rfl, g1, g15, g16, g17, g7⟩
    simp only [go_sem, reduceIte, Nat.reduceEqDiff, Nat.reduceAdd, Nat.reduceMul, Nat.reduceSub, Nat.reduceLeDiff, Nat.reduceLT, Nat.reduceBEq, reduceCtorEq, g1, g15, g16, g17, g7, Nat.lt_irrefl, e121]
    simp [onQ, hE, z]
noncomputable def p140 : List AV → Option AV := primOf (α := (List Sv) × (Int)) (fun x => [.ps .unk (x.1.map Sv.row), i64 x.2]) (fun x => x.1.length ≤ maxRows) (fun x => .tup [i64 (onQ x.1 x.2).1, i64 (onQ x.1 x.2).2])
theorem pok140 : ∀ args v, p140 args = some v → ∀ lo H, CallOk NC lo 140 args H v H := by
  intro args v h
  obtain ⟨x, rfl, hp, rfl⟩ := primOf_inv h
  exact c140 x.1 x.2 hp
theorem pe140 (h : List Sv) (d : Int) (hp : h.length ≤ maxRows) : p140 [.ps .unk (h.map Sv.row), .int .i64 d] = some (.tup [.int .i64 (onQ h d).1, .int .i64 (onQ h d).2]) := primOf_enc (α := (List Sv) × (Int)) (enc := fun x => [.ps .unk (x.1.map Sv.row), i64 x.2]) (pre := fun x => x.1.length ≤ maxRows) (spec := fun x => .tup [i64 (onQ x.1 x.2).1, i64 (onQ x.1 x.2).2]) (by intro x y h; (simp only [List.cons.injEq, AV.agg.injEq, AV.str.injEq, AV.int.injEq, AV.ps.injEq, AV.bool.injEq, Net.cells_iff, Ln.row_iff, Pc.row_iff, Mv.row_iff, lns_iff, pcs_iff, mvs_iff, Sv.row_iff, svs_iff, true_and, and_true] at h; first | simpa only [Prod.ext_iff] using h | simpa only [Prod.ext_iff, and_assoc] using h)) (h, d) hp
theorem onK_in (h : List Sv) (d : Int) : ∀ n, n ≤ h.length → onK h d n < 0 ∨ ∃ k : Nat, onK h d n = k ∧ k < n
  | 0, _ => .inl (by show (-1 : Int) < 0; decide)
  | n + 1, hn => by
    have ih := onK_in h d n (by omega)
    unfold onK
    obtain ⟨s, hs⟩ : ∃ p, h[n]? = some p := ⟨h[n], by simp⟩
    simp only [hs]
    split
    · rcases ih with ih | ⟨k, h1, h2⟩
      · exact .inl ih
      · exact .inr ⟨k, h1, by omega⟩
    · exact .inr ⟨n, rfl, by omega⟩
theorem onQ_good {h : List Sv} {d : Int} (h0 : (onQ h d).2 = 0) : ∃ (k : Nat) (s : Sv), (onQ h d).1 = k ∧ k < h.length ∧ h[k]? = some s := by
  unfold onQ at h0 ⊢
  split at h0
  · rename_i hz
    simp only [hz, if_true]
    rcases onK_in h d h.length (Nat.le_refl _) with h1 | ⟨k, h1, h2⟩
    · simp [h1, whenI] at h0
    · refine ⟨k, h[k], ?_, h2, by simp⟩
      show maxI 0 _ = _
      rw [h1]; unfold maxI; split <;> omega
  · rename_i hz; exact absurd h0 hz
def onFP (h : List Sv) (d : Int) : Int × Int := if histP h = 0 then onQ h d else (0, histP h)
noncomputable def PPF63 : FuncId → Option (List AV → Option AV) := addPrim 140 p140 (addPrim 69 p69 (fun _ => none))
theorem primsF63 : PrimsOk NC PPF63 := primsOk_add (primsOk_add (primsOk_none) (by kernel_rfl) (by kernel_rfl) pok69) (by kernel_rfl) (by kernel_rfl) pok140
theorem enF63_69 : En PPF63 69 p69 := enter_prim (by rfl) (by kernel_rfl)
theorem enF63_140 : En PPF63 140 p140 := enter_prim (by rfl) (by kernel_rfl)
attribute [go_sem ↓] enF63_69 enF63_140
theorem c63 (h : List Sv) (d : Int) (hp : HistOk h) : ∀ lo H, CallOk NC lo 63 [.ps .unk (h.map Sv.row), i64 d] H (.tup [i64 (onFP h d).1, i64 (onFP h d).2]) H := by
  refine contract saneNC primsF63 (fn := Tryz.f63) (by kernel_rfl) Tryz.func63 rfl rfl (by rfl) (by first | rfl | (split <;> first | rfl | (split <;> rfl))) ?_
  have e1 := pe69 h hp
  have e2 := pe140 h d hp.few
  unfold onFP
  generalize histP h = E at e1 ⊢
  rcases Classical.propComplete (E = 0) with z | z <;> simp only [go_sem, reduceIte, Nat.reduceEqDiff, Nat.reduceAdd, Nat.reduceMul, Nat.reduceSub, Nat.reduceLeDiff, Nat.reduceLT, Nat.reduceBEq, reduceCtorEq, e1, e2, z]
noncomputable def p63 : List AV → Option AV := primOf (α := (List Sv) × (Int)) (fun x => [.ps .unk (x.1.map Sv.row), i64 x.2]) (fun x => HistOk x.1) (fun x => .tup [i64 (onFP x.1 x.2).1, i64 (onFP x.1 x.2).2])
theorem pok63 : ∀ args v, p63 args = some v → ∀ lo H, CallOk NC lo 63 args H v H := by
  intro args v h
  obtain ⟨x, rfl, hp, rfl⟩ := primOf_inv h
  exact c63 x.1 x.2 hp
theorem pe63 (h : List Sv) (d : Int) (hp : HistOk h) : p63 [.ps .unk (h.map Sv.row), .int .i64 d] = some (.tup [.int .i64 (onFP h d).1, .int .i64 (onFP h d).2]) := primOf_enc (α := (List Sv) × (Int)) (enc := fun x => [.ps .unk (x.1.map Sv.row), i64 x.2]) (pre := fun x => HistOk x.1) (spec := fun x => .tup [i64 (onFP x.1 x.2).1, i64 (onFP x.1 x.2).2]) (by intro x y h; (simp only [List.cons.injEq, AV.agg.injEq, AV.str.injEq, AV.int.injEq, AV.ps.injEq, AV.bool.injEq, Net.cells_iff, Ln.row_iff, Pc.row_iff, Mv.row_iff, lns_iff, pcs_iff, mvs_iff, Sv.row_iff, svs_iff, true_and, and_true] at h; first | simpa only [Prod.ext_iff] using h | simpa only [Prod.ext_iff, and_assoc] using h)) (h, d) hp
/-! ### Moves that carry back -/
def undoMv (x : Mv) : Mv := ⟨x.other, x.to, x.len, x.line, x.fr, x.turned⟩
noncomputable def PPF200 : FuncId → Option (List AV → Option AV) := fun _ => none
theorem primsF200 : PrimsOk NC PPF200 := primsOk_none
theorem c200 (x : Mv) : ∀ lo H, CallOk NC lo 200 [.agg x.row] H (.agg (undoMv x).row) H := by
  refine contract saneNC primsF200 (fn := Tryz.f200) (by kernel_rfl) Tryz.func200 rfl rfl (by rfl) (by first | rfl | (split <;> first | rfl | (split <;> rfl))) ?_
  obtain ⟨a, b, c, d, e, f⟩ := x
  simp only [go_sem, reduceIte, Nat.reduceEqDiff, Nat.reduceAdd, Nat.reduceMul, Nat.reduceSub, Nat.reduceLeDiff, Nat.reduceLT, Nat.reduceBEq, reduceCtorEq, Mv.row, undoMv]
noncomputable def p200 : List AV → Option AV := primOf (α := (Mv)) (fun x => [.agg x.row]) (fun x => True) (fun x => .agg (undoMv x).row)
theorem pok200 : ∀ args v, p200 args = some v → ∀ lo H, CallOk NC lo 200 args H v H := by
  intro args v h
  obtain ⟨x, rfl, hp, rfl⟩ := primOf_inv h
  exact c200 x
theorem pe200 (x : Mv) : p200 [.agg x.row] = some (.agg (undoMv x).row) := primOf_enc (α := (Mv)) (enc := fun x => [.agg x.row]) (pre := fun x => True) (spec := fun x => .agg (undoMv x).row) (by intro x y h; (simp only [List.cons.injEq, AV.agg.injEq, AV.str.injEq, AV.int.injEq, AV.ps.injEq, AV.bool.injEq, Net.cells_iff, Ln.row_iff, Pc.row_iff, Mv.row_iff, lns_iff, pcs_iff, mvs_iff, Sv.row_iff, svs_iff, true_and, and_true] at h; first | simpa only [Prod.ext_iff] using h | simpa only [Prod.ext_iff, and_assoc] using h)) x trivial
noncomputable def PPF199 : FuncId → Option (List AV → Option AV) := addPrim 200 p200 (fun _ => none)
theorem primsF199 : PrimsOk NC PPF199 := primsOk_add (primsOk_none) (by kernel_rfl) (by kernel_rfl) pok200
theorem enF199_200 : En PPF199 200 p200 := enter_prim (by rfl) (by kernel_rfl)
attribute [go_sem ↓] enF199_200
theorem c199 (m : List Mv) (hp : m.length ≤ maxRows) : ∀ lo H, CallOk NC lo 199 [.ps .unk (m.map Mv.row), .fn 200 [] []] H (.ps .unk ((m.map undoMv).map Mv.row)) H := by
  refine contract saneNC primsF199 (fn := Tryz.f199) (by kernel_rfl) Tryz.func199 rfl rfl (by rfl) (by first | rfl | (split <;> first | rfl | (split <;> rfl))) ?_
  have hl := hp
  simp only [go_sem, reduceIte, Nat.reduceEqDiff, Nat.reduceAdd, Nat.reduceMul, Nat.reduceSub, Nat.reduceLeDiff, Nat.reduceLT, Nat.reduceBEq, reduceCtorEq]
  refine W_for (fun k T H M => M = [] ∧ getT T 1 = .fn 200 [] [] ∧ getT T 8 = .ps .unk (m.map Mv.row) ∧ getT T 9 = i64 (m.length : Nat) ∧ getT T 10 = i64 k ∧ ∃ t, getT T 5 = .ps t (((m.take k).map undoMv).map Mv.row) ∧ App H t (((m.take k).map undoMv).map Mv.row) 6 130) m.length ?_ ?_ ?_
  · simp only [go_sem, reduceIte, Nat.reduceEqDiff, Nat.reduceAdd, Nat.reduceMul, Nat.reduceSub, Nat.reduceLeDiff, Nat.reduceLT, Nat.reduceBEq, reduceCtorEq, List.length_map]; exact ⟨.nil, by simp, .inl ⟨rfl, rfl⟩⟩
  · rintro k T H M hk ⟨rfl, g1, g8, g9, g10, t, g5, hA⟩
    obtain ⟨x, hx⟩ : ∃ p, m[k]? = some p := ⟨m[k], by simp⟩
    have hr := map_at (f := Mv.row) hx
    have hw := wrap_succ hk hl
    have htk : ((m.take (k + 1)).map undoMv).map Mv.row = ((m.take k).map undoMv).map Mv.row ++ [(undoMv x).row] := by rw [take_map hx, List.map_append]; rfl
    have e200 := pe200 x
    obtain ⟨t', H1, ha, hB, hn1, hc1, _⟩ := app_any (H := (H.push (.cells [.str [], .int .i64 0, .int .i64 0, .str [], .int .i64 0, .bool false] 130)).set H.n (.cells x.row 130)) (hA.fresh _ _ rfl) (r := (undoMv x).row) (by simp; omega) rfl (by decide) (by simpa using rows_all Mv.row_len ((m.take k).map undoMv))
    obtain ⟨a, b, c, d, e, f⟩ := x
    simp only [Mv.row, undoMv] at hr ha e200
    simp only [go_sem, reduceIte, Nat.reduceEqDiff, Nat.reduceAdd, Nat.reduceMul, Nat.reduceSub, Nat.reduceLeDiff, Nat.reduceLT, Nat.reduceBEq, reduceCtorEq, g1, g8, g9, g10, g5, List.length_map, hk, hr, hw, e200, appO, ha]
    rw [htk]
    exact ⟨t', rfl, hB⟩
  · rintro T H M ⟨rfl, g1, g8, g9, g10, t, g5, hA⟩
    simp only [go_sem, reduceIte, Nat.reduceEqDiff, Nat.reduceAdd, Nat.reduceMul, Nat.reduceSub, Nat.reduceLeDiff, Nat.reduceLT, Nat.reduceBEq, reduceCtorEq, g1, g8, g9, g10, g5, List.take_length, Nat.lt_irrefl]
noncomputable def p199 : List AV → Option AV := primOf (α := (List Mv)) (fun x => [.ps .unk (x.map Mv.row), .fn 200 [] []]) (fun x => x.length ≤ maxRows) (fun x => .ps .unk ((x.map undoMv).map Mv.row))
theorem pok199 : ∀ args v, p199 args = some v → ∀ lo H, CallOk NC lo 199 args H v H := by
  intro args v h
  obtain ⟨x, rfl, hp, rfl⟩ := primOf_inv h
  exact c199 x hp
theorem pe199 (m : List Mv) (hp : m.length ≤ maxRows) : p199 [.ps .unk (m.map Mv.row), .fn 200 [] []] = some (.ps .unk ((m.map undoMv).map Mv.row)) := primOf_enc (α := (List Mv)) (enc := fun x => [.ps .unk (x.map Mv.row), .fn 200 [] []]) (pre := fun x => x.length ≤ maxRows) (spec := fun x => .ps .unk ((x.map undoMv).map Mv.row)) (by intro x y h; (simp only [List.cons.injEq, AV.agg.injEq, AV.str.injEq, AV.int.injEq, AV.ps.injEq, AV.bool.injEq, Net.cells_iff, Ln.row_iff, Pc.row_iff, Mv.row_iff, lns_iff, pcs_iff, mvs_iff, Sv.row_iff, svs_iff, true_and, and_true] at h; first | simpa only [Prod.ext_iff] using h | simpa only [Prod.ext_iff, and_assoc] using h)) m hp
noncomputable def PPF136 : FuncId → Option (List AV → Option AV) := addPrim 199 p199 (fun _ => none)
theorem primsF136 : PrimsOk NC PPF136 := primsOk_add (primsOk_none) (by kernel_rfl) (by kernel_rfl) pok199
theorem enF136_199 : En PPF136 199 p199 := enter_prim (by rfl) (by kernel_rfl)
attribute [go_sem ↓] enF136_199
theorem c136 (m : List Mv) (hp : m.length ≤ maxRows) : ∀ lo H, CallOk NC lo 136 [.ps .unk (m.map Mv.row)] H (.ps .unk ((m.map undoMv).map Mv.row)) H := by
  refine contract saneNC primsF136 (fn := Tryz.f136) (by kernel_rfl) Tryz.func136 rfl rfl (by rfl) (by first | rfl | (split <;> first | rfl | (split <;> rfl))) ?_
  have e := pe199 m hp
  simp only [go_sem, reduceIte, Nat.reduceEqDiff, Nat.reduceAdd, Nat.reduceMul, Nat.reduceSub, Nat.reduceLeDiff, Nat.reduceLT, Nat.reduceBEq, reduceCtorEq, e]
noncomputable def p136 : List AV → Option AV := primOf (α := (List Mv)) (fun x => [.ps .unk (x.map Mv.row)]) (fun x => x.length ≤ maxRows) (fun x => .ps .unk ((x.map undoMv).map Mv.row))
theorem pok136 : ∀ args v, p136 args = some v → ∀ lo H, CallOk NC lo 136 args H v H := by
  intro args v h
  obtain ⟨x, rfl, hp, rfl⟩ := primOf_inv h
  exact c136 x hp
theorem pe136 (m : List Mv) (hp : m.length ≤ maxRows) : p136 [.ps .unk (m.map Mv.row)] = some (.ps .unk ((m.map undoMv).map Mv.row)) := primOf_enc (α := (List Mv)) (enc := fun x => [.ps .unk (x.map Mv.row)]) (pre := fun x => x.length ≤ maxRows) (spec := fun x => .ps .unk ((x.map undoMv).map Mv.row)) (by intro x y h; (simp only [List.cons.injEq, AV.agg.injEq, AV.str.injEq, AV.int.injEq, AV.ps.injEq, AV.bool.injEq, Net.cells_iff, Ln.row_iff, Pc.row_iff, Mv.row_iff, lns_iff, pcs_iff, mvs_iff, Sv.row_iff, svs_iff, true_and, and_true] at h; first | simpa only [Prod.ext_iff] using h | simpa only [Prod.ext_iff, and_assoc] using h)) m hp
end Go.Sim

/-
Histories: the program's Since.
-/
-- INJ Sv.row_iff svs_iff
namespace Go.Sim
open Go Go.Proofs
set_option maxRecDepth 100000
set_option maxHeartbeats 8000000
section
variable {C : Cfg} {lo : Nat} {fid : FuncId} {rnd : Bool} (T : TT AV) (H : Heap) (M : List Nat) (Q : AExit → TT AV → Heap → List Nat → Prop)
def unscope (Q : AExit → TT AV → Heap → List Nat → Prop) (e : AExit) (T : TT AV) (H : Heap) (M : List Nat) (_t : Tag Q := ⟨⟩) : Prop := match e with
  | .gto _ => False
  | e => Q e T H M
theorem unscope_nrm : unscope Q .nrm T H M = Q .nrm T H M := rfl
theorem unscope_ret : unscope Q .ret T H M = Q .ret T H M := rfl
theorem unscope_ext (i : Nat) : unscope Q (.ext i) T H M = Q (.ext i) T H M := rfl
theorem W_scope (b : Code) : W C lo fid rnd (.scope b) T H M Q = W C lo fid rnd b T H M (fun e T H M => unscope Q e T H M) := by
  unfold W
  rw [R_scope]
  cases h : R C (.code lo fid rnd b ⟨T, H, M⟩) with
  | none => rfl
  | some o => obtain ⟨e, ⟨T', H', M'⟩⟩ := o; cases e <;> rfl
end
attribute [go_sem ↓] W_scope W_label unscope_nrm unscope_ret unscope_ext
abbrev Pl : Type := List Nat × Int
def carO (m : List Mv) (p : Pl) : Option Pl := (m.find? (hitMv p.1 p.2)).map fun x => (x.other, atI x p.2)
theorem carP_none {m : List Mv} {p : Pl} (h : carO m p = none) : carP m p.1 p.2 = [noPlace, .bool false] := by
  unfold carO at h; unfold carP
  cases hf : m.find? (hitMv p.1 p.2) with
  | none => rfl
  | some x => rw [hf] at h; cases h
theorem carP_some {m : List Mv} {p q : Pl} (h : carO m p = some q) : carP m p.1 p.2 = [.agg [.str q.1, i64 q.2], .bool true] := by
  unfold carO at h; unfold carP
  cases hf : m.find? (hitMv p.1 p.2) with
  | none => rw [hf] at h; cases h
  | some x => rw [hf] at h; simp only [Option.map_some, Option.some.injEq] at h; subst h; rfl
def mapAt (h : List Sv) (k : Nat) : List Mv := match h[k]? with
  | some s => s.map
  | none => []
def netAt (h : List Sv) (k : Nat) : Net := match h[k]? with
  | some s => s.net
  | none => ⟨[], [], []⟩
def goUp (h : List Sv) : Nat → Nat → Pl → Option Pl
  | 0, _, p => some p
  | n + 1, a, p => match carO (mapAt h (a + 1)) p with
    | none => none
    | some q => goUp h n (a + 1) q
def goDown (h : List Sv) : Nat → Nat → Pl → Option Pl
  | 0, _, p => some p
  | n + 1, a, p => match carO ((mapAt h a).map undoMv) p with
    | none => none
    | some q => goDown h n (a - 1) q
def goP (h : List Sv) (a b : Nat) (p : Pl) : Option Pl := if a < b then goUp h (b - a) a p else goDown h (a - b) a p
def addrP (n : Net) (p : Pl) : AV := .agg [.str p.1, i64 (addrK (lnOf n.lines p.1) p.2 (lnOf n.lines p.1).ps.length).1, i64 (addrK (lnOf n.lines p.1) p.2 (lnOf n.lines p.1).ps.length).2]
def placedQ (n : Net) (s : List Nat) (pc po : Int) : Pl × Int := match placedP n s pc po with
  | [.agg [.str t, .int _ q], .int _ e] => ((t, q), e)
  | _ => (([], 0), 0)
theorem placedQ_eq (n : Net) (s : List Nat) (pc po : Int) : placedP n s pc po = [.agg [.str (placedQ n s pc po).1.1, i64 (placedQ n s pc po).1.2], i64 (placedQ n s pc po).2] := by
  obtain ⟨s', m', e', h⟩ := placedP_shape n s pc po
  unfold placedQ; rw [h]
def sinceI (h : List Sv) (d : Int) (s : List Nat) (pc po o : Int) : List AV :=
    if (onQ h d).2 = 0 then
      if (placedQ (netAt h (onQ h d).1.toNat) s pc po).2 = 0 then
        if (onQ h o).2 = 0 then
          match goP h (onQ h d).1.toNat (onQ h o).1.toNat (placedQ (netAt h (onQ h d).1.toNat) s pc po).1 with
          | none => [noAddr, i64 7]
          | some p => [addrP (netAt h (onQ h o).1.toNat) p, i64 0]
        else [noAddr, i64 (onQ h o).2]
      else [noAddr, i64 (placedQ (netAt h (onQ h d).1.toNat) s pc po).2]
    else [noAddr, i64 (onQ h d).2]
def sinceP (h : List Sv) (d : Int) (s : List Nat) (pc po o : Int) : List AV := if histP h = 0 then sinceI h d s pc po o else [noAddr, i64 (histP h)]
theorem sinceP_pure (h : List Sv) (d : Int) (s : List Nat) (pc po o : Int) : (AV.tup (sinceP h d s pc po o)).pure = true := by
  unfold sinceP sinceI
  repeat' split
  all_goals rfl
noncomputable def PPF65 : FuncId → Option (List AV → Option AV) := addPrim 101 p101 (addPrim 124 p124 (addPrim 136 p136 (addPrim 102 p102 (addPrim 140 p140 (addPrim 69 p69 (fun _ => none))))))
theorem primsF65 : PrimsOk NC PPF65 := primsOk_add (primsOk_add (primsOk_add (primsOk_add (primsOk_add (primsOk_add (primsOk_none) (by kernel_rfl) (by kernel_rfl) pok69) (by kernel_rfl) (by kernel_rfl) pok140) (by kernel_rfl) (by kernel_rfl) pok102) (by kernel_rfl) (by kernel_rfl) pok136) (by kernel_rfl) (by kernel_rfl) pok124) (by kernel_rfl) (by kernel_rfl) pok101
theorem enF65_69 : En PPF65 69 p69 := enter_prim (by rfl) (by kernel_rfl)
theorem enF65_140 : En PPF65 140 p140 := enter_prim (by rfl) (by kernel_rfl)
theorem enF65_102 : En PPF65 102 p102 := enter_prim (by rfl) (by kernel_rfl)
theorem enF65_136 : En PPF65 136 p136 := enter_prim (by rfl) (by kernel_rfl)
theorem enF65_124 : En PPF65 124 p124 := enter_prim (by rfl) (by kernel_rfl)
theorem enF65_101 : En PPF65 101 p101 := enter_prim (by rfl) (by kernel_rfl)
attribute [go_sem ↓] enF65_69 enF65_140 enF65_102 enF65_136 enF65_124 enF65_101
theorem c65 (h : List Sv) (d : Int) (s : List Nat) (pc po o : Int) (hp : HistOk h) : ∀ lo H, CallOk NC lo 65 [.ps .unk (h.map Sv.row), i64 d, .agg [.str s, i64 pc, i64 po], i64 o] H (.tup (sinceP h d s pc po o)) H := by
  refine contract saneNC primsF65 (fn := Tryz.f65) (by kernel_rfl) Tryz.func65 rfl rfl (by rfl) (sinceP_pure h d s pc po o) ?_
  have e69 := pe69 h hp
  have e1 := pe140 h d hp.few
  have e2 := pe140 h o hp.few
  unfold sinceP sinceI
  generalize histP h = E at e69 ⊢
  rcases Classical.propComplete (E = 0) with z | z
  case inr => simp only [go_sem, reduceIte, Nat.reduceEqDiff, Nat.reduceAdd, Nat.reduceMul, Nat.reduceSub, Nat.reduceLeDiff, Nat.reduceLT, Nat.reduceBEq, reduceCtorEq, e69, z, noAddr]
  rcases Classical.propComplete ((onQ h d).2 = 0) with z1 | z1
  case inr => simp only [go_sem, reduceIte, Nat.reduceEqDiff, Nat.reduceAdd, Nat.reduceMul, Nat.reduceSub, Nat.reduceLeDiff, Nat.reduceLT, Nat.reduceBEq, reduceCtorEq, e69, e1, z, z1, noAddr]
  obtain ⟨a, sa, ha, hal, hsa⟩ := onQ_good (of_eq_true z1)
  simp only [ha] at e1
  rw [ha, Int.toNat_natCast]
  have hna : netAt h a = sa.net := by unfold netAt; rw [hsa]
  rw [hna]
  have hra := map_at (f := Sv.row) hsa
  have e102 := pe102 (sa.net, s, pc, po) (hp.net sa (List.mem_of_getElem? hsa))
  simp only [placedQ_eq] at e102
  generalize placedQ sa.net s pc po = P0 at e102 ⊢
  obtain ⟨⟨t, q⟩, ee⟩ := P0
  obtain ⟨da, ⟨na1, na2, na3⟩, ma⟩ := sa
  simp only [Sv.row, Net.cells, List.cons_append, List.nil_append, i64] at hra e102
  rcases Classical.propComplete (ee = 0) with z2 | z2
  case inr => simp only [go_sem, reduceIte, Nat.reduceEqDiff, Nat.reduceAdd, Nat.reduceMul, Nat.reduceSub, Nat.reduceLeDiff, Nat.reduceLT, Nat.reduceBEq, reduceCtorEq, List.length_map, e69, e1, e102, hal, hra, z, z1, z2, noAddr]
  rcases Classical.propComplete ((onQ h o).2 = 0) with z3 | z3
  case inr => simp only [go_sem, reduceIte, Nat.reduceEqDiff, Nat.reduceAdd, Nat.reduceMul, Nat.reduceSub, Nat.reduceLeDiff, Nat.reduceLT, Nat.reduceBEq, reduceCtorEq, List.length_map, e69, e1, e2, e102, hal, hra, z, z1, z2, z3, noAddr]
  obtain ⟨b, sb, hb, hbl, hsb⟩ := onQ_good (of_eq_true z3)
  simp only [hb] at e2
  rw [hb, Int.toNat_natCast]
  have hnb : netAt h b = sb.net := by unfold netAt; rw [hsb]
  rw [hnb]
  have hrb := map_at (f := Sv.row) hsb
  have hnb2 := hp.net sb (List.mem_of_getElem? hsb)
  have e101 := fun p : Pl => pe101 (sb.net, p.1, p.2) hnb2
  clear hna hnb hnb2
  obtain ⟨db, ⟨nb1, nb2, nb3⟩, mb⟩ := sb
  simp only [Sv.row, Net.cells, List.cons_append, List.nil_append, i64] at hrb e101
  simp only [go_sem, reduceIte, Nat.reduceEqDiff, Nat.reduceAdd, Nat.reduceMul, Nat.reduceSub, Nat.reduceLeDiff, Nat.reduceLT, Nat.reduceBEq, reduceCtorEq, List.length_map, e69, e1, e2, e102, hal, hra, z, z1, z2, z3]
  have hl := hp.few
  by_cases hab : a < b
  · have hgo : goP h a b (t, q) = goUp h (b - a) a (t, q) := by unfold goP; rw [if_pos hab]
    rw [hgo]
    generalize hR : goUp h (b - a) a (t, q) = R
    refine W_for (fun k T H M => M = [] ∧ getT T 0 = .ps .unk (h.map Sv.row) ∧ getT T 11 = i64 ((a + k : Nat) : Int) ∧ getT T 14 = i64 b ∧ getT T 13 = .ptr 2 0 ∧ getT T 8 = .ptr 1 0 ∧ getT T 15 = .bool false ∧ H.get 1 = .cells [.str [], i64 0, i64 0] 42 ∧ 2 < H.n ∧ ∃ p : Pl, H.get 2 = .cells [.str p.1, i64 p.2] 45 ∧ R = goUp h (b - a - k) (a + k) p) (b - a) ?_ ?_ ?_
    · simp only [go_sem, reduceIte, Nat.reduceEqDiff, Nat.reduceAdd, Nat.reduceMul, Nat.reduceSub, Nat.reduceLeDiff, Nat.reduceLT, Nat.reduceBEq, reduceCtorEq]
      first | exact ⟨(t, q), rfl, hR.symm⟩ | exact ⟨rfl, (t, q), rfl, hR.symm⟩
    · rintro k T H M hk ⟨rfl, g0, g11, g14, g13, g8, g15, h1, hn, p, h2, hf⟩
      have hak : a + k + 1 < h.length := by omega
      obtain ⟨s1, hs1⟩ : ∃ p, h[a + k + 1]? = some p := ⟨h[a + k + 1], by simp⟩
      have hr1 := map_at (f := Sv.row) hs1
      have hne : (((a + k : Nat) : Int) = (b : Int)) = False := by simp; omega
      have hlt : (((a + k : Nat) : Int) < (b : Int)) = True := by simp; omega
      have hw : wrapq .i64 (Int.add ((a + k : Nat) : Int) 1) = ((a + k + 1 : Nat) : Int) := wrap_succ hak hl |> fun h => by exact wrap_nat (n := a + k + 1) (by unfold maxRows at hl; omega)
      have hmap : mapAt h (a + k + 1) = s1.map := by unfold mapAt; rw [hs1]
      have e124 := pe124 s1.map p.1 p.2 (hp.map s1 (List.mem_of_getElem? hs1)).few
      have hst : b - a - k = (b - a - (k + 1)) + 1 := by omega
      rw [hst] at hf
      unfold goUp at hf
      rw [hmap] at hf
      have b1 : (1 = H.n) = False := by simp; omega
      have b2 : (2 = H.n) = False := by simp; omega
      have b3 : 2 < H.n + 1 := by omega
      have hak' : (a + k + 1 < h.length) = True := by simp; omega
      obtain ⟨d1, ⟨n1, n2, n3⟩, m1⟩ := s1
      simp only [Sv.row, Net.cells, List.cons_append, List.nil_append, i64] at hr1 e124 hf
      cases hc : carO m1 p with
      | none =>
        rw [carP_none hc, noPlace] at e124
        rw [hc] at hf
        simp only at hf
        simp only [go_sem, reduceIte, Nat.reduceEqDiff, Nat.reduceAdd, Nat.reduceMul, Nat.reduceSub, Nat.reduceLeDiff, Nat.reduceLT, Nat.reduceBEq, reduceCtorEq, List.length_map, g0, g11, g14, g13, g8, g15, h1, h2, b1, b2, b3, hne, hlt, hw, hak', hr1, e124]
        rw [hf]
        simp only [z, z1, z2, z3, if_true]
        rfl
      | some p' =>
        rw [carP_some hc] at e124
        rw [hc] at hf
        simp only at hf
        simp only [go_sem, reduceIte, Nat.reduceEqDiff, Nat.reduceAdd, Nat.reduceMul, Nat.reduceSub, Nat.reduceLeDiff, Nat.reduceLT, Nat.reduceBEq, reduceCtorEq, List.length_map, g0, g11, g14, g13, g8, g15, h1, h2, b1, b2, b3, hne, hlt, hw, hak', hr1, e124]
        exact ⟨rfl, p', rfl, hf⟩
    · rintro T H M ⟨rfl, g0, g11, g14, g13, g8, g15, h1, hn, p, h2, hf⟩
      have he : a + (b - a) = b := by omega
      rw [he, Nat.sub_self] at hf
      rw [he] at g11
      unfold goUp at hf
      have e101' := e101 p
      simp only [go_sem, reduceIte, Nat.reduceEqDiff, Nat.reduceAdd, Nat.reduceMul, Nat.reduceSub, Nat.reduceLeDiff, Nat.reduceLT, Nat.reduceBEq, reduceCtorEq, List.length_map, g0, g11, g14, g13, g8, g15, h1, h2, hbl, hrb, e101']
      rw [hf]
      simp only [z, z1, z2, z3, if_true]
      rfl
  · have hgo : goP h a b (t, q) = goDown h (a - b) a (t, q) := by unfold goP; rw [if_neg hab]
    rw [hgo]
    generalize hR : goDown h (a - b) a (t, q) = R
    refine W_for (fun k T H M => M = [] ∧ getT T 0 = .ps .unk (h.map Sv.row) ∧ getT T 11 = i64 ((a - k : Nat) : Int) ∧ getT T 14 = i64 b ∧ getT T 13 = .ptr 2 0 ∧ getT T 8 = .ptr 1 0 ∧ getT T 15 = .bool false ∧ H.get 1 = .cells [.str [], i64 0, i64 0] 42 ∧ 2 < H.n ∧ ∃ p : Pl, H.get 2 = .cells [.str p.1, i64 p.2] 45 ∧ R = goDown h (a - b - k) (a - k) p) (a - b) ?_ ?_ ?_
    · simp only [go_sem, reduceIte, Nat.reduceEqDiff, Nat.reduceAdd, Nat.reduceMul, Nat.reduceSub, Nat.reduceLeDiff, Nat.reduceLT, Nat.reduceBEq, reduceCtorEq]
      first | exact ⟨(t, q), rfl, hR.symm⟩ | exact ⟨rfl, (t, q), rfl, hR.symm⟩
    · rintro k T H M hk ⟨rfl, g0, g11, g14, g13, g8, g15, h1, hn, p, h2, hf⟩
      obtain ⟨s1, hs1⟩ : ∃ p, h[a - k]? = some p := ⟨h[a - k]'(by omega), by simp⟩
      have hr1 := map_at (f := Sv.row) hs1
      have hne : (((a - k : Nat) : Int) = (b : Int)) = False := by simp; omega
      have hlt : (((a - k : Nat) : Int) < (b : Int)) = False := by simp; omega
      have hw : wrapq .i64 (Int.sub ((a - k : Nat) : Int) 1) = ((a - (k + 1) : Nat) : Int) := by
        have := wrap_pred (k := a - k) (n := a) (by omega) (by omega) (by omega)
        rw [this]; congr 1
      have hmap : mapAt h (a - k) = s1.map := by unfold mapAt; rw [hs1]
      have hm1 := (hp.map s1 (List.mem_of_getElem? hs1)).few
      have e136 := pe136 s1.map hm1
      have e124 := pe124 (s1.map.map undoMv) p.1 p.2 (by simpa using hm1)
      have hst : a - b - k = (a - b - (k + 1)) + 1 := by omega
      rw [hst] at hf
      unfold goDown at hf
      rw [hmap] at hf
      have hst2 : a - k - 1 = a - (k + 1) := by omega
      rw [hst2] at hf
      have b1 : (1 = H.n) = False := by simp; omega
      have b2 : (2 = H.n) = False := by simp; omega
      have b3 : 2 < H.n + 1 := by omega
      have hak' : (a - k < h.length) = True := by simp; omega
      obtain ⟨d1, ⟨n1, n2, n3⟩, m1⟩ := s1
      simp only [Sv.row, Net.cells, List.cons_append, List.nil_append, i64] at hr1 e124 hf e136
      cases hc : carO (m1.map undoMv) p with
      | none =>
        rw [carP_none hc, noPlace] at e124
        rw [hc] at hf
        simp only at hf
        simp only [go_sem, reduceIte, Nat.reduceEqDiff, Nat.reduceAdd, Nat.reduceMul, Nat.reduceSub, Nat.reduceLeDiff, Nat.reduceLT, Nat.reduceBEq, reduceCtorEq, List.length_map, g0, g11, g14, g13, g8, g15, h1, h2, b1, b2, b3, hne, hlt, hw, hak', hr1, e124, e136]
        rw [hf]
        simp only [z, z1, z2, z3, if_true]
        rfl
      | some p' =>
        rw [carP_some hc] at e124
        rw [hc] at hf
        simp only at hf
        simp only [go_sem, reduceIte, Nat.reduceEqDiff, Nat.reduceAdd, Nat.reduceMul, Nat.reduceSub, Nat.reduceLeDiff, Nat.reduceLT, Nat.reduceBEq, reduceCtorEq, List.length_map, g0, g11, g14, g13, g8, g15, h1, h2, b1, b2, b3, hne, hlt, hw, hak', hr1, e124, e136]
        exact ⟨p', rfl, hf⟩
    · rintro T H M ⟨rfl, g0, g11, g14, g13, g8, g15, h1, hn, p, h2, hf⟩
      have he : a - (a - b) = b := by omega
      rw [he, Nat.sub_self] at hf
      rw [he] at g11
      unfold goDown at hf
      have e101' := e101 p
      simp only [go_sem, reduceIte, Nat.reduceEqDiff, Nat.reduceAdd, Nat.reduceMul, Nat.reduceSub, Nat.reduceLeDiff, Nat.reduceLT, Nat.reduceBEq, reduceCtorEq, List.length_map, g0, g11, g14, g13, g8, g15, h1, h2, hbl, hrb, e101']
      rw [hf]
      simp only [z, z1, z2, z3, if_true]
      rfl
noncomputable def p65 : List AV → Option AV := primOf (α := (List Sv) × (Int) × (List Nat) × (Int) × (Int) × (Int)) (fun x => [.ps .unk (x.1.map Sv.row), i64 x.2.1, .agg [.str x.2.2.1, i64 x.2.2.2.1, i64 x.2.2.2.2.1], i64 x.2.2.2.2.2]) (fun x => HistOk x.1) (fun x => .tup (sinceP x.1 x.2.1 x.2.2.1 x.2.2.2.1 x.2.2.2.2.1 x.2.2.2.2.2))
theorem pok65 : ∀ args v, p65 args = some v → ∀ lo H, CallOk NC lo 65 args H v H := by
  intro args v h
  obtain ⟨x, rfl, hp, rfl⟩ := primOf_inv h
  exact c65 x.1 x.2.1 x.2.2.1 x.2.2.2.1 x.2.2.2.2.1 x.2.2.2.2.2 hp
theorem pe65 (h : List Sv) (d : Int) (s : List Nat) (pc po o : Int) (hp : HistOk h) : p65 [.ps .unk (h.map Sv.row), .int .i64 d, .agg [.str s, .int .i64 pc, .int .i64 po], .int .i64 o] = some (.tup (sinceP h d s pc po o)) := primOf_enc (α := (List Sv) × (Int) × (List Nat) × (Int) × (Int) × (Int)) (enc := fun x => [.ps .unk (x.1.map Sv.row), i64 x.2.1, .agg [.str x.2.2.1, i64 x.2.2.2.1, i64 x.2.2.2.2.1], i64 x.2.2.2.2.2]) (pre := fun x => HistOk x.1) (spec := fun x => .tup (sinceP x.1 x.2.1 x.2.2.1 x.2.2.2.1 x.2.2.2.2.1 x.2.2.2.2.2)) (by intro x y h; (simp only [List.cons.injEq, AV.agg.injEq, AV.str.injEq, AV.int.injEq, AV.ps.injEq, AV.bool.injEq, Net.cells_iff, Ln.row_iff, Pc.row_iff, Mv.row_iff, lns_iff, pcs_iff, mvs_iff, Sv.row_iff, svs_iff, true_and, and_true] at h; first | simpa only [Prod.ext_iff] using h | simpa only [Prod.ext_iff, and_assoc] using h)) (h, d, s, pc, po, o) hp
end Go.Sim

/-
The document's examples: what 'awake' returns, found by closed runs.
-/
namespace Go.Sim
open Go
def aw0 : List Known := []
theorem awh0 : ∀ k ∈ aw0, ∀ lo H, CallOk NC lo k.f k.args H k.v H := fun k h => by cases h
def ak1 : Known := ⟨110, [.ps .unk [[.str [117, 112], .ps .unk [[.int .i64 100, .int .i64 5000, .bool false], [.int .i64 50, .int .i64 5080, .bool false], [.int .i64 30, .int .i64 5200, .bool true]]], [.str [115, 105, 100, 101], .ps .unk [[.int .i64 40, .int .i64 0, .bool false]]]]], .int .i64 0⟩
theorem ac1 : ∀ lo H, CallOk NC lo ak1.f ak1.args H ak1.v H := known_ok saneNC awh0 (fuel := 5000) (by kernel_rfl) (by kernel_rfl) (by kernel_rfl)
def aw1 : List Known := ak1 :: aw0
theorem awh1 : ∀ k ∈ aw1, ∀ lo H, CallOk NC lo k.f k.args H k.v H := fun k h => (List.mem_cons.1 h).elim (fun e => e ▸ ac1) (awh0 k)
def ak2 : Known := ⟨112, [.agg [.ps .unk [[.str [117, 112], .ps .unk [[.int .i64 100, .int .i64 5000, .bool false], [.int .i64 50, .int .i64 5080, .bool false], [.int .i64 30, .int .i64 5200, .bool true]]], [.str [115, 105, 100, 101], .ps .unk [[.int .i64 40, .int .i64 0, .bool false]]]], .ps .unk [[.str [119], .str [117, 112], .int .i64 120, .str [115, 105, 100, 101], .bool false]], .ps .unk [[.str [97, 114, 99, 104], .str [98, 114, 105, 100, 103, 101], .str [117, 112], .int .i64 130, .int .i64 150]]]], .int .i64 0⟩
theorem ac2 : ∀ lo H, CallOk NC lo ak2.f ak2.args H ak2.v H := known_ok saneNC awh1 (fuel := 5000) (by kernel_rfl) (by kernel_rfl) (by kernel_rfl)
def aw2 : List Known := ak2 :: aw1
theorem awh2 : ∀ k ∈ aw2, ∀ lo H, CallOk NC lo k.f k.args H k.v H := fun k h => (List.mem_cons.1 h).elim (fun e => e ▸ ac2) (awh1 k)
def ak3 : Known := ⟨113, [.agg [.ps .unk [[.str [117, 112], .ps .unk [[.int .i64 100, .int .i64 5000, .bool false], [.int .i64 50, .int .i64 5080, .bool false], [.int .i64 30, .int .i64 5200, .bool true]]], [.str [115, 105, 100, 101], .ps .unk [[.int .i64 40, .int .i64 0, .bool false]]]], .ps .unk [[.str [119], .str [117, 112], .int .i64 120, .str [115, 105, 100, 101], .bool false]], .ps .unk [[.str [97, 114, 99, 104], .str [98, 114, 105, 100, 103, 101], .str [117, 112], .int .i64 130, .int .i64 150]]]], .int .i64 0⟩
theorem ac3 : ∀ lo H, CallOk NC lo ak3.f ak3.args H ak3.v H := known_ok saneNC awh2 (fuel := 5000) (by kernel_rfl) (by kernel_rfl) (by kernel_rfl)
def aw3 : List Known := ak3 :: aw2
theorem awh3 : ∀ k ∈ aw3, ∀ lo H, CallOk NC lo k.f k.args H k.v H := fun k h => (List.mem_cons.1 h).elim (fun e => e ▸ ac3) (awh2 k)
def ak4 : Known := ⟨29, [.agg [.ps .unk [[.str [117, 112], .ps .unk [[.int .i64 100, .int .i64 5000, .bool false], [.int .i64 50, .int .i64 5080, .bool false], [.int .i64 30, .int .i64 5200, .bool true]]], [.str [115, 105, 100, 101], .ps .unk [[.int .i64 40, .int .i64 0, .bool false]]]], .ps .unk [[.str [119], .str [117, 112], .int .i64 120, .str [115, 105, 100, 101], .bool false]], .ps .unk [[.str [97, 114, 99, 104], .str [98, 114, 105, 100, 103, 101], .str [117, 112], .int .i64 130, .int .i64 150]]]], .int .i64 0⟩
theorem ac4 : ∀ lo H, CallOk NC lo ak4.f ak4.args H ak4.v H := known_ok saneNC awh3 (fuel := 5000) (by kernel_rfl) (by kernel_rfl) (by kernel_rfl)
def aw4 : List Known := ak4 :: aw3
theorem awh4 : ∀ k ∈ aw4, ∀ lo H, CallOk NC lo k.f k.args H k.v H := fun k h => (List.mem_cons.1 h).elim (fun e => e ▸ ac4) (awh3 k)
def ak5 : Known := ⟨18, [.agg [.ps .unk [[.str [117, 112], .ps .unk [[.int .i64 100, .int .i64 5000, .bool false], [.int .i64 50, .int .i64 5080, .bool false], [.int .i64 30, .int .i64 5200, .bool true]]], [.str [115, 105, 100, 101], .ps .unk [[.int .i64 40, .int .i64 0, .bool false]]]], .ps .unk [[.str [119], .str [117, 112], .int .i64 120, .str [115, 105, 100, 101], .bool false]], .ps .unk [[.str [97, 114, 99, 104], .str [98, 114, 105, 100, 103, 101], .str [117, 112], .int .i64 130, .int .i64 150]]], .str [117, 112]], .tup [.int .i64 180, .int .i64 0]⟩
theorem ac5 : ∀ lo H, CallOk NC lo ak5.f ak5.args H ak5.v H := known_ok saneNC awh4 (fuel := 5000) (by kernel_rfl) (by kernel_rfl) (by kernel_rfl)
def aw5 : List Known := ak5 :: aw4
theorem awh5 : ∀ k ∈ aw5, ∀ lo H, CallOk NC lo k.f k.args H k.v H := fun k h => (List.mem_cons.1 h).elim (fun e => e ▸ ac5) (awh4 k)
def ak6 : Known := ⟨20, [.agg [.ps .unk [[.str [117, 112], .ps .unk [[.int .i64 100, .int .i64 5000, .bool false], [.int .i64 50, .int .i64 5080, .bool false], [.int .i64 30, .int .i64 5200, .bool true]]], [.str [115, 105, 100, 101], .ps .unk [[.int .i64 40, .int .i64 0, .bool false]]]], .ps .unk [[.str [119], .str [117, 112], .int .i64 120, .str [115, 105, 100, 101], .bool false]], .ps .unk [[.str [97, 114, 99, 104], .str [98, 114, 105, 100, 103, 101], .str [117, 112], .int .i64 130, .int .i64 150]]], .agg [.str [117, 112], .int .i64 120]], .tup [.agg [.str [117, 112], .int .i64 1, .int .i64 5100], .int .i64 0]⟩
theorem ac6 : ∀ lo H, CallOk NC lo ak6.f ak6.args H ak6.v H := known_ok saneNC awh5 (fuel := 5000) (by kernel_rfl) (by kernel_rfl) (by kernel_rfl)
def aw6 : List Known := ak6 :: aw5
theorem awh6 : ∀ k ∈ aw6, ∀ lo H, CallOk NC lo k.f k.args H k.v H := fun k h => (List.mem_cons.1 h).elim (fun e => e ▸ ac6) (awh5 k)
def ak7 : Known := ⟨20, [.agg [.ps .unk [[.str [117, 112], .ps .unk [[.int .i64 100, .int .i64 5000, .bool false], [.int .i64 50, .int .i64 5080, .bool false], [.int .i64 30, .int .i64 5200, .bool true]]], [.str [115, 105, 100, 101], .ps .unk [[.int .i64 40, .int .i64 0, .bool false]]]], .ps .unk [[.str [119], .str [117, 112], .int .i64 120, .str [115, 105, 100, 101], .bool false]], .ps .unk [[.str [97, 114, 99, 104], .str [98, 114, 105, 100, 103, 101], .str [117, 112], .int .i64 130, .int .i64 150]]], .agg [.str [117, 112], .int .i64 179]], .tup [.agg [.str [117, 112], .int .i64 2, .int .i64 5171], .int .i64 0]⟩
theorem ac7 : ∀ lo H, CallOk NC lo ak7.f ak7.args H ak7.v H := known_ok saneNC awh6 (fuel := 5000) (by kernel_rfl) (by kernel_rfl) (by kernel_rfl)
def aw7 : List Known := ak7 :: aw6
theorem awh7 : ∀ k ∈ aw7, ∀ lo H, CallOk NC lo k.f k.args H k.v H := fun k h => (List.mem_cons.1 h).elim (fun e => e ▸ ac7) (awh6 k)
def ak8 : Known := ⟨51, [.agg [.ps .unk [[.str [117, 112], .ps .unk [[.int .i64 100, .int .i64 5000, .bool false], [.int .i64 50, .int .i64 5080, .bool false], [.int .i64 30, .int .i64 5200, .bool true]]], [.str [115, 105, 100, 101], .ps .unk [[.int .i64 40, .int .i64 0, .bool false]]]], .ps .unk [[.str [119], .str [117, 112], .int .i64 120, .str [115, 105, 100, 101], .bool false]], .ps .unk [[.str [97, 114, 99, 104], .str [98, 114, 105, 100, 103, 101], .str [117, 112], .int .i64 130, .int .i64 150]]], .str [117, 112], .int .i64 5090], .tup [.ps .unk [[.str [117, 112], .int .i64 0, .int .i64 5090], [.str [117, 112], .int .i64 1, .int .i64 5090]], .int .i64 0]⟩
theorem ac8 : ∀ lo H, CallOk NC lo ak8.f ak8.args H ak8.v H := known_ok saneNC awh7 (fuel := 5000) (by kernel_rfl) (by kernel_rfl) (by kernel_rfl)
def aw8 : List Known := ak8 :: aw7
theorem awh8 : ∀ k ∈ aw8, ∀ lo H, CallOk NC lo k.f k.args H k.v H := fun k h => (List.mem_cons.1 h).elim (fun e => e ▸ ac8) (awh7 k)
def ak9 : Known := ⟨21, [.agg [.ps .unk [[.str [117, 112], .ps .unk [[.int .i64 100, .int .i64 5000, .bool false], [.int .i64 50, .int .i64 5080, .bool false], [.int .i64 30, .int .i64 5200, .bool true]]], [.str [115, 105, 100, 101], .ps .unk [[.int .i64 40, .int .i64 0, .bool false]]]], .ps .unk [[.str [119], .str [117, 112], .int .i64 120, .str [115, 105, 100, 101], .bool false]], .ps .unk [[.str [97, 114, 99, 104], .str [98, 114, 105, 100, 103, 101], .str [117, 112], .int .i64 130, .int .i64 150]]], .agg [.str [117, 112], .int .i64 1, .int .i64 5090]], .tup [.agg [.str [117, 112], .int .i64 110], .int .i64 0]⟩
theorem ac9 : ∀ lo H, CallOk NC lo ak9.f ak9.args H ak9.v H := known_ok saneNC awh8 (fuel := 5000) (by kernel_rfl) (by kernel_rfl) (by kernel_rfl)
def aw9 : List Known := ak9 :: aw8
theorem awh9 : ∀ k ∈ aw9, ∀ lo H, CallOk NC lo k.f k.args H k.v H := fun k h => (List.mem_cons.1 h).elim (fun e => e ▸ ac9) (awh8 k)
def ak10 : Known := ⟨114, [.agg [.ps .unk [[.str [117, 112], .ps .unk [[.int .i64 100, .int .i64 5000, .bool false], [.int .i64 50, .int .i64 5080, .bool false], [.int .i64 30, .int .i64 5200, .bool true]]], [.str [115, 105, 100, 101], .ps .unk [[.int .i64 40, .int .i64 0, .bool false]]]], .ps .unk [[.str [119], .str [117, 112], .int .i64 120, .str [115, 105, 100, 101], .bool false]], .ps .unk [[.str [97, 114, 99, 104], .str [98, 114, 105, 100, 103, 101], .str [117, 112], .int .i64 130, .int .i64 150]]], .ps .unk [[.str [117, 112], .int .i64 100], [.str [115, 105, 100, 101], .int .i64 10]]], .int .i64 0⟩
theorem ac10 : ∀ lo H, CallOk NC lo ak10.f ak10.args H ak10.v H := known_ok saneNC awh9 (fuel := 5000) (by kernel_rfl) (by kernel_rfl) (by kernel_rfl)
def aw10 : List Known := ak10 :: aw9
theorem awh10 : ∀ k ∈ aw10, ∀ lo H, CallOk NC lo k.f k.args H k.v H := fun k h => (List.mem_cons.1 h).elim (fun e => e ▸ ac10) (awh9 k)
def ak11 : Known := ⟨203, [.agg [.ps .unk [[.str [117, 112], .ps .unk [[.int .i64 100, .int .i64 5000, .bool false], [.int .i64 50, .int .i64 5080, .bool false], [.int .i64 30, .int .i64 5200, .bool true]]], [.str [115, 105, 100, 101], .ps .unk [[.int .i64 40, .int .i64 0, .bool false]]]], .ps .unk [[.str [119], .str [117, 112], .int .i64 120, .str [115, 105, 100, 101], .bool false]], .ps .unk [[.str [97, 114, 99, 104], .str [98, 114, 105, 100, 103, 101], .str [117, 112], .int .i64 130, .int .i64 150]]], .agg [.ps .unk [[.str [117, 112], .int .i64 100, .int .i64 120], [.str [115, 105, 100, 101], .int .i64 0, .int .i64 0], [.str [117, 112], .int .i64 120, .int .i64 120]], .int .i64 20], .agg [.ps .unk [[.str [117, 112], .int .i64 100, .int .i64 120]], .int .i64 20]], .int .i64 1⟩
theorem ac11 : ∀ lo H, CallOk NC lo ak11.f ak11.args H ak11.v H := known_ok saneNC awh10 (fuel := 5000) (by kernel_rfl) (by kernel_rfl) (by kernel_rfl)
def aw11 : List Known := ak11 :: aw10
theorem awh11 : ∀ k ∈ aw11, ∀ lo H, CallOk NC lo k.f k.args H k.v H := fun k h => (List.mem_cons.1 h).elim (fun e => e ▸ ac11) (awh10 k)
def ak12 : Known := ⟨203, [.agg [.ps .unk [[.str [117, 112], .ps .unk [[.int .i64 100, .int .i64 5000, .bool false], [.int .i64 50, .int .i64 5080, .bool false], [.int .i64 30, .int .i64 5200, .bool true]]], [.str [115, 105, 100, 101], .ps .unk [[.int .i64 40, .int .i64 0, .bool false]]]], .ps .unk [[.str [119], .str [117, 112], .int .i64 120, .str [115, 105, 100, 101], .bool false]], .ps .unk [[.str [97, 114, 99, 104], .str [98, 114, 105, 100, 103, 101], .str [117, 112], .int .i64 130, .int .i64 150]]], .agg [.ps .unk [[.str [117, 112], .int .i64 100, .int .i64 120], [.str [115, 105, 100, 101], .int .i64 0, .int .i64 0]], .int .i64 20], .agg [.ps .unk [[.str [117, 112], .int .i64 100, .int .i64 120], [.str [115, 105, 100, 101], .int .i64 0, .int .i64 0]], .int .i64 20]], .int .i64 0⟩
theorem ac12 : ∀ lo H, CallOk NC lo ak12.f ak12.args H ak12.v H := known_ok saneNC awh11 (fuel := 5000) (by kernel_rfl) (by kernel_rfl) (by kernel_rfl)
def aw12 : List Known := ak12 :: aw11
theorem awh12 : ∀ k ∈ aw12, ∀ lo H, CallOk NC lo k.f k.args H k.v H := fun k h => (List.mem_cons.1 h).elim (fun e => e ▸ ac12) (awh11 k)
def ak13 : Known := ⟨142, [.agg [.ps .unk [[.str [117, 112], .ps .unk [[.int .i64 100, .int .i64 5000, .bool false], [.int .i64 50, .int .i64 5080, .bool false], [.int .i64 30, .int .i64 5200, .bool true]]], [.str [115, 105, 100, 101], .ps .unk [[.int .i64 40, .int .i64 0, .bool false]]]], .ps .unk [[.str [119], .str [117, 112], .int .i64 120, .str [115, 105, 100, 101], .bool false]], .ps .unk [[.str [97, 114, 99, 104], .str [98, 114, 105, 100, 103, 101], .str [117, 112], .int .i64 130, .int .i64 150]]], .agg [.str [117, 112], .int .i64 100], .agg [.str [115, 105, 100, 101], .int .i64 10]], .tup [.agg [.ps .unk [[.str [117, 112], .int .i64 100, .int .i64 120], [.str [115, 105, 100, 101], .int .i64 0, .int .i64 10]], .int .i64 30], .bool true]⟩
theorem ac13 : ∀ lo H, CallOk NC lo ak13.f ak13.args H ak13.v H := known_ok saneNC awh12 (fuel := 5000) (by kernel_rfl) (by kernel_rfl) (by kernel_rfl)
def aw13 : List Known := ak13 :: aw12
theorem awh13 : ∀ k ∈ aw13, ∀ lo H, CallOk NC lo k.f k.args H k.v H := fun k h => (List.mem_cons.1 h).elim (fun e => e ▸ ac13) (awh12 k)
def ak14 : Known := ⟨71, [.agg [.ps .unk [[.str [117, 112], .ps .unk [[.int .i64 100, .int .i64 5000, .bool false], [.int .i64 50, .int .i64 5080, .bool false], [.int .i64 30, .int .i64 5200, .bool true]]], [.str [115, 105, 100, 101], .ps .unk [[.int .i64 40, .int .i64 0, .bool false]]]], .ps .unk [[.str [119], .str [117, 112], .int .i64 120, .str [115, 105, 100, 101], .bool false]], .ps .unk [[.str [97, 114, 99, 104], .str [98, 114, 105, 100, 103, 101], .str [117, 112], .int .i64 130, .int .i64 150]]], .agg [.str [117, 112], .int .i64 100], .agg [.str [115, 105, 100, 101], .int .i64 10]], .tup [.ps .unk [[.str [117, 112], .int .i64 100, .int .i64 120], [.str [115, 105, 100, 101], .int .i64 0, .int .i64 10]], .int .i64 30, .int .i64 0]⟩
theorem ac14 : ∀ lo H, CallOk NC lo ak14.f ak14.args H ak14.v H := known_ok saneNC awh13 (fuel := 5000) (by kernel_rfl) (by kernel_rfl) (by kernel_rfl)
def aw14 : List Known := ak14 :: aw13
theorem awh14 : ∀ k ∈ aw14, ∀ lo H, CallOk NC lo k.f k.args H k.v H := fun k h => (List.mem_cons.1 h).elim (fun e => e ▸ ac14) (awh13 k)
def ak15 : Known := ⟨114, [.agg [.ps .unk [[.str [117, 112], .ps .unk [[.int .i64 100, .int .i64 5000, .bool false], [.int .i64 50, .int .i64 5080, .bool false], [.int .i64 30, .int .i64 5200, .bool true]]], [.str [115, 105, 100, 101], .ps .unk [[.int .i64 40, .int .i64 0, .bool false]]]], .ps .unk [[.str [119], .str [117, 112], .int .i64 120, .str [115, 105, 100, 101], .bool false]], .ps .unk [[.str [97, 114, 99, 104], .str [98, 114, 105, 100, 103, 101], .str [117, 112], .int .i64 130, .int .i64 150]]], .ps .unk [[.str [115, 105, 100, 101], .int .i64 5]]], .int .i64 0⟩
theorem ac15 : ∀ lo H, CallOk NC lo ak15.f ak15.args H ak15.v H := known_ok saneNC awh14 (fuel := 5000) (by kernel_rfl) (by kernel_rfl) (by kernel_rfl)
def aw15 : List Known := ak15 :: aw14
theorem awh15 : ∀ k ∈ aw15, ∀ lo H, CallOk NC lo k.f k.args H k.v H := fun k h => (List.mem_cons.1 h).elim (fun e => e ▸ ac15) (awh14 k)
def ak16 : Known := ⟨203, [.agg [.ps .unk [[.str [117, 112], .ps .unk [[.int .i64 100, .int .i64 5000, .bool false], [.int .i64 50, .int .i64 5080, .bool false], [.int .i64 30, .int .i64 5200, .bool true]]], [.str [115, 105, 100, 101], .ps .unk [[.int .i64 40, .int .i64 0, .bool false]]]], .ps .unk [[.str [119], .str [117, 112], .int .i64 120, .str [115, 105, 100, 101], .bool false]], .ps .unk [[.str [97, 114, 99, 104], .str [98, 114, 105, 100, 103, 101], .str [117, 112], .int .i64 130, .int .i64 150]]], .agg [.ps .unk [[.str [115, 105, 100, 101], .int .i64 5, .int .i64 0], [.str [117, 112], .int .i64 120, .int .i64 120], [.str [115, 105, 100, 101], .int .i64 0, .int .i64 0]], .int .i64 5], .agg [.ps .unk [[.str [115, 105, 100, 101], .int .i64 5, .int .i64 0]], .int .i64 5]], .int .i64 1⟩
theorem ac16 : ∀ lo H, CallOk NC lo ak16.f ak16.args H ak16.v H := known_ok saneNC awh15 (fuel := 5000) (by kernel_rfl) (by kernel_rfl) (by kernel_rfl)
def aw16 : List Known := ak16 :: aw15
theorem awh16 : ∀ k ∈ aw16, ∀ lo H, CallOk NC lo k.f k.args H k.v H := fun k h => (List.mem_cons.1 h).elim (fun e => e ▸ ac16) (awh15 k)
def ak17 : Known := ⟨203, [.agg [.ps .unk [[.str [117, 112], .ps .unk [[.int .i64 100, .int .i64 5000, .bool false], [.int .i64 50, .int .i64 5080, .bool false], [.int .i64 30, .int .i64 5200, .bool true]]], [.str [115, 105, 100, 101], .ps .unk [[.int .i64 40, .int .i64 0, .bool false]]]], .ps .unk [[.str [119], .str [117, 112], .int .i64 120, .str [115, 105, 100, 101], .bool false]], .ps .unk [[.str [97, 114, 99, 104], .str [98, 114, 105, 100, 103, 101], .str [117, 112], .int .i64 130, .int .i64 150]]], .agg [.ps .unk [[.str [115, 105, 100, 101], .int .i64 5, .int .i64 0], [.str [117, 112], .int .i64 120, .int .i64 120]], .int .i64 5], .agg [.ps .unk [[.str [115, 105, 100, 101], .int .i64 5, .int .i64 0], [.str [117, 112], .int .i64 120, .int .i64 120]], .int .i64 5]], .int .i64 0⟩
theorem ac17 : ∀ lo H, CallOk NC lo ak17.f ak17.args H ak17.v H := known_ok saneNC awh16 (fuel := 5000) (by kernel_rfl) (by kernel_rfl) (by kernel_rfl)
def aw17 : List Known := ak17 :: aw16
theorem awh17 : ∀ k ∈ aw17, ∀ lo H, CallOk NC lo k.f k.args H k.v H := fun k h => (List.mem_cons.1 h).elim (fun e => e ▸ ac17) (awh16 k)
def ak18 : Known := ⟨116, [.agg [.ps .unk [[.str [117, 112], .ps .unk [[.int .i64 100, .int .i64 5000, .bool false], [.int .i64 50, .int .i64 5080, .bool false], [.int .i64 30, .int .i64 5200, .bool true]]], [.str [115, 105, 100, 101], .ps .unk [[.int .i64 40, .int .i64 0, .bool false]]]], .ps .unk [[.str [119], .str [117, 112], .int .i64 120, .str [115, 105, 100, 101], .bool false]], .ps .unk [[.str [97, 114, 99, 104], .str [98, 114, 105, 100, 103, 101], .str [117, 112], .int .i64 130, .int .i64 150]]], .agg [.str [115, 105, 100, 101], .int .i64 5]], .ps .unk [[.str [115, 105, 100, 101], .int .i64 5, .int .i64 0], [.str [115, 105, 100, 101], .int .i64 0, .int .i64 5], [.str [117, 112], .int .i64 120, .int .i64 5]]⟩
theorem ac18 : ∀ lo H, CallOk NC lo ak18.f ak18.args H ak18.v H := known_ok saneNC awh17 (fuel := 5000) (by kernel_rfl) (by kernel_rfl) (by kernel_rfl)
def aw18 : List Known := ak18 :: aw17
theorem awh18 : ∀ k ∈ aw18, ∀ lo H, CallOk NC lo k.f k.args H k.v H := fun k h => (List.mem_cons.1 h).elim (fun e => e ▸ ac18) (awh17 k)
def ak19 : Known := ⟨33, [.agg [.ps .unk [[.str [117, 112], .ps .unk [[.int .i64 100, .int .i64 5000, .bool false], [.int .i64 50, .int .i64 5080, .bool false], [.int .i64 30, .int .i64 5200, .bool true]]], [.str [115, 105, 100, 101], .ps .unk [[.int .i64 40, .int .i64 0, .bool false]]]], .ps .unk [[.str [119], .str [117, 112], .int .i64 120, .str [115, 105, 100, 101], .bool false]], .ps .unk [[.str [97, 114, 99, 104], .str [98, 114, 105, 100, 103, 101], .str [117, 112], .int .i64 130, .int .i64 150]]], .agg [.str [115, 105, 100, 101], .int .i64 5], .str [98, 114, 105, 100, 103, 101]], .tup [.str [97, 114, 99, 104], .int .i64 15, .int .i64 0]⟩
theorem ac19 : ∀ lo H, CallOk NC lo ak19.f ak19.args H ak19.v H := known_ok saneNC awh18 (fuel := 5000) (by kernel_rfl) (by kernel_rfl) (by kernel_rfl)
def aw19 : List Known := ak19 :: aw18
theorem awh19 : ∀ k ∈ aw19, ∀ lo H, CallOk NC lo k.f k.args H k.v H := fun k h => (List.mem_cons.1 h).elim (fun e => e ▸ ac19) (awh18 k)
def ak20 : Known := ⟨127, [.agg [.str [117, 112], .int .i64 0, .int .i64 100, .str [109, 97, 105, 110], .int .i64 20, .bool false]], .int .i64 0⟩
theorem ac20 : ∀ lo H, CallOk NC lo ak20.f ak20.args H ak20.v H := known_ok saneNC awh19 (fuel := 5000) (by kernel_rfl) (by kernel_rfl) (by kernel_rfl)
def aw20 : List Known := ak20 :: aw19
theorem awh20 : ∀ k ∈ aw20, ∀ lo H, CallOk NC lo k.f k.args H k.v H := fun k h => (List.mem_cons.1 h).elim (fun e => e ▸ ac20) (awh19 k)
def ak21 : Known := ⟨127, [.agg [.str [117, 112], .int .i64 100, .int .i64 50, .str [109, 97, 105, 110], .int .i64 200, .bool true]], .int .i64 0⟩
theorem ac21 : ∀ lo H, CallOk NC lo ak21.f ak21.args H ak21.v H := known_ok saneNC awh20 (fuel := 5000) (by kernel_rfl) (by kernel_rfl) (by kernel_rfl)
def aw21 : List Known := ak21 :: aw20
theorem awh21 : ∀ k ∈ aw21, ∀ lo H, CallOk NC lo k.f k.args H k.v H := fun k h => (List.mem_cons.1 h).elim (fun e => e ▸ ac21) (awh20 k)
def ak22 : Known := ⟨49, [.ps .unk [[.str [117, 112], .int .i64 0, .int .i64 100, .str [109, 97, 105, 110], .int .i64 20, .bool false], [.str [117, 112], .int .i64 100, .int .i64 50, .str [109, 97, 105, 110], .int .i64 200, .bool true]]], .int .i64 0⟩
theorem ac22 : ∀ lo H, CallOk NC lo ak22.f ak22.args H ak22.v H := known_ok saneNC awh21 (fuel := 5000) (by kernel_rfl) (by kernel_rfl) (by kernel_rfl)
def aw22 : List Known := ak22 :: aw21
theorem awh22 : ∀ k ∈ aw22, ∀ lo H, CallOk NC lo k.f k.args H k.v H := fun k h => (List.mem_cons.1 h).elim (fun e => e ▸ ac22) (awh21 k)
def ak23 : Known := ⟨42, [.ps .unk [[.str [117, 112], .int .i64 0, .int .i64 100, .str [109, 97, 105, 110], .int .i64 20, .bool false], [.str [117, 112], .int .i64 100, .int .i64 50, .str [109, 97, 105, 110], .int .i64 200, .bool true]], .agg [.str [117, 112], .int .i64 110]], .tup [.agg [.str [109, 97, 105, 110], .int .i64 239], .int .i64 0]⟩
theorem ac23 : ∀ lo H, CallOk NC lo ak23.f ak23.args H ak23.v H := known_ok saneNC awh22 (fuel := 5000) (by kernel_rfl) (by kernel_rfl) (by kernel_rfl)
def aw23 : List Known := ak23 :: aw22
theorem awh23 : ∀ k ∈ aw23, ∀ lo H, CallOk NC lo k.f k.args H k.v H := fun k h => (List.mem_cons.1 h).elim (fun e => e ▸ ac23) (awh22 k)
def ak24 : Known := ⟨54, [.ps .unk [[.str [117, 112], .int .i64 0, .int .i64 100, .str [109, 97, 105, 110], .int .i64 20, .bool false], [.str [117, 112], .int .i64 100, .int .i64 50, .str [109, 97, 105, 110], .int .i64 200, .bool true]]], .tup [.ps .unk [[.str [109, 97, 105, 110], .int .i64 20, .int .i64 100, .str [117, 112], .int .i64 0, .bool false], [.str [109, 97, 105, 110], .int .i64 200, .int .i64 50, .str [117, 112], .int .i64 100, .bool true]], .int .i64 0]⟩
theorem ac24 : ∀ lo H, CallOk NC lo ak24.f ak24.args H ak24.v H := known_ok saneNC awh23 (fuel := 5000) (by kernel_rfl) (by kernel_rfl) (by kernel_rfl)
def aw24 : List Known := ak24 :: aw23
theorem awh24 : ∀ k ∈ aw24, ∀ lo H, CallOk NC lo k.f k.args H k.v H := fun k h => (List.mem_cons.1 h).elim (fun e => e ▸ ac24) (awh23 k)
def ak25 : Known := ⟨127, [.agg [.str [109, 97, 105, 110], .int .i64 0, .int .i64 60, .str [111, 108, 100], .int .i64 500, .bool false]], .int .i64 0⟩
theorem ac25 : ∀ lo H, CallOk NC lo ak25.f ak25.args H ak25.v H := known_ok saneNC awh24 (fuel := 5000) (by kernel_rfl) (by kernel_rfl) (by kernel_rfl)
def aw25 : List Known := ak25 :: aw24
theorem awh25 : ∀ k ∈ aw25, ∀ lo H, CallOk NC lo k.f k.args H k.v H := fun k h => (List.mem_cons.1 h).elim (fun e => e ▸ ac25) (awh24 k)
def ak26 : Known := ⟨49, [.ps .unk [[.str [109, 97, 105, 110], .int .i64 0, .int .i64 60, .str [111, 108, 100], .int .i64 500, .bool false]]], .int .i64 0⟩
theorem ac26 : ∀ lo H, CallOk NC lo ak26.f ak26.args H ak26.v H := known_ok saneNC awh25 (fuel := 5000) (by kernel_rfl) (by kernel_rfl) (by kernel_rfl)
def aw26 : List Known := ak26 :: aw25
theorem awh26 : ∀ k ∈ aw26, ∀ lo H, CallOk NC lo k.f k.args H k.v H := fun k h => (List.mem_cons.1 h).elim (fun e => e ▸ ac26) (awh25 k)
def ak27 : Known := ⟨55, [.ps .unk [[.str [117, 112], .int .i64 0, .int .i64 100, .str [109, 97, 105, 110], .int .i64 20, .bool false], [.str [117, 112], .int .i64 100, .int .i64 50, .str [109, 97, 105, 110], .int .i64 200, .bool true]], .ps .unk [[.str [109, 97, 105, 110], .int .i64 0, .int .i64 60, .str [111, 108, 100], .int .i64 500, .bool false]]], .tup [.ps .unk [[.str [117, 112], .int .i64 0, .int .i64 40, .str [111, 108, 100], .int .i64 520, .bool false]], .int .i64 0]⟩
theorem ac27 : ∀ lo H, CallOk NC lo ak27.f ak27.args H ak27.v H := known_ok saneNC awh26 (fuel := 5000) (by kernel_rfl) (by kernel_rfl) (by kernel_rfl)
def aw27 : List Known := ak27 :: aw26
theorem awh27 : ∀ k ∈ aw27, ∀ lo H, CallOk NC lo k.f k.args H k.v H := fun k h => (List.mem_cons.1 h).elim (fun e => e ▸ ac27) (awh26 k)
def ak28 : Known := ⟨110, [.ps .unk [[.str [109, 97, 105, 110], .ps .unk [[.int .i64 300, .int .i64 1000, .bool false]]]]], .int .i64 0⟩
theorem ac28 : ∀ lo H, CallOk NC lo ak28.f ak28.args H ak28.v H := known_ok saneNC awh27 (fuel := 5000) (by kernel_rfl) (by kernel_rfl) (by kernel_rfl)
def aw28 : List Known := ak28 :: aw27
theorem awh28 : ∀ k ∈ aw28, ∀ lo H, CallOk NC lo k.f k.args H k.v H := fun k h => (List.mem_cons.1 h).elim (fun e => e ▸ ac28) (awh27 k)
def ak29 : Known := ⟨29, [.agg [.ps .unk [[.str [109, 97, 105, 110], .ps .unk [[.int .i64 300, .int .i64 1000, .bool false]]]], .ps .unk [], .ps .unk []]], .int .i64 0⟩
theorem ac29 : ∀ lo H, CallOk NC lo ak29.f ak29.args H ak29.v H := known_ok saneNC awh28 (fuel := 5000) (by kernel_rfl) (by kernel_rfl) (by kernel_rfl)
def aw29 : List Known := ak29 :: aw28
theorem awh29 : ∀ k ∈ aw29, ∀ lo H, CallOk NC lo k.f k.args H k.v H := fun k h => (List.mem_cons.1 h).elim (fun e => e ▸ ac29) (awh28 k)
def ak30 : Known := ⟨133, [.agg [.ps .unk [[.str [117, 112], .ps .unk [[.int .i64 100, .int .i64 5000, .bool false], [.int .i64 50, .int .i64 5080, .bool false], [.int .i64 30, .int .i64 5200, .bool true]]], [.str [115, 105, 100, 101], .ps .unk [[.int .i64 40, .int .i64 0, .bool false]]]], .ps .unk [[.str [119], .str [117, 112], .int .i64 120, .str [115, 105, 100, 101], .bool false]], .ps .unk [[.str [97, 114, 99, 104], .str [98, 114, 105, 100, 103, 101], .str [117, 112], .int .i64 130, .int .i64 150]]], .str [117, 112], .agg [.int .i64 0, .int .i64 100]], .int .i64 0⟩
theorem ac30 : ∀ lo H, CallOk NC lo ak30.f ak30.args H ak30.v H := known_ok saneNC awh29 (fuel := 5000) (by kernel_rfl) (by kernel_rfl) (by kernel_rfl)
def aw30 : List Known := ak30 :: aw29
theorem awh30 : ∀ k ∈ aw30, ∀ lo H, CallOk NC lo k.f k.args H k.v H := fun k h => (List.mem_cons.1 h).elim (fun e => e ▸ ac30) (awh29 k)
def ak31 : Known := ⟨133, [.agg [.ps .unk [[.str [117, 112], .ps .unk [[.int .i64 100, .int .i64 5000, .bool false], [.int .i64 50, .int .i64 5080, .bool false], [.int .i64 30, .int .i64 5200, .bool true]]], [.str [115, 105, 100, 101], .ps .unk [[.int .i64 40, .int .i64 0, .bool false]]]], .ps .unk [[.str [119], .str [117, 112], .int .i64 120, .str [115, 105, 100, 101], .bool false]], .ps .unk [[.str [97, 114, 99, 104], .str [98, 114, 105, 100, 103, 101], .str [117, 112], .int .i64 130, .int .i64 150]]], .str [117, 112], .agg [.int .i64 100, .int .i64 150]], .int .i64 0⟩
theorem ac31 : ∀ lo H, CallOk NC lo ak31.f ak31.args H ak31.v H := known_ok saneNC awh30 (fuel := 5000) (by kernel_rfl) (by kernel_rfl) (by kernel_rfl)
def aw31 : List Known := ak31 :: aw30
theorem awh31 : ∀ k ∈ aw31, ∀ lo H, CallOk NC lo k.f k.args H k.v H := fun k h => (List.mem_cons.1 h).elim (fun e => e ▸ ac31) (awh30 k)
def ak32 : Known := ⟨50, [.ps .unk [[.str [117, 112], .int .i64 0, .int .i64 100, .str [109, 97, 105, 110], .int .i64 20, .bool false], [.str [117, 112], .int .i64 100, .int .i64 50, .str [109, 97, 105, 110], .int .i64 200, .bool true]], .agg [.ps .unk [[.str [117, 112], .ps .unk [[.int .i64 100, .int .i64 5000, .bool false], [.int .i64 50, .int .i64 5080, .bool false], [.int .i64 30, .int .i64 5200, .bool true]]], [.str [115, 105, 100, 101], .ps .unk [[.int .i64 40, .int .i64 0, .bool false]]]], .ps .unk [[.str [119], .str [117, 112], .int .i64 120, .str [115, 105, 100, 101], .bool false]], .ps .unk [[.str [97, 114, 99, 104], .str [98, 114, 105, 100, 103, 101], .str [117, 112], .int .i64 130, .int .i64 150]]], .agg [.ps .unk [[.str [109, 97, 105, 110], .ps .unk [[.int .i64 300, .int .i64 1000, .bool false]]]], .ps .unk [], .ps .unk []]], .int .i64 0⟩
theorem ac32 : ∀ lo H, CallOk NC lo ak32.f ak32.args H ak32.v H := known_ok saneNC awh31 (fuel := 5000) (by kernel_rfl) (by kernel_rfl) (by kernel_rfl)
def aw32 : List Known := ak32 :: aw31
theorem awh32 : ∀ k ∈ aw32, ∀ lo H, CallOk NC lo k.f k.args H k.v H := fun k h => (List.mem_cons.1 h).elim (fun e => e ▸ ac32) (awh31 k)
def ak33 : Known := ⟨69, [.ps .unk [[.int .i64 10, .ps .unk [[.str [117, 112], .ps .unk [[.int .i64 100, .int .i64 5000, .bool false], [.int .i64 50, .int .i64 5080, .bool false], [.int .i64 30, .int .i64 5200, .bool true]]], [.str [115, 105, 100, 101], .ps .unk [[.int .i64 40, .int .i64 0, .bool false]]]], .ps .unk [[.str [119], .str [117, 112], .int .i64 120, .str [115, 105, 100, 101], .bool false]], .ps .unk [[.str [97, 114, 99, 104], .str [98, 114, 105, 100, 103, 101], .str [117, 112], .int .i64 130, .int .i64 150]], .ps .unk []], [.int .i64 20, .ps .unk [[.str [109, 97, 105, 110], .ps .unk [[.int .i64 300, .int .i64 1000, .bool false]]]], .ps .unk [], .ps .unk [], .ps .unk [[.str [117, 112], .int .i64 0, .int .i64 100, .str [109, 97, 105, 110], .int .i64 20, .bool false], [.str [117, 112], .int .i64 100, .int .i64 50, .str [109, 97, 105, 110], .int .i64 200, .bool true]]]]], .int .i64 0⟩
theorem ac33 : ∀ lo H, CallOk NC lo ak33.f ak33.args H ak33.v H := known_ok saneNC awh32 (fuel := 5000) (by kernel_rfl) (by kernel_rfl) (by kernel_rfl)
def aw33 : List Known := ak33 :: aw32
theorem awh33 : ∀ k ∈ aw33, ∀ lo H, CallOk NC lo k.f k.args H k.v H := fun k h => (List.mem_cons.1 h).elim (fun e => e ▸ ac33) (awh32 k)
def ak34 : Known := ⟨65, [.ps .unk [[.int .i64 10, .ps .unk [[.str [117, 112], .ps .unk [[.int .i64 100, .int .i64 5000, .bool false], [.int .i64 50, .int .i64 5080, .bool false], [.int .i64 30, .int .i64 5200, .bool true]]], [.str [115, 105, 100, 101], .ps .unk [[.int .i64 40, .int .i64 0, .bool false]]]], .ps .unk [[.str [119], .str [117, 112], .int .i64 120, .str [115, 105, 100, 101], .bool false]], .ps .unk [[.str [97, 114, 99, 104], .str [98, 114, 105, 100, 103, 101], .str [117, 112], .int .i64 130, .int .i64 150]], .ps .unk []], [.int .i64 20, .ps .unk [[.str [109, 97, 105, 110], .ps .unk [[.int .i64 300, .int .i64 1000, .bool false]]]], .ps .unk [], .ps .unk [], .ps .unk [[.str [117, 112], .int .i64 0, .int .i64 100, .str [109, 97, 105, 110], .int .i64 20, .bool false], [.str [117, 112], .int .i64 100, .int .i64 50, .str [109, 97, 105, 110], .int .i64 200, .bool true]]]], .int .i64 15, .agg [.str [117, 112], .int .i64 1, .int .i64 5090], .int .i64 25], .tup [.agg [.str [109, 97, 105, 110], .int .i64 0, .int .i64 1239], .int .i64 0]⟩
theorem ac34 : ∀ lo H, CallOk NC lo ak34.f ak34.args H ak34.v H := known_ok saneNC awh33 (fuel := 5000) (by kernel_rfl) (by kernel_rfl) (by kernel_rfl)
def aw34 : List Known := ak34 :: aw33
theorem awh34 : ∀ k ∈ aw34, ∀ lo H, CallOk NC lo k.f k.args H k.v H := fun k h => (List.mem_cons.1 h).elim (fun e => e ▸ ac34) (awh33 k)
def ak35 : Known := ⟨65, [.ps .unk [[.int .i64 10, .ps .unk [[.str [117, 112], .ps .unk [[.int .i64 100, .int .i64 5000, .bool false], [.int .i64 50, .int .i64 5080, .bool false], [.int .i64 30, .int .i64 5200, .bool true]]], [.str [115, 105, 100, 101], .ps .unk [[.int .i64 40, .int .i64 0, .bool false]]]], .ps .unk [[.str [119], .str [117, 112], .int .i64 120, .str [115, 105, 100, 101], .bool false]], .ps .unk [[.str [97, 114, 99, 104], .str [98, 114, 105, 100, 103, 101], .str [117, 112], .int .i64 130, .int .i64 150]], .ps .unk []], [.int .i64 20, .ps .unk [[.str [109, 97, 105, 110], .ps .unk [[.int .i64 300, .int .i64 1000, .bool false]]]], .ps .unk [], .ps .unk [], .ps .unk [[.str [117, 112], .int .i64 0, .int .i64 100, .str [109, 97, 105, 110], .int .i64 20, .bool false], [.str [117, 112], .int .i64 100, .int .i64 50, .str [109, 97, 105, 110], .int .i64 200, .bool true]]]], .int .i64 25, .agg [.str [109, 97, 105, 110], .int .i64 0, .int .i64 1239], .int .i64 10], .tup [.agg [.str [117, 112], .int .i64 1, .int .i64 5090], .int .i64 0]⟩
theorem ac35 : ∀ lo H, CallOk NC lo ak35.f ak35.args H ak35.v H := known_ok saneNC awh34 (fuel := 5000) (by kernel_rfl) (by kernel_rfl) (by kernel_rfl)
def aw35 : List Known := ak35 :: aw34
theorem awh35 : ∀ k ∈ aw35, ∀ lo H, CallOk NC lo k.f k.args H k.v H := fun k h => (List.mem_cons.1 h).elim (fun e => e ▸ ac35) (awh34 k)
def ak36 : Known := ⟨102, [.agg [.ps .unk [[.str [117, 112], .ps .unk [[.int .i64 100, .int .i64 5000, .bool false], [.int .i64 50, .int .i64 5080, .bool false], [.int .i64 30, .int .i64 5200, .bool true]]], [.str [115, 105, 100, 101], .ps .unk [[.int .i64 40, .int .i64 0, .bool false]]]], .ps .unk [[.str [119], .str [117, 112], .int .i64 120, .str [115, 105, 100, 101], .bool false]], .ps .unk [[.str [97, 114, 99, 104], .str [98, 114, 105, 100, 103, 101], .str [117, 112], .int .i64 130, .int .i64 150]]], .agg [.str [117, 112], .int .i64 2, .int .i64 5171]], .tup [.agg [.str [117, 112], .int .i64 179], .int .i64 0]⟩
theorem ac36 : ∀ lo H, CallOk NC lo ak36.f ak36.args H ak36.v H := known_ok saneNC awh35 (fuel := 5000) (by kernel_rfl) (by kernel_rfl) (by kernel_rfl)
def aw36 : List Known := ak36 :: aw35
theorem awh36 : ∀ k ∈ aw36, ∀ lo H, CallOk NC lo k.f k.args H k.v H := fun k h => (List.mem_cons.1 h).elim (fun e => e ▸ ac36) (awh35 k)
def ak37 : Known := ⟨65, [.ps .unk [[.int .i64 10, .ps .unk [[.str [117, 112], .ps .unk [[.int .i64 100, .int .i64 5000, .bool false], [.int .i64 50, .int .i64 5080, .bool false], [.int .i64 30, .int .i64 5200, .bool true]]], [.str [115, 105, 100, 101], .ps .unk [[.int .i64 40, .int .i64 0, .bool false]]]], .ps .unk [[.str [119], .str [117, 112], .int .i64 120, .str [115, 105, 100, 101], .bool false]], .ps .unk [[.str [97, 114, 99, 104], .str [98, 114, 105, 100, 103, 101], .str [117, 112], .int .i64 130, .int .i64 150]], .ps .unk []], [.int .i64 20, .ps .unk [[.str [109, 97, 105, 110], .ps .unk [[.int .i64 300, .int .i64 1000, .bool false]]]], .ps .unk [], .ps .unk [], .ps .unk [[.str [117, 112], .int .i64 0, .int .i64 100, .str [109, 97, 105, 110], .int .i64 20, .bool false], [.str [117, 112], .int .i64 100, .int .i64 50, .str [109, 97, 105, 110], .int .i64 200, .bool true]]]], .int .i64 15, .agg [.str [117, 112], .int .i64 2, .int .i64 5171], .int .i64 25], .tup [.agg [.str [], .int .i64 0, .int .i64 0], .int .i64 7]⟩
theorem ac37 : ∀ lo H, CallOk NC lo ak37.f ak37.args H ak37.v H := known_ok saneNC awh36 (fuel := 5000) (by kernel_rfl) (by kernel_rfl) (by kernel_rfl)
def aw37 : List Known := ak37 :: aw36
theorem awh37 : ∀ k ∈ aw37, ∀ lo H, CallOk NC lo k.f k.args H k.v H := fun k h => (List.mem_cons.1 h).elim (fun e => e ▸ ac37) (awh36 k)
def ak38 : Known := ⟨87, [.agg [.ps .unk [[.str [117, 112], .ps .unk [[.int .i64 100, .int .i64 5000, .bool false], [.int .i64 50, .int .i64 5080, .bool false], [.int .i64 30, .int .i64 5200, .bool true]]], [.str [115, 105, 100, 101], .ps .unk [[.int .i64 40, .int .i64 0, .bool false]]]], .ps .unk [[.str [119], .str [117, 112], .int .i64 120, .str [115, 105, 100, 101], .bool false]], .ps .unk [[.str [97, 114, 99, 104], .str [98, 114, 105, 100, 103, 101], .str [117, 112], .int .i64 130, .int .i64 150]]]], .tup [.str [108, 105, 110, 101, 32, 117, 112, 10, 112, 105, 101, 99, 101, 32, 49, 48, 48, 32, 53, 48, 48, 48, 32, 117, 112, 10, 112, 105, 101, 99, 101, 32, 53, 48, 32, 53, 48, 56, 48, 32, 117, 112, 10, 112, 105, 101, 99, 101, 32, 51, 48, 32, 53, 50, 48, 48, 32, 100, 111, 119, 110, 10, 108, 105, 110, 101, 32, 115, 105, 100, 101, 10, 112, 105, 101, 99, 101, 32, 52, 48, 32, 48, 32, 117, 112, 10, 115, 119, 105, 116, 99, 104, 32, 119, 32, 117, 112, 32, 49, 50, 48, 32, 115, 105, 100, 101, 32, 102, 105, 114, 115, 116, 10, 115, 116, 114, 117, 99, 116, 117, 114, 101, 32, 97, 114, 99, 104, 32, 98, 114, 105, 100, 103, 101, 32, 117, 112, 32, 49, 51, 48, 32, 49, 53, 48, 10], .int .i64 0]⟩
theorem ac38 : ∀ lo H, CallOk NC lo ak38.f ak38.args H ak38.v H := known_ok saneNC awh37 (fuel := 5000) (by kernel_rfl) (by kernel_rfl) (by kernel_rfl)
def aw38 : List Known := ak38 :: aw37
theorem awh38 : ∀ k ∈ aw38, ∀ lo H, CallOk NC lo k.f k.args H k.v H := fun k h => (List.mem_cons.1 h).elim (fun e => e ▸ ac38) (awh37 k)
def ak39 : Known := ⟨16, [], .bool true⟩
theorem ac39 : ∀ lo H, CallOk NC lo ak39.f ak39.args H ak39.v H := known_ok saneNC awh38 (fuel := 5000) (by kernel_rfl) (by kernel_rfl) (by kernel_rfl)
end Go.Sim

/-
The law: NetworkPlaces returns true.
-/
namespace Go.Sim
open Go Go.Proofs
set_option maxRecDepth 100000
set_option maxHeartbeats 16000000
noncomputable def p16 : List AV → Option AV := fun l => match l with
  | [] => some (.bool true)
  | _ => none
theorem pok16 : ∀ args v, p16 args = some v → ∀ lo H, CallOk NC lo 16 args H v H := by
  intro args v h
  cases args with
  | nil =>
    have : v = .bool true := by simpa [p16] using h.symm
    subst this
    exact ac39
  | cons a r => simp [p16] at h
theorem e16 : p16 [] = some (.bool true) := rfl
noncomputable def p17 : List AV → Option AV := primOf (α := Net) (fun x => [.agg x.cells]) (fun _ => True) (fun x => .bool (shortN x))
theorem pok17 : ∀ args v, p17 args = some v → ∀ lo H, CallOk NC lo 17 args H v H := by
  intro args v h
  obtain ⟨x, rfl, hp, rfl⟩ := primOf_inv h
  clear h
  revert x
  intro x; exact c17 x
theorem pe17 (x : Net) (hp : (fun _ => True) x) : p17 ((fun x => [.agg x.cells]) x) = some ((fun x => .bool (shortN x)) x) := primOf_enc (by intro x y h; exact cells1_inj x y h) x hp
noncomputable def p18 : List AV → Option AV := primOf (α := Net × List Nat) (fun x => [.agg x.1.cells, .str x.2]) (fun x => x.1.Ok) (fun x => .tup (if netP x.1 = 0 then (if lnB x.1.lines x.2 then [i64 (sumW (lnOf x.1.lines x.2).ps 0), i64 0] else [i64 0, i64 10]) else [i64 0, i64 (netP x.1)]))
theorem pok18 : ∀ args v, p18 args = some v → ∀ lo H, CallOk NC lo 18 args H v H := by
  intro args v h
  obtain ⟨x, rfl, hp, rfl⟩ := primOf_inv h
  clear h
  revert x
  intro x hx; exact c18 x.1 x.2 hx
theorem pe18 (x : Net × List Nat) (hp : (fun x => x.1.Ok) x) : p18 ((fun x => [.agg x.1.cells, .str x.2]) x) = some ((fun x => .tup (if netP x.1 = 0 then (if lnB x.1.lines x.2 then [i64 (sumW (lnOf x.1.lines x.2).ps 0), i64 0] else [i64 0, i64 10]) else [i64 0, i64 (netP x.1)])) x) := primOf_enc (by intro x y h; (obtain ⟨a, b⟩ := x; obtain ⟨c, d⟩ := y; simp only [List.cons.injEq, AV.agg.injEq, AV.str.injEq, true_and, and_true] at h; obtain ⟨h1, rfl⟩ := h; rw [Net.cells_inj _ _ h1])) x hp
noncomputable def p19 : List AV → Option AV := primOf (α := Net) (fun x => [.agg x.cells]) (fun x => x.fits ∧ x.sws.length ≤ maxRows ∧ x.sts.length ≤ maxRows) (fun x => .agg x.cells)
theorem pok19 : ∀ args v, p19 args = some v → ∀ lo H, CallOk NC lo 19 args H v H := by
  intro args v h
  obtain ⟨x, rfl, hp, rfl⟩ := primOf_inv h
  clear h
  revert x
  intro x hx; exact c19 x hx.1 hx.2.1 hx.2.2
theorem pe19 (x : Net) (hp : (fun x => x.fits ∧ x.sws.length ≤ maxRows ∧ x.sts.length ≤ maxRows) x) : p19 ((fun x => [.agg x.cells]) x) = some ((fun x => .agg x.cells) x) := primOf_enc (by intro x y h; exact cells1_inj x y h) x hp
noncomputable def p20 : List AV → Option AV := primOf (α := Net × List Nat × Int) (fun x => [.agg x.1.cells, .agg [.str x.2.1, i64 x.2.2]]) (fun x => x.1.Ok) (fun x => .tup (if netP x.1 = 0 then (if placeP x.1 x.2.1 x.2.2 = 0 then [.agg [.str x.2.1, i64 (addrK (lnOf x.1.lines x.2.1) x.2.2 (lnOf x.1.lines x.2.1).ps.length).1, i64 (addrK (lnOf x.1.lines x.2.1) x.2.2 (lnOf x.1.lines x.2.1).ps.length).2], i64 0] else [noAddr, i64 (placeP x.1 x.2.1 x.2.2)]) else [noAddr, i64 (netP x.1)]))
theorem pok20 : ∀ args v, p20 args = some v → ∀ lo H, CallOk NC lo 20 args H v H := by
  intro args v h
  obtain ⟨x, rfl, hp, rfl⟩ := primOf_inv h
  clear h
  revert x
  intro x hx; exact c20 x.1 x.2.1 x.2.2 hx
theorem pe20 (x : Net × List Nat × Int) (hp : (fun x => x.1.Ok) x) : p20 ((fun x => [.agg x.1.cells, .agg [.str x.2.1, i64 x.2.2]]) x) = some ((fun x => .tup (if netP x.1 = 0 then (if placeP x.1 x.2.1 x.2.2 = 0 then [.agg [.str x.2.1, i64 (addrK (lnOf x.1.lines x.2.1) x.2.2 (lnOf x.1.lines x.2.1).ps.length).1, i64 (addrK (lnOf x.1.lines x.2.1) x.2.2 (lnOf x.1.lines x.2.1).ps.length).2], i64 0] else [noAddr, i64 (placeP x.1 x.2.1 x.2.2)]) else [noAddr, i64 (netP x.1)])) x) := primOf_enc (by intro x y h; (obtain ⟨a, b, c⟩ := x; obtain ⟨d, e, f⟩ := y; simp only [List.cons.injEq, AV.agg.injEq, AV.str.injEq, AV.int.injEq, true_and, and_true] at h; obtain ⟨h1, rfl, rfl⟩ := h; rw [Net.cells_inj _ _ h1])) x hp
noncomputable def p21 : List AV → Option AV := primOf (α := Net × List Nat × Int × Int) (fun x => [.agg x.1.cells, .agg [.str x.2.1, i64 x.2.2.1, i64 x.2.2.2]]) (fun x => x.1.Ok) (fun x => .tup (if netP x.1 = 0 then placedP x.1 x.2.1 x.2.2.1 x.2.2.2 else [noPlace, i64 (netP x.1)]))
theorem pok21 : ∀ args v, p21 args = some v → ∀ lo H, CallOk NC lo 21 args H v H := by
  intro args v h
  obtain ⟨x, rfl, hp, rfl⟩ := primOf_inv h
  clear h
  revert x
  intro x hx; exact c21 x.1 x.2.1 x.2.2.1 x.2.2.2 hx
theorem pe21 (x : Net × List Nat × Int × Int) (hp : (fun x => x.1.Ok) x) : p21 ((fun x => [.agg x.1.cells, .agg [.str x.2.1, i64 x.2.2.1, i64 x.2.2.2]]) x) = some ((fun x => .tup (if netP x.1 = 0 then placedP x.1 x.2.1 x.2.2.1 x.2.2.2 else [noPlace, i64 (netP x.1)])) x) := primOf_enc (by intro x y h; (obtain ⟨a, b, c, d⟩ := x; obtain ⟨a', b', c', d'⟩ := y; simp only [List.cons.injEq, AV.agg.injEq, AV.str.injEq, AV.int.injEq, true_and, and_true] at h; obtain ⟨h1, rfl, rfl, rfl⟩ := h; rw [Net.cells_inj _ _ h1])) x hp
noncomputable def p22 : List AV → Option AV := primOf (α := Net) (fun x => [.agg x.cells]) (fun x => x.fits ∧ x.sws.length ≤ maxRows ∧ x.sts.length ≤ maxRows) (fun x => i64 (netR x))
theorem pok22 : ∀ args v, p22 args = some v → ∀ lo H, CallOk NC lo 22 args H v H := by
  intro args v h
  obtain ⟨x, rfl, hp, rfl⟩ := primOf_inv h
  clear h
  revert x
  intro x hx; exact c22 x hx.1 hx.2.1 hx.2.2
theorem pe22 (x : Net) (hp : (fun x => x.fits ∧ x.sws.length ≤ maxRows ∧ x.sts.length ≤ maxRows) x) : p22 ((fun x => [.agg x.cells]) x) = some ((fun x => i64 (netR x)) x) := primOf_enc (by intro x y h; exact cells1_inj x y h) x hp
noncomputable def p23 : List AV → Option AV := primOf (α := Net × List Nat) (fun x => [.agg x.1.cells, .str x.2]) (fun x => x.1.fits) (fun x => i64 (lineI x.1.lines x.2))
theorem pok23 : ∀ args v, p23 args = some v → ∀ lo H, CallOk NC lo 23 args H v H := by
  intro args v h
  obtain ⟨x, rfl, hp, rfl⟩ := primOf_inv h
  clear h
  revert x
  intro x hx; exact c23 x.1 x.2 hx
theorem pe23 (x : Net × List Nat) (hp : (fun x => x.1.fits) x) : p23 ((fun x => [.agg x.1.cells, .str x.2]) x) = some ((fun x => i64 (lineI x.1.lines x.2)) x) := primOf_enc (by intro x y h; (obtain ⟨a, b⟩ := x; obtain ⟨c, d⟩ := y; simp only [List.cons.injEq, AV.agg.injEq, AV.str.injEq, true_and, and_true] at h; obtain ⟨h1, rfl⟩ := h; rw [Net.cells_inj _ _ h1])) x hp
noncomputable def p24 : List AV → Option AV := primOf (α := Net × List Nat × Int) (fun x => [.agg x.1.cells, .agg [.str x.2.1, i64 x.2.2]]) (fun x => x.1.fits) (fun x => i64 (hasI x.1.lines x.2.1 x.2.2))
theorem pok24 : ∀ args v, p24 args = some v → ∀ lo H, CallOk NC lo 24 args H v H := by
  intro args v h
  obtain ⟨x, rfl, hp, rfl⟩ := primOf_inv h
  clear h
  revert x
  intro x hx; exact c24 x.1 x.2.1 x.2.2 hx
theorem pe24 (x : Net × List Nat × Int) (hp : (fun x => x.1.fits) x) : p24 ((fun x => [.agg x.1.cells, .agg [.str x.2.1, i64 x.2.2]]) x) = some ((fun x => i64 (hasI x.1.lines x.2.1 x.2.2)) x) := primOf_enc (by intro x y h; (obtain ⟨a, b, c⟩ := x; obtain ⟨d, e, f⟩ := y; simp only [List.cons.injEq, AV.agg.injEq, AV.str.injEq, AV.int.injEq, true_and, and_true] at h; obtain ⟨h1, rfl, rfl⟩ := h; rw [Net.cells_inj _ _ h1])) x hp
noncomputable def p25 : List AV → Option AV := primOf (α := Net × List Nat × Int × Int) (fun x => [.agg x.1.cells, .agg [.str x.2.1, i64 x.2.2.1, i64 x.2.2.2]]) (fun x => x.1.fits) (fun x => .tup (placedR x.1 x.2.1 x.2.2.1 x.2.2.2))
theorem pok25 : ∀ args v, p25 args = some v → ∀ lo H, CallOk NC lo 25 args H v H := by
  intro args v h
  obtain ⟨x, rfl, hp, rfl⟩ := primOf_inv h
  clear h
  revert x
  intro x hx; exact c25 x.1 x.2.1 x.2.2.1 x.2.2.2 hx
theorem pe25 (x : Net × List Nat × Int × Int) (hp : (fun x => x.1.fits) x) : p25 ((fun x => [.agg x.1.cells, .agg [.str x.2.1, i64 x.2.2.1, i64 x.2.2.2]]) x) = some ((fun x => .tup (placedR x.1 x.2.1 x.2.2.1 x.2.2.2)) x) := primOf_enc (by intro x y h; (obtain ⟨a, b, c, d⟩ := x; obtain ⟨a', b', c', d'⟩ := y; simp only [List.cons.injEq, AV.agg.injEq, AV.str.injEq, AV.int.injEq, true_and, and_true] at h; obtain ⟨h1, rfl, rfl, rfl⟩ := h; rw [Net.cells_inj _ _ h1])) x hp
noncomputable def p28 : List AV → Option AV := primOf (α := Net × List Nat × Int) (fun x => [.agg x.1.cells, .agg [.str x.2.1, i64 x.2.2]]) (fun x => (x.1.fits ∧ ∃ i, findL x.1.lines x.2.1 = some i)) (fun x => addrR (lnOf x.1.lines x.2.1) x.2.1 x.2.2)
theorem pok28 : ∀ args v, p28 args = some v → ∀ lo H, CallOk NC lo 28 args H v H := by
  intro args v h
  obtain ⟨x, rfl, hp, rfl⟩ := primOf_inv h
  clear h
  revert x
  (intro x hx; obtain ⟨i, hi⟩ := hx.2; exact c28 x.1 x.2.1 x.2.2 hx.1 hi)
theorem pe28 (x : Net × List Nat × Int) (hp : (fun x => (x.1.fits ∧ ∃ i, findL x.1.lines x.2.1 = some i)) x) : p28 ((fun x => [.agg x.1.cells, .agg [.str x.2.1, i64 x.2.2]]) x) = some ((fun x => addrR (lnOf x.1.lines x.2.1) x.2.1 x.2.2) x) := primOf_enc (by intro x y h; (obtain ⟨a, b, c⟩ := x; obtain ⟨d, e, f⟩ := y; simp only [List.cons.injEq, AV.agg.injEq, AV.str.injEq, AV.int.injEq, true_and, and_true] at h; obtain ⟨h1, rfl, rfl⟩ := h; rw [Net.cells_inj _ _ h1])) x hp
noncomputable def p30 : List AV → Option AV := primOf (α := Int × Int × Int × Int) (fun x => [i64 x.1, i64 x.2.1, i64 x.2.2.1, i64 x.2.2.2]) (fun _ => True) (fun x => .bool (numB x.1 x.2.1 x.2.2.1 x.2.2.2))
theorem pok30 : ∀ args v, p30 args = some v → ∀ lo H, CallOk NC lo 30 args H v H := by
  intro args v h
  obtain ⟨x, rfl, hp, rfl⟩ := primOf_inv h
  clear h
  revert x
  intro x; exact c30 x.1 x.2.1 x.2.2.1 x.2.2.2
theorem pe30 (x : Int × Int × Int × Int) (hp : (fun _ => True) x) : p30 ((fun x => [i64 x.1, i64 x.2.1, i64 x.2.2.1, i64 x.2.2.2]) x) = some ((fun x => .bool (numB x.1 x.2.1 x.2.2.1 x.2.2.2)) x) := primOf_enc (by intro x y h; (obtain ⟨a, b, c, d⟩ := x; obtain ⟨a', b', c', d'⟩ := y; simp at h; obtain ⟨rfl, rfl, rfl, rfl⟩ := h; rfl)) x hp
theorem e30 (a b c d : Int) : p30 [.int .i64 a, .int .i64 b, .int .i64 c, .int .i64 d] = some (.bool (numB a b c d)) := pe30 (a, b, c, d) trivial
noncomputable def PPO : FuncId → Option (List AV → Option AV) := addPrim 30 p30 (addPrim 28 p28 (addPrim 25 p25 (addPrim 24 p24 (addPrim 23 p23 (addPrim 22 p22 (addPrim 21 p21 (addPrim 20 p20 (addPrim 19 p19 (addPrim 18 p18 (addPrim 17 p17 (addPrim 16 p16 (PPN))))))))))))
theorem primsO : PrimsOk NC PPO := primsOk_add (primsOk_add (primsOk_add (primsOk_add (primsOk_add (primsOk_add (primsOk_add (primsOk_add (primsOk_add (primsOk_add (primsOk_add (primsOk_add (primsN) (by kernel_rfl) (by kernel_rfl) pok16) (by kernel_rfl) (by kernel_rfl) pok17) (by kernel_rfl) (by kernel_rfl) pok18) (by kernel_rfl) (by kernel_rfl) pok19) (by kernel_rfl) (by kernel_rfl) pok20) (by kernel_rfl) (by kernel_rfl) pok21) (by kernel_rfl) (by kernel_rfl) pok22) (by kernel_rfl) (by kernel_rfl) pok23) (by kernel_rfl) (by kernel_rfl) pok24) (by kernel_rfl) (by kernel_rfl) pok25) (by kernel_rfl) (by kernel_rfl) pok28) (by kernel_rfl) (by kernel_rfl) pok30
theorem enO_48 : En PPO 48 p48 := enter_prim (by rfl) (by kernel_rfl)
theorem enO_121 : En PPO 121 p121 := enter_prim (by rfl) (by kernel_rfl)
theorem enO_34 : En PPO 34 p34 := enter_prim (by rfl) (by kernel_rfl)
theorem enO_111 : En PPO 111 p111 := enter_prim (by rfl) (by kernel_rfl)
theorem enO_26 : En PPO 26 p26 := enter_prim (by rfl) (by kernel_rfl)
theorem enO_178 : En PPO 178 p178 := enter_prim (by rfl) (by kernel_rfl)
theorem enO_109 : En PPO 109 p109 := enter_prim (by rfl) (by kernel_rfl)
theorem enO_108 : En PPO 108 p108 := enter_prim (by rfl) (by kernel_rfl)
theorem enO_27 : En PPO 27 p27 := enter_prim (by rfl) (by kernel_rfl)
theorem enO_97 : En PPO 97 p97 := enter_prim (by rfl) (by kernel_rfl)
theorem enO_122 : En PPO 122 p122 := enter_prim (by rfl) (by kernel_rfl)
theorem enO_182 : En PPO 182 p182 := enter_prim (by rfl) (by kernel_rfl)
theorem enO_35 : En PPO 35 p35 := enter_prim (by rfl) (by kernel_rfl)
theorem enO_115 : En PPO 115 p115 := enter_prim (by rfl) (by kernel_rfl)
theorem enO_36 : En PPO 36 p36 := enter_prim (by rfl) (by kernel_rfl)
theorem enO_120 : En PPO 120 p120 := enter_prim (by rfl) (by kernel_rfl)
theorem enO_106 : En PPO 106 p106 := enter_prim (by rfl) (by kernel_rfl)
theorem enO_179 : En PPO 179 p179 := enter_prim (by rfl) (by kernel_rfl)
theorem enO_126 : En PPO 126 p126 := enter_prim (by rfl) (by kernel_rfl)
theorem enO_103 : En PPO 103 p103 := enter_prim (by rfl) (by kernel_rfl)
theorem enO_104 : En PPO 104 p104 := enter_prim (by rfl) (by kernel_rfl)
theorem enO_105 : En PPO 105 p105 := enter_prim (by rfl) (by kernel_rfl)
theorem enO_99 : En PPO 99 p99 := enter_prim (by rfl) (by kernel_rfl)
theorem enO_226 : En PPO 226 p226 := enter_prim (by rfl) (by kernel_rfl)
theorem enO_134 : En PPO 134 p134 := enter_prim (by rfl) (by kernel_rfl)
theorem enO_177 : En PPO 177 p177 := enter_prim (by rfl) (by kernel_rfl)
theorem enO_180 : En PPO 180 p180 := enter_prim (by rfl) (by kernel_rfl)
theorem enO_98 : En PPO 98 p98 := enter_prim (by rfl) (by kernel_rfl)
theorem enO_181 : En PPO 181 p181 := enter_prim (by rfl) (by kernel_rfl)
theorem enO_183 : En PPO 183 p183 := enter_prim (by rfl) (by kernel_rfl)
theorem enO_110 : En PPO 110 p110 := enter_prim (by rfl) (by kernel_rfl)
theorem enO_112 : En PPO 112 p112 := enter_prim (by rfl) (by kernel_rfl)
theorem enO_113 : En PPO 113 p113 := enter_prim (by rfl) (by kernel_rfl)
theorem enO_29 : En PPO 29 p29 := enter_prim (by rfl) (by kernel_rfl)
theorem enO_100 : En PPO 100 p100 := enter_prim (by rfl) (by kernel_rfl)
theorem enO_101 : En PPO 101 p101 := enter_prim (by rfl) (by kernel_rfl)
theorem enO_102 : En PPO 102 p102 := enter_prim (by rfl) (by kernel_rfl)
theorem enO_107 : En PPO 107 p107 := enter_prim (by rfl) (by kernel_rfl)
theorem enO_16 : En PPO 16 p16 := enter_prim (by rfl) (by kernel_rfl)
theorem enO_17 : En PPO 17 p17 := enter_prim (by rfl) (by kernel_rfl)
theorem enO_18 : En PPO 18 p18 := enter_prim (by rfl) (by kernel_rfl)
theorem enO_19 : En PPO 19 p19 := enter_prim (by rfl) (by kernel_rfl)
theorem enO_20 : En PPO 20 p20 := enter_prim (by rfl) (by kernel_rfl)
theorem enO_21 : En PPO 21 p21 := enter_prim (by rfl) (by kernel_rfl)
theorem enO_22 : En PPO 22 p22 := enter_prim (by rfl) (by kernel_rfl)
theorem enO_23 : En PPO 23 p23 := enter_prim (by rfl) (by kernel_rfl)
theorem enO_24 : En PPO 24 p24 := enter_prim (by rfl) (by kernel_rfl)
theorem enO_25 : En PPO 25 p25 := enter_prim (by rfl) (by kernel_rfl)
theorem enO_28 : En PPO 28 p28 := enter_prim (by rfl) (by kernel_rfl)
theorem enO_30 : En PPO 30 p30 := enter_prim (by rfl) (by kernel_rfl)
attribute [go_sem ↓] enO_48 enO_121 enO_34 enO_111 enO_26 enO_178 enO_109 enO_108 enO_27 enO_97 enO_122 enO_182
attribute [go_sem ↓] enO_35 enO_115 enO_36 enO_120 enO_106 enO_179 enO_126 enO_103 enO_104 enO_105 enO_99 enO_226
attribute [go_sem ↓] enO_134 enO_177 enO_180 enO_98 enO_181 enO_183 enO_110 enO_112 enO_113 enO_29 enO_100 enO_101
attribute [go_sem ↓] enO_102 enO_107 enO_16 enO_17 enO_18 enO_19 enO_20 enO_21 enO_22 enO_23 enO_24 enO_25
attribute [go_sem ↓] enO_28 enO_30
theorem ety30 : eqType NC.P 100 30 = true := by kernel_rfl
theorem ety28 : eqType NC.P 100 28 = true := by kernel_rfl
theorem aeq30' (a a' : List Nat) (b b' c c' : Int) : aeqT NC.P 100 30 (.agg [.str a, .int .i64 b, .int .i64 c]) (.agg [.str a', .int .i64 b', .int .i64 c']) =
    (match some (beqL a a') with
    | some true => (match some (eqI b b') with
      | some true => (match some (eqI c c') with
        | some true => some true
        | some false => some false
        | none => none)
      | some false => some false
      | none => none)
    | some false => some false
    | none => none) := by kernel_rfl
theorem aeq28' (a a' : List Nat) (b b' : Int) : aeqT NC.P 100 28 (.agg [.str a, .int .i64 b]) (.agg [.str a', .int .i64 b']) =
    (match some (beqL a a') with
    | some true => (match some (eqI b b') with
      | some true => some true
      | some false => some false
      | none => none)
    | some false => some false
    | none => none) := by kernel_rfl
theorem beqL_self (a : List Nat) : beqL a a = true := (beqL_iff a a).2 rfl
theorem eqI_self (a : Int) : eqI a a = true := by rw [eqI_iff]; simp
theorem aeq30 (a : List Nat) (b c : Int) : aeqT NC.P 100 30 (.agg [.str a, .int .i64 b, .int .i64 c]) (.agg [.str a, .int .i64 b, .int .i64 c]) = some true := by
  rw [aeq30', beqL_self, eqI_self, eqI_self]
theorem aeq28 (a : List Nat) (b : Int) : aeqT NC.P 100 28 (.agg [.str a, .int .i64 b]) (.agg [.str a, .int .i64 b]) = some true := by
  rw [aeq28', beqL_self, eqI_self]
theorem short_ok {n : Net} (h : shortN n = true) : n.Ok := by
  unfold shortN at h
  simp only [Bool.and_eq_true, Bool.not_eq_true', Bool.or_eq_false_iff, decide_eq_false_iff_not, List.all_eq_true] at h
  obtain ⟨⟨⟨⟨⟨h1, h2⟩, h3⟩, h4⟩, h5⟩, h6⟩ := h
  have short : ∀ s : List Nat, shortB s = true → s.length ≤ maxRows := by
    intro s hs
    unfold shortB at hs
    simp only [Bool.not_eq_true', decide_eq_false_iff_not] at hs
    unfold maxRows; omega
  refine ⟨by unfold maxRows; omega, fun l hl => ?_, by unfold maxRows; omega, fun s hs => ?_, by unfold maxRows; omega, fun s hs => ?_⟩
  · have := h4 l hl
    unfold shortLn at this
    simp only [Bool.and_eq_true, Bool.not_eq_true', decide_eq_false_iff_not] at this
    exact ⟨short _ this.1, by unfold maxRows; omega⟩
  · have := h5 s hs
    unfold shortSw at this
    simp only [Bool.and_eq_true] at this
    exact short _ this.1.1
  · have := h6 s hs
    unfold shortSt at this
    simp only [Bool.and_eq_true] at this
    exact ⟨short _ this.1.1, short _ this.1.2⟩
theorem num_bad {e : Int} (h : (e = 0) = False) : numB 0 e e 0 = true := by simp [numB, h]
theorem num_good (m : Int) : numB m 0 0 m = true := by simp [numB]
theorem c3 (n : Net) (s : List Nat) (m : Int) (a : List Nat) (ap post : Int) : ∀ lo H, CallOk NC lo 3 [.agg n.cells, .agg [.str s, i64 m], .agg [.str a, i64 ap, i64 post]] H (.bool true) H := by
  refine contract saneNC primsO (fn := Tryz.f3) (by kernel_rfl) Tryz.func3 rfl rfl (by rfl) (by rfl) ?_
  have e17 := pe17 n trivial
  simp only [Net.cells] at e17
  cases hS : shortN n with
  | false =>
    simp only [hS] at e17
    simp only [go_sem, reduceIte, Nat.reduceEqDiff, Nat.reduceAdd, Nat.reduceMul, Nat.reduceSub, Nat.reduceLeDiff, Nat.reduceLT, Nat.reduceBEq, reduceCtorEq, Net.cells, e16, e17]
  | true =>
    simp only [hS] at e17
    rcases Classical.propComplete ((40 : Int) < s.length) with q1 | q1
    · simp only [go_sem, reduceIte, Nat.reduceEqDiff, Nat.reduceAdd, Nat.reduceMul, Nat.reduceSub, Nat.reduceLeDiff, Nat.reduceLT, Nat.reduceBEq, reduceCtorEq, Net.cells, e16, e17, q1]
    rcases Classical.propComplete ((40 : Int) < a.length) with q2 | q2
    · simp only [go_sem, reduceIte, Nat.reduceEqDiff, Nat.reduceAdd, Nat.reduceMul, Nat.reduceSub, Nat.reduceLeDiff, Nat.reduceLT, Nat.reduceBEq, reduceCtorEq, Net.cells, e16, e17, q1, q2]
    have hok := short_ok hS
    have e18 := pe18 (n, s) hok
    have e19 := pe19 n ⟨hok.fits, hok.sws, hok.sts⟩
    have e20 := pe20 (n, s, m) hok
    have e21 := pe21 (n, a, ap, post) hok
    have e22 := pe22 n ⟨hok.fits, hok.sws, hok.sts⟩
    have e23 := pe23 (n, s) hok.fits
    have e24 := pe24 (n, s, m) hok.fits
    have e25 := pe25 (n, a, ap, post) hok.fits
    have e27 := pe27 (n, s) hok.lines
    have e29 := pe29 n hok
    simp only [Net.cells, i64, net_same, place_same] at e18 e19 e20 e21 e22 e23 e24 e25 e27 e29
    rcases Classical.propComplete (netR n = 0) with z | z
    case inr =>
      simp only [z, if_false, noAddr, noPlace] at e18 e20 e21
      have hnum := num_bad z
      simp only [go_sem, reduceIte, Nat.reduceEqDiff, Nat.reduceAdd, Nat.reduceMul, Nat.reduceSub, Nat.reduceLeDiff, Nat.reduceLT, Nat.reduceBEq, reduceCtorEq, Net.cells, e16, e17, q1, q2, e18, e19, e20, e21, e22, e29, e30, hnum, z, ety30, ety28, aeq30, aeq28]
    have hz := of_eq_true z
    obtain ⟨s', m', e', hpl⟩ := placedP_shape n a ap post
    have hpr := (placed_same hz a ap post).symm.trans hpl
    simp only [hz, if_true, hpl, hpr, noAddr, lineI] at e18 e20 e21 e22 e23 e24 e25 e29
    cases hf : findL n.lines s with
    | none =>
      have hb : lnB n.lines s = false := by unfold lnB; rw [hf]; rfl
      have hh : hasI n.lines s m = 10 := by unfold hasI; rw [hf]
      have z10 : ((10 : Int) = 0) = False := by simp
      have hnum := num_bad z10
      simp only [hb, hh, hf, z10, if_false, Bool.false_eq_true, Option.isNone_none, whenI_true] at e18 e20 e23 e24
      simp only [go_sem, reduceIte, Nat.reduceEqDiff, Nat.reduceAdd, Nat.reduceMul, Nat.reduceSub, Nat.reduceLeDiff, Nat.reduceLT, Nat.reduceBEq, reduceCtorEq, Net.cells, e16, e17, q1, q2, e18, e19, e20, e21, e22, e23, e24, e25, e29, e30, hnum, z10, ety30, ety28, aeq30, aeq28]
    | some i =>
      obtain ⟨l, hl, hlt, hmem⟩ := findL_at hf
      have hlo : lnOf n.lines s = l := by unfold lnOf; rw [hf]; simp [hl]
      have hb : lnB n.lines s = true := by unfold lnB; rw [hf]; rfl
      have hr := map_at (f := Ln.row) hl
      have e26 := pe26 l (hok.line l hmem).2
      simp only [Ln.row, i64] at hr e26
      have hnum := num_good (sumW l.ps 0)
      simp only [hb, hlo, hf, if_true, Option.isNone_some, whenI_false, findI] at e18 e20 e23 e24 e27
      have hhas : hasI n.lines s m = whenI (decide (m < 0) || !decide (m < sumW l.ps 0)) 14 := by unfold hasI; simp only [hf, hl]
      generalize hF : hasI n.lines s m = F at e20 e24 hhas
      rcases Classical.propComplete (F = 0) with zF | zF
      · have hFz := of_eq_true zF
        have hm : ¬ m < 0 ∧ m < sumW l.ps 0 := by
          rw [hFz] at hhas
          by_cases h1 : m < 0
          · simp [h1, whenI] at hhas
          · by_cases h2 : m < sumW l.ps 0
            · exact ⟨h1, h2⟩
            · simp [h2, whenI] at hhas
        have hg := line_good hz hl
        have ha := addr_same hg s (m := m) (by omega) hm.2
        have e28 := pe28 (n, s, m) ⟨hok.fits, i, hf⟩
        simp only [Net.cells, i64, hlo, ← ha] at e28
        simp only [hFz, if_true] at e20 e24
        simp only [go_sem, reduceIte, Nat.reduceEqDiff, Nat.reduceAdd, Nat.reduceMul, Nat.reduceSub, Nat.reduceLeDiff, Nat.reduceLT, Nat.reduceBEq, reduceCtorEq, Net.cells, Ln.row, e16, e17, q1, q2, e18, e19, e20, e21, e22, e23, e24, e25, e26, e27, e28, e29, e30, List.length_map, hlt, hr, hnum, ety30, ety28, aeq30, aeq28]
      · simp only [zF, if_false] at e20
        simp only [go_sem, reduceIte, Nat.reduceEqDiff, Nat.reduceAdd, Nat.reduceMul, Nat.reduceSub, Nat.reduceLeDiff, Nat.reduceLT, Nat.reduceBEq, reduceCtorEq, Net.cells, Ln.row, e16, e17, q1, q2, e18, e19, e20, e21, e22, e23, e24, e25, e26, e27, e29, e30, List.length_map, hlt, hr, hnum, zF, ety30, ety28, aeq30, aeq28]
end Go.Sim

/-
Histories: the reference, and the law's own helpers.
-/
-- INJ Sv.row_iff svs_iff
namespace Go.Sim
open Go Go.Proofs
set_option maxRecDepth 100000
set_option maxHeartbeats 8000000
def survR (h : List Sv) (i : Nat) : Int := match h[i]? with
  | none => 0
  | some s =>
    let e := firstI [rangeI s.day 0 100000, whenI (decide (0 < i) && !decide (lastD h i < s.day)) 11, netR s.net, mapR s.map]
    if e = 0 then (if decide ((i : Int) = 0) && decide ((0 : Int) < s.map.length) then 21 else if 0 < i then fitsR (prevN h i) s.net s.map else 0) else e
def histR (h : List Sv) : Int := if histE h = 0 then allR (survR h) h.length else histE h
theorem max0 (k : Nat) : maxI 0 (k : Int) = k := by unfold maxI; split <;> omega
noncomputable def PPF66 : FuncId → Option (List AV → Option AV) := addPrim 34 p34 (addPrim 45 p45 (addPrim 44 p44 (addPrim 22 p22 (addPrim 35 p35 (addPrim 48 p48 (fun _ => none))))))
theorem primsF66 : PrimsOk NC PPF66 := primsOk_add (primsOk_add (primsOk_add (primsOk_add (primsOk_add (primsOk_add (primsOk_none) (by kernel_rfl) (by kernel_rfl) pok48) (by kernel_rfl) (by kernel_rfl) pok35) (by kernel_rfl) (by kernel_rfl) pok22) (by kernel_rfl) (by kernel_rfl) pok44) (by kernel_rfl) (by kernel_rfl) pok45) (by kernel_rfl) (by kernel_rfl) pok34
theorem enF66_48 : En PPF66 48 p48 := enter_prim (by rfl) (by kernel_rfl)
theorem enF66_35 : En PPF66 35 p35 := enter_prim (by rfl) (by kernel_rfl)
theorem enF66_22 : En PPF66 22 p22 := enter_prim (by rfl) (by kernel_rfl)
theorem enF66_44 : En PPF66 44 p44 := enter_prim (by rfl) (by kernel_rfl)
theorem enF66_45 : En PPF66 45 p45 := enter_prim (by rfl) (by kernel_rfl)
theorem enF66_34 : En PPF66 34 p34 := enter_prim (by rfl) (by kernel_rfl)
attribute [go_sem ↓] enF66_48 enF66_35 enF66_22 enF66_44 enF66_45 enF66_34
theorem c66 (h : List Sv) (hp : HistOk h) : ∀ lo H, CallOk NC lo 66 [.ps .unk (h.map Sv.row)] H (i64 (histR h)) H := by
  refine contract saneNC primsF66 (fn := Tryz.f66) (by kernel_rfl) Tryz.func66 rfl rfl (by rfl) (by first | rfl | (split <;> first | rfl | (split <;> rfl))) ?_
  have hl := hp.few
  generalize hE0 : histE h = E0
  have hE0' := hE0
  unfold histE at hE0'
  rcases Classical.propComplete (E0 = 0) with z0 | z0
  case inr =>
    simp only [go_sem, reduceIte, Nat.reduceEqDiff, Nat.reduceAdd, Nat.reduceMul, Nat.reduceSub, Nat.reduceLeDiff, Nat.reduceLT, Nat.reduceBEq, reduceCtorEq, List.length_map, e48, e34_2, hE0', z0]
    simp [histR, hE0, z0]
  simp only [go_sem, reduceIte, Nat.reduceEqDiff, Nat.reduceAdd, Nat.reduceMul, Nat.reduceSub, Nat.reduceLeDiff, Nat.reduceLT, Nat.reduceBEq, reduceCtorEq, List.length_map, e48, e34_2, hE0', z0]
  refine W_for (fun k T H M => M = [] ∧ getT T 0 = .ps .unk (h.map Sv.row) ∧ getT T 4 = i64 k ∧ allR (survR h) h.length = firstI (((List.range h.length).map (survR h)).drop k)) h.length ?_ ?_ ?_
  · simp only [go_sem, reduceIte, Nat.reduceEqDiff, Nat.reduceAdd, Nat.reduceMul, Nat.reduceSub, Nat.reduceLeDiff, Nat.reduceLT, Nat.reduceBEq, reduceCtorEq]; try exact rfl
  · rintro k T H M hk ⟨rfl, g0, g4, hf⟩
    obtain ⟨s, hs⟩ : ∃ p, h[k]? = some p := ⟨h[k], by simp⟩
    have hr := map_at (f := Sv.row) hs
    have hw := wrap_succ hk hl
    have hmem := List.mem_of_getElem? hs
    have hfd := allR_step (f := survR h) hk
    have en := pe22 s.net ⟨(hp.net s hmem).fits, (hp.net s hmem).sws, (hp.net s hmem).sts⟩
    have em := pe44 s.map (hp.map s hmem).few
    generalize hE : firstI [rangeI s.day 0 100000, whenI (decide (0 < k) && !decide (lastD h k < s.day)) 11, netR s.net, mapR s.map] = E
    have hms : survR h k = if E = 0 then (if decide ((k : Int) = 0) && decide ((0 : Int) < s.map.length) then 21 else if 0 < k then fitsR (prevN h k) s.net s.map else 0) else E := by
      unfold survR; simp only [hs, hE]
    have hwp : 0 < k → wrapq .i64 (Int.sub (k : Int) 1) = ((k - 1 : Nat) : Int) := fun h => wrap_pred h (Nat.le_of_lt hk) hl
    obtain ⟨l, hl1⟩ : ∃ p, h[k - 1]? = some p := ⟨h[k - 1]'(by omega), by simp⟩
    have hr1 := map_at (f := Sv.row) hl1
    have hk1 : (k - 1 < h.length) = True := by simp; omega
    have hpos : ((0 : Int) < (k : Int)) = (0 < k) := by simp
    have hz : ((k : Int) = 0) = (k = 0) := by simp
    have ef := pe45 s.map l.net s.net ⟨(hp.map s hmem).few, (hp.net l (List.mem_of_getElem? hl1)).fits, (hp.net s hmem).fits⟩
    have hprev : 0 < k → prevN h k = l.net := fun h0 => by
      obtain ⟨j, rfl⟩ : ∃ j, k = j + 1 := ⟨k - 1, by omega⟩
      simp only [Nat.add_sub_cancel] at hl1
      unfold prevN; simp only [hl1]
    have hlast : 0 < k → lastD h k = l.day := fun h0 => by
      obtain ⟨j, rfl⟩ : ∃ j, k = j + 1 := ⟨k - 1, by omega⟩
      simp only [Nat.add_sub_cancel] at hl1
      unfold lastD; simp only [hl1]
    generalize hF : fitsR l.net s.net s.map = F at ef
    obtain ⟨d, ⟨a, b, c⟩, m⟩ := s
    obtain ⟨d', ⟨a', b', c'⟩, m'⟩ := l
    simp only [Sv.row, Net.cells, List.cons_append, List.nil_append, i64] at hr hr1 en em ef
    simp only at hE hms hlast
    by_cases hk0 : k = 0
    · have hk0' : (0 < k) = False := by simp; omega
      have hk0'' : (k = 0) = True := by simp [hk0]
      simp only [hk0', decide_false, Bool.false_and] at hE
      rcases Classical.propComplete (E = 0) with z | z
      case inr =>
        have h4 : survR h k = E := by rw [hms]; simp only [z, if_false]
        simp only [go_sem, reduceIte, Nat.reduceEqDiff, Nat.reduceAdd, Nat.reduceMul, Nat.reduceSub, Nat.reduceLeDiff, Nat.reduceLT, Nat.reduceBEq, reduceCtorEq, g0, g4, List.length_map, hk, hr, e35, e48, en, em, e34_4, hpos, hk0', hE, z]
        simp [histR, hE0, z0, hf, hfd, h4, z]
      rcases Classical.propComplete ((0 : Int) < m.length) with z1 | z1
      · have h4 : survR h k = 21 := by rw [hms]; simp only [z, hz, hk0'', z1, if_true, decide_true, Bool.and_self]
        simp only [go_sem, reduceIte, Nat.reduceEqDiff, Nat.reduceAdd, Nat.reduceMul, Nat.reduceSub, Nat.reduceLeDiff, Nat.reduceLT, Nat.reduceBEq, reduceCtorEq, g0, g4, List.length_map, hk, hr, hw, e35, e48, en, em, e34_4, hpos, hk0', hE, z, z1, hz, hk0'']
        simp [histR, hE0, z0, hf, hfd, h4]
      · have h4 : survR h k = 0 := by rw [hms]; simp only [z, hz, hk0', hk0'', z1, if_true, if_false, decide_true, decide_false, Bool.and_false, Bool.false_eq_true]
        simp only [go_sem, reduceIte, Nat.reduceEqDiff, Nat.reduceAdd, Nat.reduceMul, Nat.reduceSub, Nat.reduceLeDiff, Nat.reduceLT, Nat.reduceBEq, reduceCtorEq, g0, g4, List.length_map, hk, hr, hw, e35, e48, en, em, e34_4, hpos, hk0', hE, z, z1, hz, hk0'']
        rw [hf, hfd, h4, if_pos rfl]
    · have hk0' : (0 < k) = True := by simp; omega
      have hk0'' : (k = 0) = False := by simp [hk0]
      have hwp' := hwp (by omega)
      have hpv := hprev (by omega)
      have hld := hlast (by omega)
      simp only [hk0', decide_true, Bool.true_and, hld] at hE
      rcases Classical.propComplete (E = 0) with z | z
      case inr =>
        have h4 : survR h k = E := by rw [hms]; simp only [z, if_false]
        simp only [go_sem, reduceIte, Nat.reduceEqDiff, Nat.reduceAdd, Nat.reduceMul, Nat.reduceSub, Nat.reduceLeDiff, Nat.reduceLT, Nat.reduceBEq, reduceCtorEq, g0, g4, List.length_map, hk, hr, e35, e48, en, em, e34_4, hpos, hk0', hwp', max0, hk1, hr1, hE, z]
        simp [histR, hE0, z0, hf, hfd, h4, z]
      rcases Classical.propComplete (F = 0) with z1 | z1
      · have h4 : survR h k = 0 := by rw [hms, hpv]; simp only [z, hz, hk0', hk0'', hF, z1, if_true, if_false, decide_true, decide_false, Bool.false_and, Bool.false_eq_true]
        simp only [go_sem, reduceIte, Nat.reduceEqDiff, Nat.reduceAdd, Nat.reduceMul, Nat.reduceSub, Nat.reduceLeDiff, Nat.reduceLT, Nat.reduceBEq, reduceCtorEq, g0, g4, List.length_map, hk, hr, hw, e35, e48, en, em, e34_4, hpos, hk0', hk0'', hz, hwp', max0, hk1, hr1, hE, z, ef, z1]
        rw [hf, hfd, h4, if_pos rfl]
      · have h4 : survR h k = F := by rw [hms, hpv]; simp only [z, hz, hk0', hk0'', hF, if_true, if_false, decide_true, decide_false, Bool.false_and, Bool.false_eq_true]
        simp only [go_sem, reduceIte, Nat.reduceEqDiff, Nat.reduceAdd, Nat.reduceMul, Nat.reduceSub, Nat.reduceLeDiff, Nat.reduceLT, Nat.reduceBEq, reduceCtorEq, g0, g4, List.length_map, hk, hr, hw, e35, e48, en, em, e34_4, hpos, hk0', hk0'', hz, hwp', max0, hk1, hr1, hE, z, ef, z1]
        simp [histR, hE0, z0, hf, hfd, h4, z1]
  · rintro T H M ⟨rfl, g0, g4, hf⟩
    rw [allR_end] at hf
    simp only [go_sem, reduceIte, Nat.reduceEqDiff, Nat.reduceAdd, Nat.reduceMul, Nat.reduceSub, Nat.reduceLeDiff, Nat.reduceLT, Nat.reduceBEq, reduceCtorEq, g0, g4, List.length_map, Nat.lt_irrefl]
    simp [histR, hE0, z0, hf]
noncomputable def p66 : List AV → Option AV := primOf (α := (List Sv)) (fun x => [.ps .unk (x.map Sv.row)]) (fun x => HistOk x) (fun x => i64 (histR x))
theorem pok66 : ∀ args v, p66 args = some v → ∀ lo H, CallOk NC lo 66 args H v H := by
  intro args v h
  obtain ⟨x, rfl, hp, rfl⟩ := primOf_inv h
  exact c66 x hp
theorem pe66 (h : List Sv) (hp : HistOk h) : p66 [.ps .unk (h.map Sv.row)] = some (.int .i64 (histR h)) := primOf_enc (α := (List Sv)) (enc := fun x => [.ps .unk (x.map Sv.row)]) (pre := fun x => HistOk x) (spec := fun x => i64 (histR x)) (by intro x y h; (simp only [List.cons.injEq, AV.agg.injEq, AV.str.injEq, AV.int.injEq, AV.ps.injEq, AV.bool.injEq, Net.cells_iff, Ln.row_iff, Pc.row_iff, Mv.row_iff, lns_iff, pcs_iff, mvs_iff, Sv.row_iff, svs_iff, true_and, and_true] at h; first | simpa only [Prod.ext_iff] using h | simpa only [Prod.ext_iff, and_assoc] using h)) h hp
theorem onQ_alt (h : List Sv) (d : Int) : onQ h d = if rangeI d 0 100000 = 0 then (if onK h d h.length < 0 then (0, 7) else (onK h d h.length, 0)) else (0, rangeI d 0 100000) := by
  unfold onQ
  by_cases h1 : rangeI d 0 100000 = 0
  · simp only [h1, if_true]
    by_cases h2 : onK h d h.length < 0
    · simp only [h2, if_true, decide_true, whenI_true]
      have : maxI 0 (onK h d h.length) = 0 := by unfold maxI; split <;> omega
      rw [this]
    · simp only [h2, if_false, decide_false, whenI_false]
      have : maxI 0 (onK h d h.length) = onK h d h.length := by unfold maxI; split <;> omega
      rw [this]
  · simp only [h1, if_false]
end Go.Sim

/-
The plain law of histories: valid ones; places stay within the networks.
-/
namespace Go.Sim
open Go
theorem surv_same (h : List Sv) (i : Nat) (hz : ∀ j, j < i → survP h j = 0) : survP h i = survR h i := by
  unfold survP survR
  cases hs : h[i]? with
  | none => rfl
  | some s =>
    simp only [net_same, map_same]
    have he : firstI [rangeI s.day 0 100000, whenI (!decide (lastD h i < s.day)) 11, netR s.net, mapR s.map] = firstI [rangeI s.day 0 100000, whenI (decide (0 < i) && !decide (lastD h i < s.day)) 11, netR s.net, mapR s.map] := by
      by_cases hr : rangeI s.day 0 100000 = 0
      · cases i with
        | zero =>
          have := rangeI_zero hr
          have h1 : lastD h 0 < s.day := by show (-1 : Int) < _; omega
          simp [h1]
        | succ j => simp
      · simp only [firstI_cons, hr, if_false]
    rw [he]
    by_cases hE : firstI [rangeI s.day 0 100000, whenI (decide (0 < i) && !decide (lastD h i < s.day)) 11, netR s.net, mapR s.map] = 0
    · simp only [hE, if_true]
      by_cases h0 : 0 < i
      · simp only [h0, if_true]
        have hm := firstI_zero hE
        have hn : netR s.net = 0 := hm _ (by simp)
        have hmp : mapR s.map = 0 := hm _ (by simp)
        have hprev : netR (prevN h i) = 0 := by
          obtain ⟨j, rfl⟩ : ∃ j, i = j + 1 := ⟨i - 1, by omega⟩
          have hj := hz j (by omega)
          have hl : j < h.length := by have := (List.getElem?_eq_some_iff.1 hs).1; omega
          unfold survP at hj
          unfold prevN
          have hjs : h[j]? = some h[j] := by simp
          simp only [hjs] at hj ⊢
          rw [net_same] at hj
          split at hj
          · rename_i he2
            exact firstI_zero he2 _ (by simp)
          · rename_i he2; exact absurd hj he2
        have : fitsP (prevN h i) s.net s.map = fitsR (prevN h i) s.net s.map := by
          unfold fitsP fitsR
          simp only [map_same, net_same, hn, hmp, hprev, firstI_cons, firstI_nil, if_true]
        rw [this]
      · simp only [h0, if_false]
    · simp only [hE, if_false]
theorem hist_same (h : List Sv) : histP h = histR h := by
  unfold histP histR
  rw [allR_same (f := survP h) (g := survR h) (n := h.length) fun i _ hz => surv_same h i hz]
theorem hist_surv {h : List Sv} (hz : histR h = 0) {k : Nat} {s : Sv} (hs : h[k]? = some s) : netR s.net = 0 ∧ mapR s.map = 0 ∧ (0 < k → fitsR (prevN h k) s.net s.map = 0) := by
  unfold histR at hz
  split at hz
  · have h1 := allR_zero hz (List.getElem?_eq_some_iff.1 hs).1
    unfold survR at h1
    simp only [hs] at h1
    split at h1
    · rename_i he
      have hm := firstI_zero he
      refine ⟨hm _ (by simp), hm _ (by simp), fun h0 => ?_⟩
      have hk : ¬ ((k : Int) = 0) := by omega
      simp only [hk, decide_false, Bool.false_and, Bool.false_eq_true, if_false, if_pos h0] at h1
      exact h1
    · rename_i he; exact absurd h1 he
  · rename_i he; exact absurd hz he
theorem metres_in {ls : List Ln} {s : List Nat} {fr till : Int} (h : metresI ls s fr till = 0) : ∃ i l, findL ls s = some i ∧ ls[i]? = some l ∧ 0 ≤ fr ∧ fr < till ∧ till ≤ sumW l.ps 0 := by
  unfold metresI at h
  cases hf : findL ls s with
  | none => rw [hf] at h; simp at h
  | some i =>
    obtain ⟨l, hl, _⟩ := findL_at hf
    rw [hf] at h
    simp only [hl] at h
    refine ⟨i, l, rfl, hl, ?_⟩
    unfold whenI at h
    split at h
    · cases h
    · rename_i hc
      simp only [Bool.or_eq_true, decide_eq_true_eq, Bool.not_eq_true', decide_eq_false_iff_not, not_or, Classical.not_not] at hc
      omega
theorem fits_in {a b : Net} {m : List Mv} (h : fitsR a b m = 0) {x : Mv} (hx : x ∈ m) : metresI a.lines x.line x.fr (endI x) = 0 ∧ metresI b.lines x.other x.to (wrapq .i64 (Int.add x.to x.len)) = 0 := by
  unfold fitsR at h
  have := firstI_zero h (fitsI a b x) (List.mem_map.2 ⟨x, hx, rfl⟩)
  unfold fitsI at this
  have h2 := firstI_zero this
  exact ⟨h2 _ (by simp), h2 _ (by simp)⟩
def inNet (n : Net) (p : Pl) : Prop := ∃ i l, findL n.lines p.1 = some i ∧ n.lines[i]? = some l ∧ 0 ≤ p.2 ∧ p.2 < sumW l.ps 0
theorem sum_bound {l : Ln} (hg : l.Good) : 0 ≤ sumW l.ps 0 ∧ sumW l.ps 0 ≤ 800000 := by
  have := beg_bound hg l.ps.length (Nat.le_refl _)
  rw [begI_all] at this
  have := hg.few
  omega
theorem atI_in {x : Mv} (hx : x.Good) {q : Int} (h0 : x.fr ≤ q) (h1 : q < x.fr + x.len) : x.to ≤ atI x q ∧ atI x q < x.to + x.len := by
  have := hx.fr; have := hx.len; have := hx.frl; have := hx.to; have := hx.tol
  have e1 : Int.sub (x.to + x.len) 1 = x.to + x.len - 1 := rfl
  have e2 : Int.sub q x.fr = q - x.fr := rfl
  have e3 : Int.sub (x.to + x.len - 1) (q - x.fr) = x.to + x.len - 1 - (q - x.fr) := rfl
  have e4 : Int.add x.to q = x.to + q := rfl
  have e5 : Int.sub (x.to + q) x.fr = x.to + q - x.fr := rfl
  unfold atI
  rw [hx.till, e1, wrap_small (x := x.to + x.len - 1) (by omega) (by omega), e2, wrap_small (x := q - x.fr) (by omega) (by omega), e3, wrap_small (x := x.to + x.len - 1 - (q - x.fr)) (by omega) (by omega), e4, wrap_small (x := x.to + q) (by omega) (by omega), e5, wrap_small (x := x.to + q - x.fr) (by omega) (by omega)]
  split <;> omega
theorem carO_hit {m : List Mv} {p q : Pl} (h : carO m p = some q) : ∃ x ∈ m, hitMv p.1 p.2 x = true ∧ q = (x.other, atI x p.2) := by
  unfold carO at h
  cases hf : m.find? (hitMv p.1 p.2) with
  | none => rw [hf] at h; cases h
  | some x =>
    rw [hf] at h
    simp only [Option.map_some, Option.some.injEq] at h
    exact ⟨x, List.mem_of_find?_eq_some hf, by simpa using List.find?_some hf, h.symm⟩
theorem car_in {a b : Net} {m : List Mv} {p q : Pl} (hm : mapR m = 0) (hf : fitsR a b m = 0) (hc : carO m p = some q) : inNet b q := by
  obtain ⟨x, hx, hh, rfl⟩ := carO_hit hc
  have hg := map_good hm hx
  obtain ⟨_, h1, h2⟩ := hit_in hg hh
  have hat := atI_in hg h1 h2
  obtain ⟨i, l, hl1, hl2, h3, h4, h5⟩ := metres_in (fits_in hf hx).2
  rw [hg.till] at h5
  have := hg.to
  exact ⟨i, l, hl1, hl2, by show 0 ≤ atI x p.2; omega, by show atI x p.2 < _; omega⟩
theorem Mv.Good.undo {x : Mv} (h : x.Good) : (undoMv x).Good := ⟨h.other, h.line, h.to, h.len, h.fr, h.tol, h.frl⟩
theorem back_in {a b : Net} {m : List Mv} {p q : Pl} (hm : mapR m = 0) (hf : fitsR a b m = 0) (hc : carO (m.map undoMv) p = some q) : inNet a q := by
  obtain ⟨y, hy, hh, rfl⟩ := carO_hit hc
  obtain ⟨x, hx, rfl⟩ := List.mem_map.1 hy
  have hg := map_good hm hx
  obtain ⟨_, h1, h2⟩ := hit_in hg.undo hh
  have hat := atI_in hg.undo h1 h2
  obtain ⟨i, l, hl1, hl2, h3, h4, h5⟩ := metres_in (fits_in hf hx).1
  rw [hg.end_] at h5
  have := hg.fr
  have e1 : (undoMv x).to = x.fr := rfl
  have e2 : (undoMv x).len = x.len := rfl
  rw [e1, e2] at hat
  exact ⟨i, l, hl1, hl2, by show 0 ≤ atI (undoMv x) p.2; omega, by show atI (undoMv x) p.2 < _; omega⟩
end Go.Sim

/-
Histories: the reference's Since; the law's own helpers.
-/
-- INJ Sv.row_iff svs_iff
namespace Go.Sim
open Go Go.Proofs
set_option maxRecDepth 100000
set_option maxHeartbeats 8000000
theorem netAt_eq {h : List Sv} {k : Nat} {s : Sv} (hs : h[k]? = some s) : netAt h k = s.net := by unfold netAt; rw [hs]
theorem mapAt_eq {h : List Sv} {k : Nat} {s : Sv} (hs : h[k]? = some s) : mapAt h k = s.map := by unfold mapAt; rw [hs]
theorem prevN_eq {h : List Sv} {k : Nat} {s : Sv} (hs : h[k]? = some s) : prevN h (k + 1) = s.net := by unfold prevN; simp only [hs]
def shortS (s : Sv) : Bool := shortN s.net && shortM s.map
def shortH (h : List Sv) : Bool := h.all shortS && (!decide ((4 : Int) < h.length) || decide ((h.length : Int) = 7))
structure HistLim (h : List Sv) : Prop where
  few : h.length ≤ 9223372036854775807
  map : ∀ s ∈ h, s.map.length ≤ 9223372036854775807
noncomputable def PPF62 : FuncId → Option (List AV → Option AV) := addPrim 41 p41 (addPrim 17 p17 (fun _ => none))
theorem primsF62 : PrimsOk NC PPF62 := primsOk_add (primsOk_add (primsOk_none) (by kernel_rfl) (by kernel_rfl) pok17) (by kernel_rfl) (by kernel_rfl) pok41
theorem enF62_17 : En PPF62 17 p17 := enter_prim (by rfl) (by kernel_rfl)
theorem enF62_41 : En PPF62 41 p41 := enter_prim (by rfl) (by kernel_rfl)
attribute [go_sem ↓] enF62_17 enF62_41
theorem c62 (h : List Sv) (hp : HistLim h) : ∀ lo H, CallOk NC lo 62 [.ps .unk (h.map Sv.row)] H (.bool (shortH h)) H := by
  refine contract saneNC primsF62 (fn := Tryz.f62) (by kernel_rfl) Tryz.func62 rfl rfl (by rfl) (by first | rfl | (split <;> first | rfl | (split <;> rfl))) ?_
  have hl := hp.few
  simp only [go_sem, reduceIte, Nat.reduceEqDiff, Nat.reduceAdd, Nat.reduceMul, Nat.reduceSub, Nat.reduceLeDiff, Nat.reduceLT, Nat.reduceBEq, reduceCtorEq]
  refine W_for (fun k T H M => M = [] ∧ getT T 0 = .ps .unk (h.map Sv.row) ∧ getT T 3 = i64 k ∧ ∀ (j : Nat) x, j < k → h[j]? = some x → shortS x = true) h.length ?_ ?_ ?_
  · simp only [go_sem, reduceIte, Nat.reduceEqDiff, Nat.reduceAdd, Nat.reduceMul, Nat.reduceSub, Nat.reduceLeDiff, Nat.reduceLT, Nat.reduceBEq, reduceCtorEq]; exact fun j x hj => absurd hj (by omega)
  · rintro k T H M hk ⟨rfl, g0, g3, hall⟩
    obtain ⟨x, hx⟩ : ∃ p, h[k]? = some p := ⟨h[k], by simp⟩
    have hr := map_at (f := Sv.row) hx
    have hw : wrapq .i64 (Int.add (k : Int) 1) = ((k + 1 : Nat) : Int) := wrap_nat (n := k + 1) (by omega)
    have e17 : p17 [.agg x.net.cells] = some (.bool (shortN x.net)) := pe17 x.net trivial
    have e41 : p41 [.ps .unk (x.map.map Mv.row)] = some (.bool (shortM x.map)) := pe41 x.map (hp.map x (List.mem_of_getElem? hx))
    have hsh : shortS x = (shortN x.net && shortM x.map) := rfl
    have hnext : shortS x = true → ∀ (j : Nat) y, j < k + 1 → h[j]? = some y → shortS y = true := fun hh j y hj hy => by
      by_cases e : j = k
      · subst e; rw [hx] at hy; cases hy; exact hh
      · exact hall j y (by omega) hy
    have hno : shortS x = false → shortH h = false := fun hh => by unfold shortH; rw [all_false hx hh]; rfl
    rw [hsh] at hnext hno
    clear hsh
    generalize shortN x.net = B1 at e17 hnext hno
    generalize shortM x.map = B2 at e41 hnext hno
    obtain ⟨d, ⟨a, b, c⟩, m⟩ := x
    simp only [Sv.row, Net.cells, List.cons_append, List.nil_append, i64] at hr e17 e41
    cases B1 <;> cases B2 <;> simp only [go_sem, reduceIte, Nat.reduceEqDiff, Nat.reduceAdd, Nat.reduceMul, Nat.reduceSub, Nat.reduceLeDiff, Nat.reduceLT, Nat.reduceBEq, reduceCtorEq, g0, g3, List.length_map, hk, hr, hw, e17, e41]
    case true.true => exact hnext rfl
    all_goals rw [hno rfl]
  · rintro T H M ⟨rfl, g0, g3, hall⟩
    have hsp : shortH h = (!decide ((4 : Int) < h.length) || decide ((h.length : Int) = 7)) := by unfold shortH; rw [all_true hall]; rfl
    rw [hsp]
    rcases Classical.propComplete ((4 : Int) < h.length) with q1 | q1 <;> rcases Classical.propComplete ((h.length : Int) = 7) with q2 | q2 <;> simp only [go_sem, reduceIte, Nat.reduceEqDiff, Nat.reduceAdd, Nat.reduceMul, Nat.reduceSub, Nat.reduceLeDiff, Nat.reduceLT, Nat.reduceBEq, reduceCtorEq, g0, g3, List.length_map, Nat.lt_irrefl, q1, q2]
noncomputable def p62 : List AV → Option AV := primOf (α := (List Sv)) (fun x => [.ps .unk (x.map Sv.row)]) (fun x => HistLim x) (fun x => .bool (shortH x))
theorem pok62 : ∀ args v, p62 args = some v → ∀ lo H, CallOk NC lo 62 args H v H := by
  intro args v h
  obtain ⟨x, rfl, hp, rfl⟩ := primOf_inv h
  exact c62 x hp
theorem pe62 (h : List Sv) (hp : HistLim h) : p62 [.ps .unk (h.map Sv.row)] = some (.bool (shortH h)) := primOf_enc (α := (List Sv)) (enc := fun x => [.ps .unk (x.map Sv.row)]) (pre := fun x => HistLim x) (spec := fun x => .bool (shortH x)) (by intro x y h; (simp only [List.cons.injEq, AV.agg.injEq, AV.str.injEq, AV.int.injEq, AV.ps.injEq, AV.bool.injEq, Net.cells_iff, Ln.row_iff, Pc.row_iff, Mv.row_iff, lns_iff, pcs_iff, mvs_iff, Sv.row_iff, svs_iff, true_and, and_true] at h; first | simpa only [Prod.ext_iff] using h | simpa only [Prod.ext_iff, and_assoc] using h)) h hp
structure HistFit (h : List Sv) : Prop where
  few : h.length ≤ maxRows
  net : ∀ s ∈ h, s.net.fits ∧ s.net.sws.length ≤ maxRows ∧ s.net.sts.length ≤ maxRows
  map : ∀ s ∈ h, s.map.length ≤ maxRows
noncomputable def PPF64 : FuncId → Option (List AV → Option AV) := addPrim 43 p43 (addPrim 19 p19 (fun _ => none))
theorem primsF64 : PrimsOk NC PPF64 := primsOk_add (primsOk_add (primsOk_none) (by kernel_rfl) (by kernel_rfl) pok19) (by kernel_rfl) (by kernel_rfl) pok43
theorem enF64_19 : En PPF64 19 p19 := enter_prim (by rfl) (by kernel_rfl)
theorem enF64_43 : En PPF64 43 p43 := enter_prim (by rfl) (by kernel_rfl)
attribute [go_sem ↓] enF64_19 enF64_43
theorem c64 (h : List Sv) (hp : HistFit h) : ∀ lo H, CallOk NC lo 64 [.ps .unk (h.map Sv.row)] H (.ps .unk (h.map Sv.row)) H := by
  refine contract saneNC primsF64 (fn := Tryz.f64) (by kernel_rfl) Tryz.func64 rfl rfl (by rfl) (by first | rfl | (split <;> first | rfl | (split <;> rfl))) ?_
  have hl := hp.few
  simp only [go_sem, reduceIte, Nat.reduceEqDiff, Nat.reduceAdd, Nat.reduceMul, Nat.reduceSub, Nat.reduceLeDiff, Nat.reduceLT, Nat.reduceBEq, reduceCtorEq]
  refine W_for (fun k T H M => M = [] ∧ getT T 6 = .ps .unk (h.map Sv.row) ∧ getT T 7 = i64 (h.length : Nat) ∧ getT T 8 = i64 k ∧ ∃ t, getT T 3 = .ps t ((h.take k).map Sv.row) ∧ App H t ((h.take k).map Sv.row) 5 188) h.length ?_ ?_ ?_
  · simp only [go_sem, reduceIte, Nat.reduceEqDiff, Nat.reduceAdd, Nat.reduceMul, Nat.reduceSub, Nat.reduceLeDiff, Nat.reduceLT, Nat.reduceBEq, reduceCtorEq, List.length_map]; exact ⟨.nil, by simp, .inl ⟨rfl, rfl⟩⟩
  · rintro k T H M hk ⟨rfl, g6, g7, g8, t, g3, hA⟩
    obtain ⟨x, hx⟩ : ∃ p, h[k]? = some p := ⟨h[k], by simp⟩
    have hmem := List.mem_of_getElem? hx
    have hr := map_at (f := Sv.row) hx
    have hw := wrap_succ hk hl
    have htk := take_map (f := Sv.row) hx
    have e19 := pe19 x.net (hp.net x hmem)
    have e43 := pe43 x.map (hp.map x hmem)
    obtain ⟨t', H1, ha, hB, hn1, hc1, _⟩ := app_any (H := (H.push (.cells [.int .i64 0, .ps .nil [], .ps .nil [], .ps .nil [], .ps .nil []] 135)).set H.n (.cells x.row 135)) (hA.fresh _ _ rfl) (r := x.row) (by simp; omega) rfl (by decide) (rows_all Sv.row_len _)
    obtain ⟨d, ⟨a, b, c⟩, m⟩ := x
    simp only [Sv.row, Net.cells, List.cons_append, List.nil_append, i64] at hr ha e19 e43
    simp only [go_sem, reduceIte, Nat.reduceEqDiff, Nat.reduceAdd, Nat.reduceMul, Nat.reduceSub, Nat.reduceLeDiff, Nat.reduceLT, Nat.reduceBEq, reduceCtorEq, g6, g7, g8, g3, List.length_map, hk, hr, hw, e19, e43, appO, ha]
    rw [htk]
    exact ⟨t', rfl, hB⟩
  · rintro T H M ⟨rfl, g6, g7, g8, t, g3, hA⟩
    simp only [go_sem, reduceIte, Nat.reduceEqDiff, Nat.reduceAdd, Nat.reduceMul, Nat.reduceSub, Nat.reduceLeDiff, Nat.reduceLT, Nat.reduceBEq, reduceCtorEq, g6, g7, g8, g3, List.take_length, Nat.lt_irrefl]
noncomputable def p64 : List AV → Option AV := primOf (α := (List Sv)) (fun x => [.ps .unk (x.map Sv.row)]) (fun x => HistFit x) (fun x => .ps .unk (x.map Sv.row))
theorem pok64 : ∀ args v, p64 args = some v → ∀ lo H, CallOk NC lo 64 args H v H := by
  intro args v h
  obtain ⟨x, rfl, hp, rfl⟩ := primOf_inv h
  exact c64 x hp
theorem pe64 (h : List Sv) (hp : HistFit h) : p64 [.ps .unk (h.map Sv.row)] = some (.ps .unk (h.map Sv.row)) := primOf_enc (α := (List Sv)) (enc := fun x => [.ps .unk (x.map Sv.row)]) (pre := fun x => HistFit x) (spec := fun x => .ps .unk (x.map Sv.row)) (by intro x y h; (simp only [List.cons.injEq, AV.agg.injEq, AV.str.injEq, AV.int.injEq, AV.ps.injEq, AV.bool.injEq, Net.cells_iff, Ln.row_iff, Pc.row_iff, Mv.row_iff, lns_iff, pcs_iff, mvs_iff, Sv.row_iff, svs_iff, true_and, and_true] at h; first | simpa only [Prod.ext_iff] using h | simpa only [Prod.ext_iff, and_assoc] using h)) h hp
end Go.Sim

/-
The plain law of maps: metres apart; what is carried is carried back.
-/
namespace Go.Sim
open Go
theorem if_zero {b : Bool} {c r : Int} (hc : c ≠ 0) (h : (if b = true then c else r) = 0) : b = false ∧ r = 0 := by
  cases b with
  | false => exact ⟨rfl, by simpa using h⟩
  | true => exact absurd (by simpa using h) hc
theorem map_step {m : List Mv} (h : mapR m = 0) {i : Nat} {x : Mv} (hx : m[i]? = some x) :
    (∀ j l, i = j + 1 → m[j]? = some l → orderB l x = false) ∧ ∀ j y, j < i → m[j]? = some y → overB y x = false := by
  have hlt := (List.getElem?_eq_some_iff.1 hx).1
  have hz : mvR m i = 0 := by
    unfold mapR at h
    split at h
    · cases h
    · exact allR_zero h hlt
  unfold mvR at hz
  simp only [hx] at hz
  split at hz
  · obtain ⟨_, hz⟩ := if_zero (by decide) hz
    obtain ⟨hO, hz⟩ := if_zero (by decide) hz
    obtain ⟨h2, _⟩ := if_zero (by decide) hz
    refine ⟨?_, ?_⟩
    · rintro j l rfl hl
      simp only [hl] at hO
      exact hO
    · intro j y hj hy
      cases hb : overB y x with
      | false => rfl
      | true => rw [any_take (f := fun y => overB y x) hj hy hb] at h2; cases h2
  · rename_i he; exact absurd hz he
theorem Mv.ahead_trans {x y z : Mv} (hy : 0 ≤ y.len) (h1 : x.ahead y) (h2 : y.ahead z) : x.ahead z := by
  unfold Mv.ahead at *
  rcases h1 with h1 | ⟨h1, h1'⟩
  · rcases h2 with h2 | ⟨h2, h2'⟩
    · exact .inl (strLt_trans h1 h2)
    · exact .inl (by rw [← h2]; exact h1)
  · rcases h2 with h2 | ⟨h2, h2'⟩
    · exact .inl (by rw [h1]; exact h2)
    · exact .inr ⟨h1.trans h2, by omega⟩
theorem order_ahead {l x : Mv} (hl : l.Good) (h : orderB l x = false) : l.ahead x := by
  unfold orderB at h
  rw [hl.end_] at h
  simp only [Bool.or_eq_false_iff, Bool.and_eq_false_iff, decide_eq_false_iff_not] at h
  unfold Mv.ahead
  rcases strLt_tri l.line x.line with h1 | h1 | h1
  · exact .inl h1
  · refine .inr ⟨h1, ?_⟩
    rcases h.2 with h2 | h2
    · rw [h1, beqL_rfl] at h2; cases h2
    · omega
  · rw [h1] at h; exact absurd h.1 (by simp)
theorem map_ahead {m : List Mv} (h : mapR m = 0) : ∀ (j i : Nat) {x y : Mv}, i < j → m[i]? = some x → m[j]? = some y → x.ahead y
  | 0, i, x, y, hi, _, _ => absurd hi (by omega)
  | j + 1, i, x, y, hi, hx, hy => by
    have hjl := (List.getElem?_eq_some_iff.1 hy).1
    have hl : m[j]? = some (m[j]'(by omega)) := List.getElem?_eq_getElem (by omega)
    generalize m[j]'(by omega) = l at hl
    have hlg := map_good h (List.mem_of_getElem? hl)
    have h1 := order_ahead hlg ((map_step h hy).1 j l rfl hl)
    by_cases e : i = j
    · subst e; rw [hx] at hl; cases hl; exact h1
    · exact Mv.ahead_trans (by have := hlg.len; omega) (map_ahead h j i (by omega) hx hl) h1
theorem map_pair {m : List Mv} (h : mapR m = 0) : m.Pairwise Mv.ahead := by
  rw [List.pairwise_iff_getElem]
  intro i j hi hj hij
  exact map_ahead h j i hij (List.getElem?_eq_getElem hi) (List.getElem?_eq_getElem hj)
def Mv.tapart (x y : Mv) : Prop := x.other ≠ y.other ∨ x.to + x.len ≤ y.to ∨ y.to + y.len ≤ x.to
theorem over_apart {a b : Mv} (ha : a.Good) (hb : b.Good) (h : overB a b = false) : a.tapart b := by
  unfold overB at h
  rw [ha.till, hb.till] at h
  simp only [Bool.and_eq_false_iff, decide_eq_false_iff_not] at h
  unfold Mv.tapart
  rcases h with (h | h) | h
  · left; intro e; rw [e, beqL_rfl] at h; cases h
  · right; omega
  · right; omega
theorem Mv.ahead_apart {x y : Mv} (h : x.ahead y) : x.apart y := by
  unfold Mv.ahead at h
  unfold Mv.apart
  rcases h with h | h
  · left; intro e; rw [e, strLt_irrefl] at h; cases h
  · exact .inr (.inl h.2)
structure Fair (m : List Mv) : Prop where
  good : ∀ x ∈ m, x.Good
  src : m.Pairwise Mv.apart
  dst : m.Pairwise Mv.tapart
theorem fair_of {m : List Mv} (h : mapR m = 0) : Fair m where
  good := fun x hx => map_good h hx
  src := (map_pair h).imp Mv.ahead_apart
  dst := by
    rw [List.pairwise_iff_getElem]
    intro i j hi hj hij
    have e1 := List.getElem?_eq_getElem hi
    have e2 := List.getElem?_eq_getElem hj
    exact over_apart (map_good h (List.mem_of_getElem? e1)) (map_good h (List.mem_of_getElem? e2)) ((map_step h e2).2 i _ hij e1)
theorem fair_nil : Fair [] := ⟨fun x hx => (by cases hx), List.Pairwise.nil, List.Pairwise.nil⟩
theorem undos_undos (m : List Mv) : (m.map undoMv).map undoMv = m := by
  rw [List.map_map]
  have : undoMv ∘ undoMv = id := rfl
  rw [this, List.map_id]
theorem Fair.undo {m : List Mv} (h : Fair m) : Fair (m.map undoMv) where
  good := fun x hx => by
    obtain ⟨y, hy, rfl⟩ := List.mem_map.1 hx
    exact (h.good y hy).undo
  src := by
    rw [List.pairwise_map]
    exact h.dst
  dst := by
    rw [List.pairwise_map]
    exact h.src
theorem Fair.uniq : ∀ {m : List Mv}, Fair m → ∀ {x y : Mv}, x ∈ m → y ∈ m → x.line = y.line → ∀ {q : Int}, x.fr ≤ q → q < x.fr + x.len → y.fr ≤ q → q < y.fr + y.len → x = y
  | [], _, x, y, hx, _, _, _, _, _, _, _ => by cases hx
  | z :: r, h, x, y, hx, hy, hl, q, a1, a2, b1, b2 => by
    have hs := List.pairwise_cons.1 h.src
    rcases List.mem_cons.1 hx with rfl | hx' <;> rcases List.mem_cons.1 hy with rfl | hy'
    · rfl
    · exfalso
      rcases hs.1 y hy' with c | c | c
      · exact c hl
      · omega
      · omega
    · exfalso
      rcases hs.1 x hx' with c | c | c
      · exact c hl.symm
      · omega
      · omega
    · exact Fair.uniq ⟨fun x hx => h.good x (by simp [hx]), hs.2, (List.pairwise_cons.1 h.dst).2⟩ hx' hy' hl a1 a2 b1 b2
theorem atI_dst {x : Mv} (hx : x.Good) {q : Int} (h0 : x.fr ≤ q) (h1 : q < x.fr + x.len) : atI x q = x.dst (q - x.fr) := by
  have := hx.fr; have := hx.len; have := hx.frl; have := hx.to; have := hx.tol
  have e1 : Int.sub (x.to + x.len) 1 = x.to + x.len - 1 := rfl
  have e2 : Int.sub q x.fr = q - x.fr := rfl
  have e3 : Int.sub (x.to + x.len - 1) (q - x.fr) = x.to + x.len - 1 - (q - x.fr) := rfl
  have e4 : Int.add x.to q = x.to + q := rfl
  have e5 : Int.sub (x.to + q) x.fr = x.to + q - x.fr := rfl
  unfold atI Mv.dst
  rw [hx.till, e1, wrap_small (x := x.to + x.len - 1) (by omega) (by omega), e2, wrap_small (x := q - x.fr) (by omega) (by omega), e3, wrap_small (x := x.to + x.len - 1 - (q - x.fr)) (by omega) (by omega), e4, wrap_small (x := x.to + q) (by omega) (by omega), e5, wrap_small (x := x.to + q - x.fr) (by omega) (by omega)]
  split <;> omega
theorem hit_of {x : Mv} (hx : x.Good) {s : List Nat} {q : Int} (h1 : x.line = s) (h2 : x.fr ≤ q) (h3 : q < x.fr + x.len) : hitMv s q x = true := by
  unfold hitMv
  rw [hx.end_, h1, beqL_rfl]
  simp only [Bool.true_and, Bool.and_eq_true, Bool.not_eq_true', decide_eq_true_eq, decide_eq_false_iff_not]
  omega
theorem carO_iff {m : List Mv} (h : Fair m) {p q : Pl} : carO m p = some q ↔ ∃ x ∈ m, x.line = p.1 ∧ x.fr ≤ p.2 ∧ p.2 < x.fr + x.len ∧ q = (x.other, x.dst (p.2 - x.fr)) := by
  constructor
  · intro hc
    obtain ⟨x, hx, hh, rfl⟩ := carO_hit hc
    have hg := h.good x hx
    obtain ⟨h1, h2, h3⟩ := hit_in hg hh
    exact ⟨x, hx, h1, h2, h3, by rw [atI_dst hg h2 h3]⟩
  · rintro ⟨x, hx, h1, h2, h3, rfl⟩
    have hg := h.good x hx
    have hh : hitMv p.1 p.2 x = true := hit_of hg h1 h2 h3
    have hs : (m.find? (hitMv p.1 p.2)).isSome := by rw [List.find?_isSome]; exact ⟨x, hx, hh⟩
    obtain ⟨y, hy⟩ := Option.isSome_iff_exists.1 hs
    have hym := List.mem_of_find?_eq_some hy
    have hyh : hitMv p.1 p.2 y = true := by simpa using List.find?_some hy
    obtain ⟨k1, k2, k3⟩ := hit_in (h.good y hym) hyh
    have e : y = x := h.uniq hym hx (k1.trans h1.symm) k2 k3 h2 h3
    subst e
    unfold carO
    rw [hy]
    simp only [Option.map_some, atI_dst hg h2 h3]
theorem carO_back {m : List Mv} (h : Fair m) {p q : Pl} (hc : carO m p = some q) : carO (m.map undoMv) q = some p := by
  obtain ⟨x, hx, h1, h2, h3, rfl⟩ := (carO_iff h).1 hc
  rw [carO_iff h.undo]
  obtain ⟨s, k⟩ := p
  simp only at h1 h2 h3
  have hd : x.to ≤ x.dst (k - x.fr) ∧ x.dst (k - x.fr) < x.to + x.len := by unfold Mv.dst; split <;> omega
  refine ⟨undoMv x, List.mem_map.2 ⟨x, hx, rfl⟩, rfl, hd.1, hd.2, ?_⟩
  have e : (undoMv x).dst (x.dst (k - x.fr) - x.to) = k := by
    unfold Mv.dst undoMv
    simp only []
    cases x.turned <;> simp <;> omega
  show (s, k) = (x.line, (undoMv x).dst (x.dst (k - x.fr) - x.to))
  rw [e, h1]
theorem carO_inv {m : List Mv} (h : Fair m) {p q : Pl} : carO m p = some q ↔ carO (m.map undoMv) q = some p := by
  refine ⟨carO_back h, fun hc => ?_⟩
  have := carO_back h.undo hc
  rw [undos_undos] at this
  exact this
end Go.Sim

/-
The law: NetworkMaps returns true.
-/
namespace Go.Sim
open Go Go.Proofs
set_option maxRecDepth 100000
set_option maxHeartbeats 16000000
noncomputable def PPF5 : FuncId → Option (List AV → Option AV) := addPrim 19 p19 (addPrim 50 p50 (addPrim 49 p49 (addPrim 48 p48 (addPrim 34 p34 (addPrim 22 p22 (addPrim 47 p47 (addPrim 46 p46 (addPrim 45 p45 (addPrim 44 p44 (addPrim 43 p43 (addPrim 42 p42 (addPrim 41 p41 (addPrim 17 p17 (addPrim 16 p16 (fun _ => none)))))))))))))))
theorem primsF5 : PrimsOk NC PPF5 := primsOk_add (primsOk_add (primsOk_add (primsOk_add (primsOk_add (primsOk_add (primsOk_add (primsOk_add (primsOk_add (primsOk_add (primsOk_add (primsOk_add (primsOk_add (primsOk_add (primsOk_add (primsOk_none) (by kernel_rfl) (by kernel_rfl) pok16) (by kernel_rfl) (by kernel_rfl) pok17) (by kernel_rfl) (by kernel_rfl) pok41) (by kernel_rfl) (by kernel_rfl) pok42) (by kernel_rfl) (by kernel_rfl) pok43) (by kernel_rfl) (by kernel_rfl) pok44) (by kernel_rfl) (by kernel_rfl) pok45) (by kernel_rfl) (by kernel_rfl) pok46) (by kernel_rfl) (by kernel_rfl) pok47) (by kernel_rfl) (by kernel_rfl) pok22) (by kernel_rfl) (by kernel_rfl) pok34) (by kernel_rfl) (by kernel_rfl) pok48) (by kernel_rfl) (by kernel_rfl) pok49) (by kernel_rfl) (by kernel_rfl) pok50) (by kernel_rfl) (by kernel_rfl) pok19
theorem enF5_16 : En PPF5 16 p16 := enter_prim (by rfl) (by kernel_rfl)
theorem enF5_17 : En PPF5 17 p17 := enter_prim (by rfl) (by kernel_rfl)
theorem enF5_41 : En PPF5 41 p41 := enter_prim (by rfl) (by kernel_rfl)
theorem enF5_42 : En PPF5 42 p42 := enter_prim (by rfl) (by kernel_rfl)
theorem enF5_43 : En PPF5 43 p43 := enter_prim (by rfl) (by kernel_rfl)
theorem enF5_44 : En PPF5 44 p44 := enter_prim (by rfl) (by kernel_rfl)
theorem enF5_45 : En PPF5 45 p45 := enter_prim (by rfl) (by kernel_rfl)
theorem enF5_46 : En PPF5 46 p46 := enter_prim (by rfl) (by kernel_rfl)
theorem enF5_47 : En PPF5 47 p47 := enter_prim (by rfl) (by kernel_rfl)
theorem enF5_22 : En PPF5 22 p22 := enter_prim (by rfl) (by kernel_rfl)
theorem enF5_34 : En PPF5 34 p34 := enter_prim (by rfl) (by kernel_rfl)
theorem enF5_48 : En PPF5 48 p48 := enter_prim (by rfl) (by kernel_rfl)
theorem enF5_49 : En PPF5 49 p49 := enter_prim (by rfl) (by kernel_rfl)
theorem enF5_50 : En PPF5 50 p50 := enter_prim (by rfl) (by kernel_rfl)
theorem enF5_19 : En PPF5 19 p19 := enter_prim (by rfl) (by kernel_rfl)
attribute [go_sem ↓] enF5_16 enF5_17 enF5_41 enF5_42 enF5_43 enF5_44 enF5_45 enF5_46 enF5_47 enF5_22 enF5_34 enF5_48 enF5_49 enF5_50 enF5_19
theorem shortM_few {m : List Mv} (h : shortM m = true) : m.length ≤ 25 ∧ ∀ x ∈ m, x.line.length ≤ 40 ∧ x.other.length ≤ 40 := by
  unfold shortM at h
  simp only [Bool.and_eq_true, Bool.not_eq_true', decide_eq_false_iff_not, List.all_eq_true] at h
  refine ⟨by omega, fun x hx => ?_⟩
  have := h.1 x hx
  unfold shortMv shortB at this
  simp only [Bool.and_eq_true, Bool.not_eq_true', decide_eq_false_iff_not] at this
  omega
theorem shortM_ok {m : List Mv} (h : shortM m = true) : MapOk m := by
  obtain ⟨h1, h2⟩ := shortM_few h
  refine ⟨by unfold maxRows; omega, fun x hx => ?_⟩
  have := h2 x hx
  unfold maxRows; omega
theorem carR_shape (m : List Mv) (s : List Nat) (q : Int) : ∃ s' k b, carR m s q = [.agg [.str s', .int .i64 k], .bool b] ∧ (b = false → s' = [] ∧ k = 0) := by
  unfold carR
  cases m.find? (hitR s q) with
  | none => exact ⟨_, _, _, rfl, fun _ => ⟨rfl, rfl⟩⟩
  | some x => exact ⟨_, _, _, rfl, fun h => by cases h⟩
theorem firstI_two (a b : Int) : firstI [a, b] = if a = 0 then b else a := by
  simp only [firstI_cons, firstI_nil]
  split
  · split
    · rename_i h; exact h.symm
    · rfl
  · rfl
theorem carried_same {m : List Mv} {s : List Nat} {q : Int} : carriedP m s q = (if firstI [mapR m, pointI s q] = 0 then (match carR m s q with | [p, .bool b] => [p, i64 (whenI (!b) 7)] | _ => []) else [noPlace, i64 (firstI [mapR m, pointI s q])]) := by
  obtain ⟨s', k, b, hc, hcp⟩ := carP_shape m s q
  rw [hcp, map_same]
  have he : firstI [mapR m, whenI (!nameB s) 8, rangeI q 0 800000] = firstI [mapR m, pointI s q] := by
    rw [firstI_two]
    unfold pointI
    rw [firstI_cons]
  simp only [he]
  by_cases z : firstI [mapR m, pointI s q] = 0
  · simp only [z, if_true]
    have hz := firstI_zero z
    have h1 : mapR m = 0 := hz _ (by simp)
    have h2 : pointI s q = 0 := hz _ (by simp)
    have h3 := rangeI_zero (firstI_zero h2 (rangeI q 0 800000) (by simp))
    rw [← car_same h1 s h3.1 h3.2, hc]
  · simp only [z, if_false]
theorem c5 (m : List Mv) (a b : Net) (s : List Nat) (q : Int) (hm : m.length ≤ 9223372036854775807) : ∀ lo H, CallOk NC lo 5 [.ps .unk (m.map Mv.row), .agg (a.cells ++ b.cells), .agg [.str s, i64 q]] H (.bool true) H := by
  refine contract saneNC primsF5 (fn := Tryz.f5) (by kernel_rfl) Tryz.func5 rfl rfl (by rfl) (by rfl) ?_
  have e41 := pe41 m hm
  have ea := pe17 a trivial
  have eb := pe17 b trivial
  simp only [Net.cells, i64] at ea eb
  cases hS : shortM m with
  | false =>
    simp only [hS] at e41
    simp only [go_sem, reduceIte, Nat.reduceEqDiff, Nat.reduceAdd, Nat.reduceMul, Nat.reduceSub, Nat.reduceLeDiff, Nat.reduceLT, Nat.reduceBEq, reduceCtorEq, Net.cells, e16, e41]
  | true =>
  simp only [hS] at e41
  cases hA : shortN a with
  | false =>
    simp only [hA] at ea
    simp only [go_sem, reduceIte, Nat.reduceEqDiff, Nat.reduceAdd, Nat.reduceMul, Nat.reduceSub, Nat.reduceLeDiff, Nat.reduceLT, Nat.reduceBEq, reduceCtorEq, Net.cells, e16, e41, ea]
  | true =>
  simp only [hA] at ea
  cases hB : shortN b with
  | false =>
    simp only [hB] at eb
    simp only [go_sem, reduceIte, Nat.reduceEqDiff, Nat.reduceAdd, Nat.reduceMul, Nat.reduceSub, Nat.reduceLeDiff, Nat.reduceLT, Nat.reduceBEq, reduceCtorEq, Net.cells, e16, e41, ea, eb]
  | true =>
  simp only [hB] at eb
  rcases Classical.propComplete ((40 : Int) < s.length) with q1 | q1
  · simp only [go_sem, reduceIte, Nat.reduceEqDiff, Nat.reduceAdd, Nat.reduceMul, Nat.reduceSub, Nat.reduceLeDiff, Nat.reduceLT, Nat.reduceBEq, reduceCtorEq, Net.cells, e16, e41, ea, eb, q1]
  have hs : s.length ≤ maxRows := by have := of_eq_false q1; unfold maxRows; omega
  have hM := shortM_ok hS
  have hAo := short_ok hA
  have hBo := short_ok hB
  have e43 := pe43 m hM.few
  have e42 := pe42 m s q ⟨hM, hs⟩
  have e44 := pe44 m hM.few
  have e22a := pe22 a ⟨hAo.fits, hAo.sws, hAo.sts⟩
  have e22b := pe22 b ⟨hBo.fits, hBo.sws, hBo.sts⟩
  have e45 := pe45 m a b ⟨hM.few, hAo.fits, hBo.fits⟩
  have e46 := pe46 s q
  have e47 := pe47 m s q hM.few
  have e49 := pe49 m hM
  have e50 := pe50 m a b ⟨hM, hAo, hBo⟩
  have e19a := pe19 a ⟨hAo.fits, hAo.sws, hAo.sts⟩
  have e19b := pe19 b ⟨hBo.fits, hBo.sws, hBo.sts⟩
  rw [carried_same] at e42
  rw [map_same] at e49
  have hfp : fitsP a b m = (if firstI [mapR m, netR a, netR b] = 0 then fitsR a b m else firstI [mapR m, netR a, netR b]) := by
    unfold fitsP fitsR; simp only [map_same, net_same]
  rw [hfp] at e50
  simp only [Net.cells, i64] at e22a e22b e45 e19a e19b e50
  obtain ⟨s', k', b', hcr, hno⟩ := carR_shape m s q
  rw [hcr] at e42 e47
  generalize hF : fitsR a b m = F at e45 e50
  generalize hE : firstI [mapR m, netR a, netR b] = E at e50
  generalize hG : firstI [mapR m, pointI s q] = G at e42
  rcases Classical.propComplete (E = 0) with z1 | z1 <;> rcases Classical.propComplete (G = 0) with z2 | z2 <;> simp only [z1, z2, if_true, if_false, noPlace, i64] at e50 e42 <;>
    simp only [go_sem, reduceIte, Nat.reduceEqDiff, Nat.reduceAdd, Nat.reduceMul, Nat.reduceSub, Nat.reduceLeDiff, Nat.reduceLT, Nat.reduceBEq, reduceCtorEq, Net.cells, e16, e41, ea, eb, q1, e43, e42, e44, e22a, e22b, e34_3, e34_2, e45, e46, e47, e48, e49, e50, e19a, e19b, hE, hG, z1, z2, ety28, aeq28]
end Go.Sim

/-
Addresses as keys of a map; the reference's Small; the program's Posts.
-/
namespace Go.Sim
open Go Go.Proofs
set_option maxRecDepth 100000
set_option maxHeartbeats 8000000
abbrev Ad : Type := List Nat × Int × Int
def adRow (a : Ad) : List AV := [.str a.1, i64 a.2.1, i64 a.2.2]
def adB (a b : Ad) : Bool := beqL a.1 b.1 && (eqI a.2.1 b.2.1 && eqI a.2.2 b.2.2)
theorem adB_iff (a b : Ad) : adB a b = true ↔ a = b := by
  obtain ⟨a1, a2, a3⟩ := a
  obtain ⟨b1, b2, b3⟩ := b
  unfold adB
  simp only [Bool.and_eq_true, beqL_iff, eqI_iff, decide_eq_true_eq, Prod.mk.injEq]
theorem aeq42' (a a' : List Nat) (b b' c c' : Int) : aeqT NC.P 100 42 (.agg [.str a, .int .i64 b, .int .i64 c]) (.agg [.str a', .int .i64 b', .int .i64 c']) =
    (match some (beqL a a') with
    | some true => (match some (eqI b b') with
      | some true => (match some (eqI c c') with
        | some true => some true
        | some false => some false
        | none => none)
      | some false => some false
      | none => none)
    | some false => some false
    | none => none) := by kernel_rfl
theorem aeq42 (a b : Ad) : aeqT NC.P 100 42 (.agg (adRow a)) (.agg (adRow b)) = some (adB a b) := by
  unfold adRow adB
  rw [aeq42']
  cases beqL a.1 b.1 <;> cases eqI a.2.1 b.2.1 <;> cases eqI a.2.2 b.2.2 <;> rfl
theorem ety42 : eqType NC.P 100 42 = true := by kernel_rfl
end Go.Sim

/-
The plain law: each metre of a valid line has one address, and it names this metre alone.
-/
namespace Go.Sim
open Go
def postE (p : Pc) (i : Int) : Int := if p.back then p.post - i else p.post + i
structure Ln.Fine (l : Ln) : Prop where
  good : l.Good
  most : ∀ p ∈ l.ps, ∀ i : Int, 0 ≤ i → i < p.len → 0 ≤ postE p i ∧ postE p i ≤ 9999999
theorem line_fine {n : Net} (h : netR n = 0) {i : Nat} {l : Ln} (hl : n.lines[i]? = some l) : l.Fine := by
  have hg := line_good h hl
  refine ⟨hg, fun p hpm i h0 h1 => ?_⟩
  have hz := allR_zero (netR_lines h) (List.getElem?_eq_some_iff.1 hl).1
  unfold lineR at hz
  simp only [hl] at hz
  split at hz
  · have hp := firstI_zero hz
    have h2 := hp (pieceR p) (List.mem_map.2 ⟨p, hpm, rfl⟩)
    have hgp := hg.piece p hpm
    unfold pieceR at h2
    simp only [] at h2
    split at h2
    · have hlast : 0 ≤ postE p (p.len - 1) ∧ postE p (p.len - 1) ≤ 9999999 := by
        have e0 : Int.sub p.len 1 = p.len - 1 := rfl
        rw [e0, wrap_small (x := p.len - 1) (by omega) (by omega)] at h2
        have hpe : postI p (p.len - 1) = postE p (p.len - 1) := by
          unfold postI postE
          split
          · rw [wrap_small (by omega) (by omega)]
          · rw [wrap_small (by omega) (by omega)]
        rw [hpe] at h2
        unfold whenI at h2
        split at h2
        · cases h2
        · rename_i hc
          simp only [Bool.or_eq_true, decide_eq_true_eq, not_or] at hc
          omega
      unfold postE at hlast ⊢
      split <;> rename_i hb <;> simp only [hb, if_true, Bool.false_eq_true, if_false] at hlast <;> omega
    · rename_i he; exact absurd h2 he
  · rename_i he; exact absurd hz he
theorem line_found {n : Net} (h : netR n = 0) {i : Nat} {l : Ln} (hl : n.lines[i]? = some l) : findL n.lines l.name = some i := by
  have hz := allR_zero (netR_lines h) (List.getElem?_eq_some_iff.1 hl).1
  unfold lineR at hz
  simp only [hl] at hz
  split at hz
  · rename_i he
    have hd := firstI_zero he (whenI (decide (findI n.lines l.name < i)) 9) (by simp)
    have hlt : ¬ (findI n.lines l.name < i) := by
      intro hc; rw [decide_eq_true hc] at hd; simp [whenI] at hd
    unfold findI at hlt
    cases hf : findL n.lines l.name with
    | none => rw [hf] at hlt; exfalso; simp only at hlt; omega
    | some k =>
      rw [hf] at hlt
      simp only at hlt
      have hki : i ≤ k := by omega
      unfold findL at hf
      rw [List.findIdx?_eq_some_iff_getElem] at hf
      obtain ⟨hk, _, hmin⟩ := hf
      by_cases e : k = i
      · rw [e]
      · have := hmin i (by omega)
        rw [(List.getElem?_eq_some_iff.1 hl).2] at this
        exact absurd (beqL_self l.name) (by simpa using this)
  · rename_i he; exact absurd hz he
variable {l : Ln}
theorem beg_zero (l : Ln) : begI l 0 = 0 := by unfold begI; simp [sumW]
theorem addr_of (hf : l.Fine) {m : Int} (h0 : 0 ≤ m) (h1 : m < sumW l.ps 0) : ∃ k p, l.ps[k]? = some p ∧ k < l.ps.length ∧ begI l k ≤ m ∧ m < begI l k + p.len ∧ addrK l m l.ps.length = ((k : Int), postE p (m - begI l k)) ∧ 0 ≤ postE p (m - begI l k) ∧ postE p (m - begI l k) ≤ 9999999 := by
  have hg := hf.good
  rw [← begI_all] at h1
  obtain ⟨k, p, hk, hp, c1, c2, he⟩ := (addrK_at hg h0 l.ps.length (Nat.le_refl _)).2 h1
  have hstep := beg_step hg hp
  have hb := beg_bound hg k (by omega)
  have hgp := hg.piece p (List.mem_of_getElem? hp)
  have h8 := hg.few
  have hm := hf.most p (List.mem_of_getElem? hp) (m - begI l k) (by omega) (by omega)
  refine ⟨k, p, hp, hk, c1, by omega, ?_, hm⟩
  rw [he]
  have e : Int.sub m (begI l k) = m - begI l k := rfl
  rw [e, post_same (p := p) (x := m - begI l k) (by omega), wrap_small (x := m - begI l k) (by omega) (by omega)]
  congr 1
  unfold postI postE
  split
  · rw [wrap_small (by omega) (by omega)]
  · rw [wrap_small (by omega) (by omega)]
theorem offI_postE {p : Pc} {i : Int} (hi : 0 ≤ i ∧ i ≤ 100000) (hp : 0 ≤ p.post ∧ p.post ≤ 9999999) (hq : 0 ≤ postE p i ∧ postE p i ≤ 9999999) : offI p (postE p i) = i := by
  unfold offI
  unfold postE at hq ⊢
  cases p.back with
  | true =>
    simp only [if_true] at hq ⊢
    have e : Int.sub p.post (p.post - i) = i := by show p.post - (p.post - i) = i; omega
    rw [e, wrap_small (by omega) (by omega)]
  | false =>
    simp only [Bool.false_eq_true, if_false] at hq ⊢
    have e : Int.sub (p.post + i) p.post = i := by show p.post + i - p.post = i; omega
    rw [e, wrap_small (by omega) (by omega)]
theorem metreB_iff {p : Pc} {P : Int} (hp : 0 ≤ p.post ∧ p.post ≤ 9999999) (hP : 0 ≤ P ∧ P ≤ 9999999) : metreB p P = true ↔ 0 ≤ offI p P ∧ offI p P < p.len := by
  unfold metreB
  rw [off_same hp hP]
  simp only [Bool.and_eq_true, Bool.not_eq_true', decide_eq_true_eq, decide_eq_false_iff_not]
  omega
theorem placed_back {n : Net} {j : Nat} (hz : netR n = 0) (hl : n.lines[j]? = some l) {m : Int} (h0 : 0 ≤ m) (h1 : m < sumW l.ps 0) :
    placedP n l.name (addrK l m l.ps.length).1 (addrK l m l.ps.length).2 = [.agg [.str l.name, i64 m], i64 0] := by
  have hf := line_fine hz hl
  have hg := hf.good
  obtain ⟨k, p, hp, hk, c1, c2, he, hq⟩ := addr_of hf h0 h1
  have hfl := line_found hz hl
  have hlo : lnOf n.lines l.name = l := by unfold lnOf; rw [hfl]; simp [hl]
  have hlb : lnB n.lines l.name = true := by unfold lnB; rw [hfl]; rfl
  have hgp := hg.piece p (List.mem_of_getElem? hp)
  have h8 := hg.few
  have hb := beg_bound hg k (by omega)
  rw [he]
  unfold placedP
  simp only [hlo, hlb, Bool.not_true, whenI_false, firstI_cons, firstI_nil, if_true]
  have hk0 : ¬ ((k : Int) < 0) := by omega
  have hk1 : (k : Int) < (l.ps.length : Nat) := by omega
  have hr : rangeI (postE p (m - begI l k)) 0 9999999 = 0 := by
    unfold rangeI whenI
    have a : ¬ (postE p (m - begI l k) < 0) := by omega
    have b : ¬ (9999999 < postE p (m - begI l k)) := by omega
    simp [a, b]
  simp only [hk0, hk1, decide_false, decide_true, Bool.not_true, Bool.or_self, whenI_false, if_true, hr]
  have hoff := offI_postE (p := p) (i := m - begI l k) (by omega) ⟨hgp.2.2.1, hgp.2.2.2⟩ hq
  have hmb : metreB p (postE p (m - begI l k)) = true := by
    rw [metreB_iff ⟨hgp.2.2.1, hgp.2.2.2⟩ hq, hoff]; omega
  have hmi : metreI p (postE p (m - begI l k)) = m - begI l k := by rw [off_same ⟨hgp.2.2.1, hgp.2.2.2⟩ hq, hoff]
  rw [placedV_hit hp hmb rfl, hmi]
  have e : Int.add (begI l k) (m - begI l k) = m := by show begI l k + (m - begI l k) = m; omega
  have := sum_bound hg
  rw [e, wrap_small (by omega) (by omega)]
end Go.Sim

/-
The plain law of histories: from survey to survey and back.
-/
namespace Go.Sim
open Go
theorem mapAt_fair {h : List Sv} (hz : histR h = 0) (k : Nat) : Fair (mapAt h k) := by
  unfold mapAt
  cases hs : h[k]? with
  | none => exact fair_nil
  | some s => exact fair_of (hist_surv hz hs).2.1
theorem goUp_add (h : List Sv) : ∀ (n k a : Nat) (p : Pl), goUp h (n + k) a p = (goUp h n a p).bind (goUp h k (a + n))
  | 0, k, a, p => by rw [Nat.zero_add]; rfl
  | n + 1, k, a, p => by
    have e : n + 1 + k = (n + k) + 1 := by omega
    rw [e]
    simp only [goUp]
    cases carO (mapAt h (a + 1)) p with
    | none => rfl
    | some q =>
      simp only []
      rw [goUp_add h n k (a + 1) q]
      have e2 : a + 1 + n = a + (n + 1) := by omega
      rw [e2]
theorem goUp_one (h : List Sv) (a : Nat) (p : Pl) : goUp h 1 a p = carO (mapAt h (a + 1)) p := by
  simp only [goUp]
  cases carO (mapAt h (a + 1)) p <;> rfl
theorem up_down {h : List Sv} (hz : histR h = 0) : ∀ (n a : Nat) (p q : Pl), goUp h n a p = some q ↔ goDown h n (a + n) q = some p
  | 0, a, p, q => by
    simp only [goUp, goDown, Option.some.injEq]
    exact eq_comm
  | n + 1, a, p, q => by
    rw [goUp_add h n 1 a p]
    have e : a + (n + 1) = a + n + 1 := by omega
    simp only [goDown, e, Nat.add_sub_cancel]
    constructor
    · intro hc
      obtain ⟨r, h1, h2⟩ := Option.bind_eq_some_iff.1 hc
      rw [goUp_one, carO_inv (mapAt_fair hz _)] at h2
      rw [h2]
      exact (up_down hz n a p r).1 h1
    · intro hc
      cases hr : carO ((mapAt h (a + n + 1)).map undoMv) q with
      | none => rw [hr] at hc; cases hc
      | some r =>
        rw [hr] at hc
        rw [(up_down hz n a p r).2 hc]
        show goUp h 1 (a + n) r = some q
        rw [goUp_one, carO_inv (mapAt_fair hz _)]
        exact hr
def upR (h : List Sv) (a b : Nat) (p q : Pl) : Prop := goUp h (b - a) a p = some q
theorem goP_iff {h : List Sv} (hz : histR h = 0) (a b : Nat) (p q : Pl) : goP h a b p = some q ↔ (a ≤ b ∧ upR h a b p q) ∨ (b ≤ a ∧ upR h b a q p) := by
  unfold goP upR
  by_cases hab : a < b
  · rw [if_pos hab]
    constructor
    · intro hc; exact .inl ⟨by omega, hc⟩
    · rintro (⟨_, hc⟩ | ⟨hc, _⟩)
      · exact hc
      · omega
  · rw [if_neg hab]
    have e : b + (a - b) = a := by omega
    have hud := up_down hz (a - b) b q p
    rw [e] at hud
    constructor
    · intro hc; exact .inr ⟨by omega, hud.2 hc⟩
    · rintro (⟨hc, h2⟩ | ⟨_, hc⟩)
      · have : a = b := by omega
        subst this
        simp only [Nat.sub_self, goUp, goDown, Option.some.injEq] at h2 ⊢
        exact h2
      · exact hud.1 hc
theorem goP_inv {h : List Sv} (hz : histR h = 0) {a b : Nat} {p q : Pl} (hc : goP h a b p = some q) : goP h b a q = some p := by
  rw [goP_iff hz] at hc ⊢
  rcases hc with hc | hc
  · exact .inr hc
  · exact .inl hc
theorem up_split {h : List Sv} {a b c : Nat} (h1 : a ≤ b) (h2 : b ≤ c) {p r : Pl} : upR h a c p r ↔ ∃ q, upR h a b p q ∧ upR h b c q r := by
  unfold upR
  have e : c - a = (b - a) + (c - b) := by omega
  have e2 : a + (b - a) = b := by omega
  rw [e, goUp_add, e2, Option.bind_eq_some_iff]
theorem up_fun {h : List Sv} {a b : Nat} {p q q' : Pl} (h1 : upR h a b p q) (h2 : upR h a b p q') : q = q' := by
  unfold upR at h1 h2
  rw [h1] at h2
  exact Option.some.inj h2
theorem up_inj {h : List Sv} (hz : histR h = 0) {a b : Nat} {p p' q : Pl} (h1 : upR h a b p q) (h2 : upR h a b p' q) : p = p' := by
  unfold upR at h1 h2
  rw [up_down hz] at h1 h2
  rw [h1] at h2
  exact Option.some.inj h2
theorem goP_trans {h : List Sv} (hz : histR h = 0) {a b c : Nat} {p q r : Pl} (h1 : goP h a b p = some q) (h2 : goP h b c q = some r) : goP h a c p = some r := by
  rw [goP_iff hz] at h1 h2 ⊢
  rcases h1 with ⟨l1, u1⟩ | ⟨l1, u1⟩ <;> rcases h2 with ⟨l2, u2⟩ | ⟨l2, u2⟩
  · exact .inl ⟨by omega, (up_split l1 l2).2 ⟨q, u1, u2⟩⟩
  · by_cases hac : a ≤ c
    · obtain ⟨s, s1, s2⟩ := (up_split hac l2).1 u1
      have := up_inj hz s2 u2
      subst this
      exact .inl ⟨hac, s1⟩
    · obtain ⟨s, s1, s2⟩ := (up_split (b := a) (by omega) l1).1 u2
      have := up_inj hz s2 u1
      subst this
      exact .inr ⟨by omega, s1⟩
  · by_cases hac : a ≤ c
    · obtain ⟨s, s1, s2⟩ := (up_split l1 hac).1 u2
      have := up_fun s1 u1
      subst this
      exact .inl ⟨hac, s2⟩
    · obtain ⟨s, s1, s2⟩ := (up_split (b := c) l2 (by omega)).1 u1
      have := up_fun s1 u2
      subst this
      exact .inr ⟨by omega, s2⟩
  · exact .inr ⟨by omega, (up_split l2 l1).2 ⟨q, u2, u1⟩⟩
/-! ### Places stay within the networks -/
theorem goUp_in {h : List Sv} (hz : histR h = 0) : ∀ (n a : Nat) (p q : Pl), a + n < h.length → inNet (netAt h a) p → goUp h n a p = some q → inNet (netAt h (a + n)) q
  | 0, a, p, q, _, hp, hc => by simp only [goUp, Option.some.injEq] at hc; subst hc; exact hp
  | n + 1, a, p, q, hl, hp, hc => by
    simp only [goUp] at hc
    cases hr : carO (mapAt h (a + 1)) p with
    | none => rw [hr] at hc; cases hc
    | some r =>
      rw [hr] at hc
      have hs1 : h[a + 1]? = some (h[a + 1]'(by omega)) := List.getElem?_eq_getElem (by omega)
      have hs0 : h[a]? = some (h[a]'(by omega)) := List.getElem?_eq_getElem (by omega)
      generalize h[a + 1]'(by omega) = s1 at hs1
      generalize h[a]'(by omega) = s0 at hs0
      have hv := hist_surv hz hs1
      have hf := hv.2.2 (by omega)
      rw [prevN_eq hs0] at hf
      rw [mapAt_eq hs1] at hr
      have hin : inNet (netAt h (a + 1)) r := by rw [netAt_eq hs1]; exact car_in hv.2.1 hf hr
      have := goUp_in hz n (a + 1) r q (by omega) hin hc
      have e : a + 1 + n = a + (n + 1) := by omega
      rw [e] at this
      exact this
theorem goDown_in {h : List Sv} (hz : histR h = 0) : ∀ (n a : Nat) (p q : Pl), n ≤ a → a < h.length → inNet (netAt h a) p → goDown h n a p = some q → inNet (netAt h (a - n)) q
  | 0, a, p, q, _, _, hp, hc => by simp only [goDown, Option.some.injEq] at hc; subst hc; exact hp
  | n + 1, a, p, q, hn, hl, hp, hc => by
    simp only [goDown] at hc
    cases hr : carO ((mapAt h a).map undoMv) p with
    | none => rw [hr] at hc; cases hc
    | some r =>
      rw [hr] at hc
      obtain ⟨b, rfl⟩ : ∃ b, a = b + 1 := ⟨a - 1, by omega⟩
      have hs1 : h[b + 1]? = some (h[b + 1]'(by omega)) := List.getElem?_eq_getElem (by omega)
      have hs0 : h[b]? = some (h[b]'(by omega)) := List.getElem?_eq_getElem (by omega)
      generalize h[b + 1]'(by omega) = s1 at hs1
      generalize h[b]'(by omega) = s0 at hs0
      have hv := hist_surv hz hs1
      have hf := hv.2.2 (by omega)
      rw [prevN_eq hs0] at hf
      rw [mapAt_eq hs1] at hr
      have hin : inNet (netAt h b) r := by rw [netAt_eq hs0]; exact back_in hv.2.1 hf hr
      have := goDown_in hz n b r q (by omega) (by omega) hin hc
      have e : b + 1 - (n + 1) = b - n := by omega
      rw [e]
      exact this
theorem goP_in {h : List Sv} (hz : histR h = 0) {a b : Nat} {p q : Pl} (ha : a < h.length) (hb : b < h.length) (hp : inNet (netAt h a) p) (hc : goP h a b p = some q) : inNet (netAt h b) q := by
  unfold goP at hc
  split at hc
  · have := goUp_in hz (b - a) a p q (by omega) hp hc
    have e : a + (b - a) = b := by omega
    rw [e] at this
    exact this
  · have := goDown_in hz (a - b) a p q (by omega) ha hp hc
    have e : a - (a - b) = b := by omega
    rw [e] at this
    exact this
/-! ### Addresses -/
def adOf (n : Net) (p : Pl) : Ad := (p.1, (addrK (lnOf n.lines p.1) p.2 (lnOf n.lines p.1).ps.length).1, (addrK (lnOf n.lines p.1) p.2 (lnOf n.lines p.1).ps.length).2)
theorem findL_name {ls : List Ln} {s : List Nat} {i : Nat} {l : Ln} (h : findL ls s = some i) (hl : ls[i]? = some l) : l.name = s := by
  unfold findL at h
  rw [List.findIdx?_eq_some_iff_getElem] at h
  obtain ⟨h1, h2, _⟩ := h
  rw [(List.getElem?_eq_some_iff.1 hl).2] at h2
  exact (beqL_iff _ _).1 h2
theorem placedQ_back {n : Net} (hz : netR n = 0) {p : Pl} (hp : inNet n p) : placedQ n (adOf n p).1 (adOf n p).2.1 (adOf n p).2.2 = (p, 0) := by
  obtain ⟨i, l, hf, hl, h0, h1⟩ := hp
  have hn := findL_name hf hl
  have hlo : lnOf n.lines p.1 = l := by unfold lnOf; rw [hf]; simp [hl]
  have hb := placed_back hz hl h0 h1
  unfold adOf
  simp only [hlo]
  rw [hn] at hb
  have hq := placedQ_eq n p.1 (addrK l p.2 l.ps.length).1 (addrK l p.2 l.ps.length).2
  rw [hb] at hq
  simp only [List.cons.injEq, AV.agg.injEq, AV.str.injEq, AV.int.injEq, true_and, and_true] at hq
  obtain ⟨⟨a, b⟩, c⟩ := hq
  exact Prod.ext (Prod.ext a.symm b.symm) c.symm
theorem since_ad {h : List Sv} (hz : histR h = 0) {d o : Int} {a b : Nat} (ha : onQ h d = ((a : Int), 0)) (hb : onQ h o = ((b : Int), 0)) {p : Pl} (hn : netR (netAt h a) = 0) (hp : inNet (netAt h a) p) :
    sinceI h d (adOf (netAt h a) p).1 (adOf (netAt h a) p).2.1 (adOf (netAt h a) p).2.2 o = match goP h a b p with
      | none => [noAddr, i64 7]
      | some q => [.agg (adRow (adOf (netAt h b) q)), i64 0] := by
  unfold sinceI
  rw [ha, hb]
  simp only [Int.toNat_natCast, placedQ_back hn hp, if_true]
  cases goP h a b p <;> rfl
theorem since_err {h : List Sv} {d o : Int} {a : Nat} (ha : onQ h d = ((a : Int), 0)) (hb : ((onQ h o).2 = 0) = False) {p : Pl} (hn : netR (netAt h a) = 0) (hp : inNet (netAt h a) p) :
    sinceI h d (adOf (netAt h a) p).1 (adOf (netAt h a) p).2.1 (adOf (netAt h a) p).2.2 o = [noAddr, i64 (onQ h o).2] := by
  unfold sinceI
  rw [ha]
  simp only [Int.toNat_natCast, placedQ_back hn hp, if_true, hb, if_false]
theorem onQ_range (h : List Sv) {d : Int} (hd : 0 ≤ d ∧ d ≤ 100000) : (∃ k : Nat, onQ h d = ((k : Int), 0) ∧ k < h.length ∧ ∃ s, h[k]? = some s) ∨ ((onQ h d).2 = 7 ∧ onK h d h.length < 0) := by
  have hr : rangeI d 0 100000 = 0 := by
    unfold rangeI whenI
    have a : ¬ (d < 0) := by omega
    have b : ¬ (100000 < d) := by omega
    simp [a, b]
  by_cases h0 : (onQ h d).2 = 0
  · obtain ⟨k, s, h1, h2, h3⟩ := onQ_good h0
    exact .inl ⟨k, Prod.ext h1 h0, h2, s, h3⟩
  · right
    rw [onQ_alt] at h0 ⊢
    simp only [hr, if_true] at h0 ⊢
    by_cases h1 : onK h d h.length < 0
    · simp only [h1, if_true, and_self]
    · simp only [h1, if_false] at h0; exact absurd trivial h0
theorem since_law {h : List Sv} (hz : histR h = 0) {A B C : Int} (hB : 0 ≤ B ∧ B ≤ 100000) (hC : 0 ≤ C ∧ C ≤ 100000) {k : Nat} (hk : onQ h A = ((k : Int), 0)) (hkl : k < h.length) {p : Pl} (hp : inNet (netAt h k) p) (a : Ad) (ha : a = adOf (netAt h k) p) :
    sinceI h A a.1 a.2.1 a.2.2 A = [.agg (adRow a), i64 0] ∧
    (sinceI h A a.1 a.2.1 a.2.2 B = [noAddr, i64 7] ∨ ∃ b : Ad, sinceI h A a.1 a.2.1 a.2.2 B = [.agg (adRow b), i64 0] ∧ sinceI h B b.1 b.2.1 b.2.2 A = [.agg (adRow a), i64 0] ∧
      ((∃ c : Ad, sinceI h B b.1 b.2.1 b.2.2 C = [.agg (adRow c), i64 0] ∧ sinceI h A a.1 a.2.1 a.2.2 C = [.agg (adRow c), i64 0]) ∨
        (sinceI h B b.1 b.2.1 b.2.2 C = [noAddr, i64 7] ∧ (sinceI h A a.1 a.2.1 a.2.2 C = [noAddr, i64 7] ∨ ∃ c : Ad, sinceI h A a.1 a.2.1 a.2.2 C = [.agg (adRow c), i64 0])))) := by
  subst ha
  have nets : ∀ j, j < h.length → netR (netAt h j) = 0 := fun j hj => by
    have hs : h[j]? = some h[j] := List.getElem?_eq_getElem hj
    rw [netAt_eq hs]
    exact (hist_surv hz hs).1
  have hn := nets k hkl
  have hself : goP h k k p = some p := by unfold goP; simp [goDown]
  have e1 := since_ad hz hk hk hn hp
  rw [hself] at e1
  refine ⟨e1, ?_⟩
  rcases onQ_range h hB with ⟨j, hj, hjl, _⟩ | ⟨hj, _⟩
  · have e2 := since_ad hz hk hj hn hp
    cases hg : goP h k j p with
    | none => rw [hg] at e2; exact .inl e2
    | some q =>
      rw [hg] at e2
      have hq := goP_in hz hkl hjl hp hg
      have hnj := nets j hjl
      have e3 := since_ad hz hj hk hnj hq
      rw [goP_inv hz hg] at e3
      refine .inr ⟨_, e2, e3, ?_⟩
      rcases onQ_range h hC with ⟨i, hi, hil, _⟩ | ⟨hi, _⟩
      · have e4 := since_ad hz hj hi hnj hq
        have e5 := since_ad hz hk hi hn hp
        cases hg2 : goP h j i q with
        | some r =>
          rw [hg2] at e4
          rw [goP_trans hz hg hg2] at e5
          exact .inl ⟨_, e4, e5⟩
        | none =>
          rw [hg2] at e4
          refine .inr ⟨e4, ?_⟩
          cases hg3 : goP h k i p with
          | none => rw [hg3] at e5; exact .inl e5
          | some r => rw [hg3] at e5; exact .inr ⟨_, e5⟩
      · have hi0 : ((onQ h C).2 = 0) = False := by rw [hi]; simp
        have e4 := since_err (a := j) hj hi0 hnj hq
        have e5 := since_err (a := k) hk hi0 hn hp
        rw [hi] at e4 e5
        exact .inr ⟨e4, .inl e5⟩
  · have hj0 : ((onQ h B).2 = 0) = False := by rw [hj]; simp
    have e2 := since_err (a := k) hk hj0 hn hp
    rw [hj] at e2
    exact .inl e2
theorem onK_neg {h : List Sv} {d : Int} : ∀ n, n ≤ h.length → onK h d n < 0 → ∀ j s, j < n → h[j]? = some s → d < s.day
  | 0, _, _, j, s, hj, _ => absurd hj (by omega)
  | n + 1, hn, h0, j, s, hj, hs => by
    obtain ⟨t, ht⟩ : ∃ t, h[n]? = some t := ⟨h[n], by simp⟩
    unfold onK at h0
    simp only [ht] at h0
    split at h0
    · rename_i hlt
      by_cases e : j = n
      · subst e; rw [hs] at ht; cases ht; exact hlt
      · exact onK_neg n (by omega) h0 j s (by omega) hs
    · omega
theorem onK_at {h : List Sv} {d : Int} {k : Nat} : ∀ n, n ≤ h.length → onK h d n = (k : Int) → (∀ s, h[k]? = some s → s.day ≤ d) ∧ ∀ j s, k < j → j < n → h[j]? = some s → d < s.day
  | 0, _, h0 => absurd h0 (by show ¬ ((-1 : Int) = k); omega)
  | n + 1, hn, h0 => by
    obtain ⟨t, ht⟩ : ∃ t, h[n]? = some t := ⟨h[n], by simp⟩
    unfold onK at h0
    simp only [ht] at h0
    split at h0
    · rename_i hlt
      have ih := onK_at n (by omega) h0
      refine ⟨ih.1, fun j s hj hjn hs => ?_⟩
      by_cases e : j = n
      · subst e; rw [hs] at ht; cases ht; exact hlt
      · exact ih.2 j s hj (by omega) hs
    · rename_i hlt
      have : k = n := by omega
      subst this
      refine ⟨fun s hs => ?_, fun j s hj hjn => absurd hjn (by omega)⟩
      rw [hs] at ht; cases ht; omega
theorem onQ_at {h : List Sv} {d : Int} {k : Nat} (hq : onQ h d = ((k : Int), 0)) : onK h d h.length = (k : Int) := by
  rw [onQ_alt] at hq
  split at hq
  · split at hq
    · cases hq
    · exact (Prod.mk.inj hq).1
  · rename_i hr
    exact absurd (Prod.mk.inj hq).2 hr
end Go.Sim

/-
The law: NetworkDates returns true.
-/
-- INJ Sv.row_iff svs_iff
namespace Go.Sim
open Go Go.Proofs
set_option maxRecDepth 100000
set_option maxHeartbeats 16000000
theorem shortH_all {h : List Sv} (hs : shortH h = true) : h.length ≤ 7 ∧ ∀ s ∈ h, shortN s.net = true ∧ shortM s.map = true := by
  unfold shortH at hs
  simp only [Bool.and_eq_true, Bool.or_eq_true, Bool.not_eq_true', decide_eq_false_iff_not, decide_eq_true_eq, List.all_eq_true] at hs
  refine ⟨by omega, fun s hm => ?_⟩
  have := hs.1 s hm
  unfold shortS at this
  simpa using this
theorem shortH_ok {h : List Sv} (hs : shortH h = true) : HistOk h := by
  obtain ⟨h1, h2⟩ := shortH_all hs
  exact ⟨by unfold maxRows; omega, fun s hm => short_ok (h2 s hm).1, fun s hm => shortM_ok (h2 s hm).2⟩
theorem HistOk.fit {h : List Sv} (hp : HistOk h) : HistFit h := ⟨hp.few, fun s hm => ⟨(hp.net s hm).fits, (hp.net s hm).sws, (hp.net s hm).sts⟩, fun s hm => (hp.map s hm).few⟩
end Go.Sim

/-
Further facts on the types and the regions of this program.
-/
namespace Go.Sim
open Go Go.Proofs
theorem un_376 : NC.P.underlying 376 = some (.int .u64) := by kernel_rfl
theorem ze_376 : zeroOf NC.P 376 = some (.int .u64 0) := by kernel_rfl
theorem sz_376 : szOf NC.P 376 = some 1 := by kernel_rfl
theorem ze_388 : zeroOf NC.P 388 = some (.agg [.int .u8 0, .int .u8 0, .int .u8 0, .int .u8 0, .int .u8 0, .int .u8 0, .int .u8 0, .int .u8 0, .int .u8 0, .int .u8 0, .int .u8 0, .int .u8 0, .int .u8 0, .int .u8 0, .int .u8 0, .int .u8 0, .int .u8 0, .int .u8 0, .int .u8 0, .int .u8 0, .int .u8 0, .int .u8 0, .int .u8 0, .int .u8 0]) := by kernel_rfl
theorem un_2 : NC.P.underlying 2 = some (.int .i64) := by kernel_rfl
theorem un_388 : NC.P.underlying 388 = some (.array 24 5) := by kernel_rfl
theorem ag_376 : aggOf NC.P 376 = some false := by kernel_rfl
attribute [go_sem] un_376 ze_376 sz_376 ze_388 un_2 un_388 ag_376
end Go.Sim

/-
Rows that lie one behind the other.
-/
namespace Go.Sim
open Go
/-! ### Small numbers -/
theorem wrap_in {n : Int} (h0 : 0 ≤ n) (h1 : n ≤ 9223372036854775807) : IntKind.wrap .i64 n = n := by
  have := wrapq_i64 (x := n) (by omega) h1
  unfold IntKind.wrap
  have h64 : ((2 : Int) ^ (IntKind.bits .i64)) = 18446744073709551616 := by decide
  have h63 : ((2 : Int) ^ (IntKind.bits .i64 - 1)) = 9223372036854775808 := by decide
  simp only [h64, h63]
  have e : n % 18446744073709551616 = n := by omega
  rw [e]
  have : ¬ (n ≥ 9223372036854775808) := by omega
  simp [this]
theorem conv_u8 {n : Int} (h0 : 0 ≤ n) (h1 : n ≤ 255) : aconv NC.P 5 3 (.int .u8 n) = some (.int .i64 n) := by
  have e : aconv NC.P 5 3 (.int .u8 n) = some (.int .i64 (IntKind.wrap .i64 n)) := by kernel_rfl
  rw [e, wrap_in h0 (by omega)]
theorem rem_ok {a b : Int} (h0 : 0 ≤ a) (h1 : 0 < b) : aint (pureOf (Go.binOp .rem 0 (.int .i64 a) (.int .i64 b))) = some (.int .i64 (a % b)) := by
  have e : Go.binOp .rem 0 (.int .i64 a) (.int .i64 b) = Op.intDiv .rem .i64 a b := rfl
  have hb : ¬ (b = 0) := by omega
  rw [e]
  unfold Op.intDiv
  rw [if_neg hb]
  show some (AV.int .i64 (a.tmod b)) = _
  rw [Int.tmod_eq_emod_of_nonneg h0]
theorem natOf_2 (lim : Nat) (k : IntKind) : natOf lim (.int k 2) = if 2 < lim then some 2 else none := rfl
theorem wl01 : wrapq .i64 (Int.add 0 1) = 1 := rfl
theorem wl12 : wrapq .i64 (Int.add 1 1) = 2 := rfl
theorem wl23 : wrapq .i64 (Int.add 2 1) = 3 := rfl
theorem i03 : ((0 : Int) < 3) = True := by simp
theorem i13 : ((1 : Int) < 3) = True := by simp
theorem i23 : ((2 : Int) < 3) = True := by simp
theorem i33 : ((3 : Int) < 3) = False := by simp
def Even (sz : Nat) (rows : List (List AV)) : Prop := ∀ r ∈ rows, r.length = sz
theorem Even.map {α : Type} {sz : Nat} {f : α → List AV} (hf : ∀ x, (f x).length = sz) (l : List α) : Even sz (l.map f) := by
  intro r hr
  obtain ⟨x, _, rfl⟩ := List.mem_map.1 hr
  exact hf x
theorem Even.set {sz : Nat} {rows : List (List AV)} (he : Even sz rows) {j : Nat} {v : List AV} (hv : v.length = sz) : Even sz (rows.set j v) := by
  intro r hr
  rcases List.mem_or_eq_of_mem_set hr with h | h
  · exact he r h
  · subst h; exact hv
end Go.Sim

/-
Ends of switches; where a switch lies on a line.
-/
namespace Go.Sim
open Go Go.Proofs
set_option maxRecDepth 100000
set_option maxHeartbeats 8000000
theorem Sw.row_iff (a b : Sw) : a.row = b.row ↔ a = b := ⟨Sw.row_inj a b, fun h => by rw [h]⟩
-- INJ Sw.row_iff Br.row_iff
structure Br where
  sw : Sw
  at' : Int
def Br.row (b : Br) : List AV := [.str b.sw.name, .str b.sw.line, i64 b.sw.metre, .str b.sw.other, .bool b.sw.last, i64 b.at']
theorem Br.row_len (b : Br) : b.row.length = 6 := rfl
theorem Br.row_inj (a b : Br) (h : a.row = b.row) : a = b := by
  obtain ⟨⟨a1, a2, a3, a4, a5⟩, a6⟩ := a
  obtain ⟨⟨b1, b2, b3, b4, b5⟩, b6⟩ := b
  simp only [Br.row, List.cons.injEq, AV.str.injEq, AV.int.injEq, AV.bool.injEq, true_and, and_true] at h
  obtain ⟨rfl, rfl, rfl, rfl, rfl, rfl⟩ := h; rfl
theorem Br.row_iff (a b : Br) : a.row = b.row ↔ a = b := ⟨Br.row_inj a b, fun h => by rw [h]⟩
theorem evalO_str0 {C : Cfg} {T : TT AV} : evalO C T (.const (.string { data := #[] })) = some (.str []) := rfl
attribute [go_sem] evalO_str0
theorem ab259 (a c : List Nat) (b d : Int) : abuild NC.P 259 [(0, .agg [.str a, .int .i64 b]), (1, .agg [.str c, .int .i64 d])] = some (.agg [.str a, .int .i64 b, .str c, .int .i64 d]) := by kernel_rfl
theorem ab137 (a c : List Nat) (b d : Int) : abuild NC.P 137 [(0, .agg [.str a, .int .i64 b]), (1, .agg [.str c, .int .i64 d])] = some (.agg [.str a, .int .i64 b, .str c, .int .i64 d]) := by kernel_rfl
attribute [go_sem] ab259 ab137
end Go.Sim

/-
Branches, by the program.
-/
-- INJ Sw.row_iff Br.row_iff
namespace Go.Sim
open Go Go.Proofs
set_option maxRecDepth 100000
set_option maxHeartbeats 16000000
variable {P : FuncId → Option (List AV → Option AV)}
def RAp (H : Heap) (v : AV) (rows : List (List AV)) (sz : Nat) (e : TypeId) : Prop := (v = .ps .nil [] ∧ rows = []) ∨ ∃ id, v = .rs id 0 rows.length sz none ∧ rows ≠ [] ∧ id < H.n ∧ H.get id = .row rows.flatten sz e
theorem RAp.fresh {H : Heap} {v : AV} {rows : List (List AV)} {sz : Nat} {e : TypeId} (h : RAp H v rows sz e) (b c : ABlk) {i : Nat} (hi : i = H.n) : RAp ((H.push b).set i c) v rows sz e := by
  subst hi
  rcases h with h | ⟨j, h1, h2, h3, h4⟩
  · exact .inl h
  · exact .inr ⟨j, h1, h2, by simp; omega, by rw [Heap.get_set, if_neg (by omega), Heap.get_push, if_neg (by omega)]; exact h4⟩
end Go.Sim

/-
The plain law: branches are the same; posts are the same.
-/
namespace Go.Sim
open Go
theorem line_pos {n : Net} (h : netR n = 0) {i : Nat} {l : Ln} (hl : n.lines[i]? = some l) : 1 ≤ sumW l.ps 0 := by
  have hz := allR_zero (netR_lines h) (List.getElem?_eq_some_iff.1 hl).1
  unfold lineR at hz
  simp only [hl] at hz
  split at hz
  · rename_i he
    have h0 := firstI_zero he (whenI (decide ((l.ps.length : Int) = 0)) 12) (by simp)
    have hne : 0 < l.ps.length := by
      cases hc : l.ps.length with
      | zero => rw [hc] at h0; simp [whenI] at h0
      | succ k => omega
    have hg := line_good h hl
    have hp : l.ps[0]? = some l.ps[0] := List.getElem?_eq_getElem hne
    have hs := beg_step hg hp
    have hpc := hg.piece l.ps[0] (List.mem_of_getElem? hp)
    have hm := beg_mono hg (j := 0 + 1) (k := l.ps.length) (by omega) (Nat.le_refl _)
    rw [begI_all] at hm
    rw [beg_zero] at hs
    omega
  · rename_i he; exact absurd hz he
end Go.Sim

/-
The law: NetworkSince returns true.
-/
-- INJ Sv.row_iff svs_iff
namespace Go.Sim
open Go Go.Proofs
set_option maxRecDepth 100000
set_option maxHeartbeats 16000000
theorem aeq42_self (s : List Nat) (a b : Int) : aeqT NC.P 100 42 (.agg [.str s, .int .i64 a, .int .i64 b]) (.agg [.str s, .int .i64 a, .int .i64 b]) = some true := by
  have := aeq42 (s, a, b) (s, a, b)
  rw [(adB_iff _ _).2 rfl] at this
  exact this
theorem hist_some {h : List Sv} (hz : histR h = 0) : ∃ s, h[0]? = some s ∧ 0 < h.length := by
  cases h with
  | nil => exfalso; revert hz; decide
  | cons s r => exact ⟨s, rfl, by simp⟩
noncomputable def PPF10 : FuncId → Option (List AV → Option AV) := addPrim 65 p65 (addPrim 20 p20 (addPrim 26 p26 (addPrim 19 p19 (addPrim 63 p63 (addPrim 64 p64 (addPrim 66 p66 (addPrim 62 p62 (addPrim 16 p16 (fun _ => none)))))))))
theorem primsF10 : PrimsOk NC PPF10 := primsOk_add (primsOk_add (primsOk_add (primsOk_add (primsOk_add (primsOk_add (primsOk_add (primsOk_add (primsOk_add (primsOk_none) (by kernel_rfl) (by kernel_rfl) pok16) (by kernel_rfl) (by kernel_rfl) pok62) (by kernel_rfl) (by kernel_rfl) pok66) (by kernel_rfl) (by kernel_rfl) pok64) (by kernel_rfl) (by kernel_rfl) pok63) (by kernel_rfl) (by kernel_rfl) pok19) (by kernel_rfl) (by kernel_rfl) pok26) (by kernel_rfl) (by kernel_rfl) pok20) (by kernel_rfl) (by kernel_rfl) pok65
theorem enF10_16 : En PPF10 16 p16 := enter_prim (by rfl) (by kernel_rfl)
theorem enF10_62 : En PPF10 62 p62 := enter_prim (by rfl) (by kernel_rfl)
theorem enF10_66 : En PPF10 66 p66 := enter_prim (by rfl) (by kernel_rfl)
theorem enF10_64 : En PPF10 64 p64 := enter_prim (by rfl) (by kernel_rfl)
theorem enF10_63 : En PPF10 63 p63 := enter_prim (by rfl) (by kernel_rfl)
theorem enF10_19 : En PPF10 19 p19 := enter_prim (by rfl) (by kernel_rfl)
theorem enF10_26 : En PPF10 26 p26 := enter_prim (by rfl) (by kernel_rfl)
theorem enF10_20 : En PPF10 20 p20 := enter_prim (by rfl) (by kernel_rfl)
theorem enF10_65 : En PPF10 65 p65 := enter_prim (by rfl) (by kernel_rfl)
attribute [go_sem ↓] enF10_16 enF10_62 enF10_66 enF10_64 enF10_63 enF10_19 enF10_26 enF10_20 enF10_65
theorem c10 (h : List Sv) (a b c x y : Int) (hl : HistLim h) (ha : 0 ≤ a ∧ a ≤ 255) (hb : 0 ≤ b ∧ b ≤ 255) (hc : 0 ≤ c ∧ c ≤ 255) (hx : 0 ≤ x ∧ x ≤ 255) (hy : 0 ≤ y ∧ y ≤ 255) :
    ∀ lo H, CallOk NC lo 10 [.ps .unk (h.map Sv.row), .agg [.int .u8 a, .int .u8 b, .int .u8 c], .agg [.int .u8 x, .int .u8 y]] H (.bool true) H := by
  refine contract saneNC primsF10 (fn := Tryz.f10) (by kernel_rfl) Tryz.func10 rfl rfl (by rfl) (by rfl) ?_
  have e62 := pe62 h hl
  cases hS : shortH h with
  | false =>
    simp only [hS] at e62
    simp only [go_sem, reduceIte, Nat.reduceEqDiff, Nat.reduceAdd, Nat.reduceMul, Nat.reduceSub, Nat.reduceLeDiff, Nat.reduceLT, Nat.reduceBEq, reduceCtorEq, e16, e62]
  | true =>
  simp only [hS] at e62
  have hok := shortH_ok hS
  have e66 := pe66 h hok
  rcases Classical.propComplete (histR h = 0) with z | z
  case inr => simp only [go_sem, reduceIte, Nat.reduceEqDiff, Nat.reduceAdd, Nat.reduceMul, Nat.reduceSub, Nat.reduceLeDiff, Nat.reduceLT, Nat.reduceBEq, reduceCtorEq, e16, e62, e66, z]
  have hz := of_eq_true z
  rcases Classical.propComplete ((4 : Int) < h.length) with q1 | q1
  · simp only [go_sem, reduceIte, Nat.reduceEqDiff, Nat.reduceAdd, Nat.reduceMul, Nat.reduceSub, Nat.reduceLeDiff, Nat.reduceLT, Nat.reduceBEq, reduceCtorEq, e16, e62, e66, z, List.length_map, q1]
  have e64 := pe64 h hok.fit
  have cva := conv_u8 ha.1 ha.2
  have cvb := conv_u8 hb.1 hb.2
  have cvc := conv_u8 hc.1 hc.2
  have cvx := conv_u8 hx.1 hx.2
  have cvy := conv_u8 hy.1 hy.2
  have ra := rem_ok (a := a) (b := 41) ha.1 (by omega)
  have rb := rem_ok (a := b) (b := 41) hb.1 (by omega)
  have rc := rem_ok (a := c) (b := 41) hc.1 (by omega)
  have hA : 0 ≤ a % 41 ∧ a % 41 ≤ 100000 := by omega
  have hB : 0 ≤ b % 41 ∧ b % 41 ≤ 100000 := by omega
  have hC : 0 ≤ c % 41 ∧ c % 41 ≤ 100000 := by omega
  generalize a % 41 = A at ra hA
  generalize b % 41 = B at rb hB
  generalize c % 41 = C at rc hC
  have e63 := pe63 h A hok
  unfold onFP at e63
  simp only [hist_same, hz, if_true] at e63
  have e65 := fun (d : Int) (s : List Nat) (pc po o : Int) => pe65 h d s pc po o hok
  unfold sinceP at e65
  simp only [hist_same, hz, if_true] at e65
  simp only [go_sem] at ra rb rc
  obtain ⟨s0, hs0, hpos⟩ := hist_some hz
  have hr0 := map_at (f := Sv.row) hs0
  rcases onQ_range h hA with ⟨k, hk, hkl, sk, hsk⟩ | ⟨hk, hneg⟩
  case inr =>
    have hlt := onK_neg h.length (Nat.le_refl _) hneg 0 s0 hpos hs0
    generalize onQ h A = Q at e63 hk
    obtain ⟨q0, q2⟩ := Q
    simp only at hk
    subst hk
    simp only at e63
    have z7 : ((7 : Int) = 0) = False := by simp
    have hlt' : (A < s0.day) = True := by simp [hlt]
    obtain ⟨d0, ⟨n1, n2, n3⟩, m0⟩ := s0
    simp only [Sv.row, Net.cells, List.cons_append, List.nil_append, i64] at hr0 hlt'
    simp only [go_sem, reduceIte, Nat.reduceEqDiff, Nat.reduceAdd, Nat.reduceMul, Nat.reduceSub, Nat.reduceLeDiff, Nat.reduceLT, Nat.reduceBEq, reduceCtorEq, W_loop, e16, e62, e66, z, List.length_map, q1, e64, i03, i13, i23, i33, wl01, wl12, wl23, natOf_2, cva, cvb, cvc, ra, rb, rc, e63, hpos, hr0, hlt', z7]
  have hKat := onK_at h.length (Nat.le_refl _) (onQ_at hk)
  have hnet := hist_surv hz hsk
  have hnk : netAt h k = sk.net := netAt_eq hsk
  rw [hk] at e63
  simp only at e63
  have hday : (A < sk.day) = False := by
    have := hKat.1 sk hsk
    simp only [eq_iff_iff, iff_false]; omega
  have hrk := map_at (f := Sv.row) hsk
  have hk0 := neg_cast k
  have hkt : (k < h.length) = True := by simp [hkl]
  have hfew := hok.few
  have hks : wrapq .i64 (Int.add ((k : Nat) : Int) 1) = ((k + 1 : Nat) : Int) := wrap_succ hkl hfew
  have z7 : ((7 : Int) = 0) = False := by simp
  have z07 : ((0 : Int) = 7) = False := by simp
  -- the survey behind
  have hnext : ∃ (B1 : Bool) (r1 : List AV), (decide (k + 1 < h.length) = B1) ∧ (B1 = true → ∃ d1 r2, (h.map Sv.row)[k + 1]? = some (.int .i64 d1 :: r2) ∧ r2.length = 4 ∧ (A < d1) = True) := by
    by_cases h1 : k + 1 < h.length
    · refine ⟨true, [], by simp [h1], fun _ => ?_⟩
      have hs1 : h[k + 1]? = some h[k + 1] := List.getElem?_eq_getElem h1
      have hr1 := map_at (f := Sv.row) hs1
      have := hKat.2 (k + 1) _ (by omega) h1 hs1
      exact ⟨_, _, hr1, rfl, by simp [this]⟩
    · exact ⟨false, [], by simp [h1], fun h => by cases h⟩
  obtain ⟨B1, _, hB1, hnx⟩ := hnext
  have law := fun p (hp : inNet sk.net p) => since_law hz hB hC hk hkl (p := p) (by rw [hnk]; exact hp) (adOf sk.net p) (by rw [hnk])
  have e19 := pe19 sk.net ⟨(hok.net sk (List.mem_of_getElem? hsk)).fits, (hok.net sk (List.mem_of_getElem? hsk)).sws, (hok.net sk (List.mem_of_getElem? hsk)).sts⟩
  have hokn := hok.net sk (List.mem_of_getElem? hsk)
  clear hKat hs0 hr0 hpos
  obtain ⟨dk, nk, mk⟩ := sk
  simp only at hnet hnk hday law e19 hokn
  have hzn := hnet.1
  rcases Classical.propComplete (((nk.lines.length : Nat) : Int) = 0) with zl | zl
  · obtain ⟨n1, n2, n3⟩ := nk
    simp only [Sv.row, Net.cells, List.cons_append, List.nil_append, i64] at hrk
    simp only at zl
    cases B1 with
    | false =>
      have hb : (k + 1 < h.length) = False := by simpa using hB1
      simp only [go_sem, reduceIte, Nat.reduceEqDiff, Nat.reduceAdd, Nat.reduceMul, Nat.reduceSub, Nat.reduceLeDiff, Nat.reduceLT, Nat.reduceBEq, reduceCtorEq, W_loop, e16, e62, e66, z, List.length_map, q1, e64, i03, i13, i23, i33, wl01, wl12, wl23, natOf_2, cva, cvb, cvc, ra, rb, rc, e63, hk0, hkt, hrk, hday, hks, hb, zl]
    | true =>
      have hb : (k + 1 < h.length) = True := by simpa using hB1
      obtain ⟨d1, r2, hr1, _, hd1⟩ := hnx rfl
      obtain ⟨r21, r22, r23, r24, rfl⟩ : ∃ a b c d, r2 = [a, b, c, d] := by
        match r2 with
        | [a, b, c, d] => exact ⟨a, b, c, d, rfl⟩
      simp only [go_sem, reduceIte, Nat.reduceEqDiff, Nat.reduceAdd, Nat.reduceMul, Nat.reduceSub, Nat.reduceLeDiff, Nat.reduceLT, Nat.reduceBEq, reduceCtorEq, W_loop, e16, e62, e66, z, List.length_map, q1, e64, i03, i13, i23, i33, wl01, wl12, wl23, natOf_2, cva, cvb, cvc, ra, rb, rc, e63, hk0, hkt, hrk, hday, hks, hb, hr1, hd1, zl]
  have hlpos : 0 < nk.lines.length := by
    rcases Nat.eq_zero_or_pos nk.lines.length with h0 | h0
    · rw [h0] at zl; simp at zl
    · exact h0
  have hxe := Int.emod_nonneg x (b := ((nk.lines.length : Nat) : Int)) (by omega)
  have hxl := Int.emod_lt_of_pos x (b := ((nk.lines.length : Nat) : Int)) (by omega)
  obtain ⟨j, hj⟩ : ∃ j : Nat, x % ((nk.lines.length : Nat) : Int) = (j : Int) := ⟨(x % ((nk.lines.length : Nat) : Int)).toNat, by omega⟩
  have hjl : j < nk.lines.length := by omega
  have rx := rem_ok (a := x) (b := ((nk.lines.length : Nat) : Int)) hx.1 (by omega)
  rw [hj] at rx
  simp only [go_sem, zl, if_false] at rx
  obtain ⟨l, hl⟩ : ∃ p, nk.lines[j]? = some p := ⟨nk.lines[j], by simp⟩
  have hrl := map_at (f := Ln.row) hl
  have hpl := line_pos hzn hl
  have ry := rem_ok (a := y) (b := sumW l.ps 0) hy.1 (by omega)
  have hm0 := Int.emod_nonneg y (b := sumW l.ps 0) (by omega)
  have hm1 := Int.emod_lt_of_pos y (b := sumW l.ps 0) (by omega)
  simp only [go_sem] at ry
  generalize y % sumW l.ps 0 = m at ry hm0 hm1
  have e26 : p26 [.agg l.row] = some (.int .i64 (sumW l.ps 0)) := pe26 l (hokn.line l (List.mem_of_getElem? hl)).2
  have hfl := line_found hzn hl
  have hin : inNet nk (l.name, m) := ⟨j, l, hfl, hl, hm0, hm1⟩
  have law2 := law (l.name, m) hin
  clear law
  have e20 := pe20 (nk, l.name, m) hokn
  have hhas : hasI nk.lines l.name m = 0 := by
    unfold hasI
    simp only [hfl, hl]
    have a : ¬ (m < 0) := by omega
    simp [a, hm1, whenI]
  have e20 : p20 [.agg nk.cells, .agg [.str l.name, .int .i64 m]] = some (.tup [.agg (adRow (adOf nk (l.name, m))), .int .i64 0]) := by
    simp only [net_same, place_same, hzn, hhas, if_true] at e20
    exact e20
  clear hhas hfl hin hnk hnet hsk
  generalize sumW l.ps 0 = S at e26 ry hm1 hpl
  generalize adOf nk (l.name, m) = ad at e20 law2
  obtain ⟨a1, a2, a3⟩ := ad
  simp only [adRow, noAddr, i64] at e20 law2
  have f1 := e65 A a1 a2 a3 A
  rw [law2.1] at f1
  have f2 := e65 A a1 a2 a3 B
  have f5 := e65 A a1 a2 a3 C
  obtain ⟨n1, n2, n3⟩ := nk
  obtain ⟨ln, lp⟩ := l
  simp only [Sv.row, Net.cells, List.cons_append, List.nil_append, i64] at hrk e19 e20
  simp only [Ln.row, i64] at hrl e26 e20
  simp only at zl hjl rx hrl
  have hjt : (j < n1.length) = True := by simp [hjl]
  cases B1 with
  | false =>
    have hb : (k + 1 < h.length) = False := by simpa using hB1
    simp only [go_sem, reduceIte, Nat.reduceEqDiff, Nat.reduceAdd, Nat.reduceMul, Nat.reduceSub, Nat.reduceLeDiff, Nat.reduceLT, Nat.reduceBEq, reduceCtorEq, W_loop, e16, e62, e66, z, List.length_map, q1, e64, i03, i13, i23, i33, wl01, wl12, wl23, natOf_2, cva, cvb, cvc, cvx, cvy, ra, rb, rc, rx, ry, e63, e19, e20, e26, f1, hk0, hkt, hrk, hrl, hday, hks, hb, zl, hjt, z7, z07, ety42, aeq42_self]
    rcases law2.2 with h2 | ⟨⟨b1, b2, b3⟩, h2, h3, h4⟩
    · rw [h2] at f2; simp only [go_sem, reduceIte, Nat.reduceEqDiff, Nat.reduceAdd, Nat.reduceMul, Nat.reduceSub, Nat.reduceLeDiff, Nat.reduceLT, Nat.reduceBEq, reduceCtorEq, f2, e64, natOf_2, z7]
    · simp only at h2 h3 h4
      rw [h2] at f2
      have f3 := e65 B b1 b2 b3 A
      have f4 := e65 B b1 b2 b3 C
      rw [h3] at f3
      simp only [go_sem, reduceIte, Nat.reduceEqDiff, Nat.reduceAdd, Nat.reduceMul, Nat.reduceSub, Nat.reduceLeDiff, Nat.reduceLT, Nat.reduceBEq, reduceCtorEq, f2, f3, e64, natOf_2, z7, z07, ety42, aeq42_self]
      rcases h4 with ⟨⟨c1, c2, c3⟩, h5, h6⟩ | ⟨h5, h6 | ⟨⟨c1, c2, c3⟩, h6⟩⟩ <;> (try simp only at h5 h6) <;> rw [h5] at f4 <;> rw [h6] at f5 <;>
        simp only [go_sem, reduceIte, Nat.reduceEqDiff, Nat.reduceAdd, Nat.reduceMul, Nat.reduceSub, Nat.reduceLeDiff, Nat.reduceLT, Nat.reduceBEq, reduceCtorEq, f4, f5, e64, natOf_2, z7, z07, ety42, aeq42_self]
  | true =>
    have hb : (k + 1 < h.length) = True := by simpa using hB1
    obtain ⟨d1, r2, hr1, _, hd1⟩ := hnx rfl
    obtain ⟨r21, r22, r23, r24, rfl⟩ : ∃ a b c d, r2 = [a, b, c, d] := by
      match r2 with
      | [a, b, c, d] => exact ⟨a, b, c, d, rfl⟩
    simp only [go_sem, reduceIte, Nat.reduceEqDiff, Nat.reduceAdd, Nat.reduceMul, Nat.reduceSub, Nat.reduceLeDiff, Nat.reduceLT, Nat.reduceBEq, reduceCtorEq, W_loop, e16, e62, e66, z, List.length_map, q1, e64, i03, i13, i23, i33, wl01, wl12, wl23, natOf_2, cva, cvb, cvc, cvx, cvy, ra, rb, rc, rx, ry, e63, e19, e20, e26, f1, hk0, hkt, hrk, hrl, hday, hks, hb, zl, hjt, z7, z07, ety42, aeq42_self, hr1, hd1]
    rcases law2.2 with h2 | ⟨⟨b1, b2, b3⟩, h2, h3, h4⟩
    · rw [h2] at f2; simp only [go_sem, reduceIte, Nat.reduceEqDiff, Nat.reduceAdd, Nat.reduceMul, Nat.reduceSub, Nat.reduceLeDiff, Nat.reduceLT, Nat.reduceBEq, reduceCtorEq, f2, e64, natOf_2, z7]
    · simp only at h2 h3 h4
      rw [h2] at f2
      have f3 := e65 B b1 b2 b3 A
      have f4 := e65 B b1 b2 b3 C
      rw [h3] at f3
      simp only [go_sem, reduceIte, Nat.reduceEqDiff, Nat.reduceAdd, Nat.reduceMul, Nat.reduceSub, Nat.reduceLeDiff, Nat.reduceLT, Nat.reduceBEq, reduceCtorEq, f2, f3, e64, natOf_2, z7, z07, ety42, aeq42_self]
      rcases h4 with ⟨⟨c1, c2, c3⟩, h5, h6⟩ | ⟨h5, h6 | ⟨⟨c1, c2, c3⟩, h6⟩⟩ <;> (try simp only at h5 h6) <;> rw [h5] at f4 <;> rw [h6] at f5 <;>
        simp only [go_sem, reduceIte, Nat.reduceEqDiff, Nat.reduceAdd, Nat.reduceMul, Nat.reduceSub, Nat.reduceLeDiff, Nat.reduceLT, Nat.reduceBEq, reduceCtorEq, f4, f5, e64, natOf_2, z7, z07, ety42, aeq42_self]
end Go.Sim
