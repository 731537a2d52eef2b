/-
The parts NetM4, NetM5, NetAwake, NetZ1, NetM6 of one proof, joined: each begins with a remark that says what it shows.
-/
import Derived.Test.YtepaopekeidlmaaGreatDoorT14
set_option linter.unusedSimpArgs false
set_option linter.unusedVariables false

/-
Maps: the reference's CheckMap, Fits, Carried; the program's Carried; the law's own helpers.
-/
namespace Go.Sim
open Go Go.Proofs
set_option maxRecDepth 100000
set_option maxHeartbeats 8000000
def mvR (m : List Mv) (i : Nat) : Int := match m[i]? with
  | none => 0
  | some x =>
    let e := firstI [whenI (!nameB x.line) 8, whenI (!nameB x.other) 8, rangeI x.fr 0 800000, rangeI x.len 1 800000, rangeI x.to 0 800000]
    if e = 0 then (if decide (800000 < endI x) || decide (800000 < wrapq .i64 (Int.add x.to x.len)) then 4 else
      if (match i with | 0 => false | j + 1 => match m[j]? with | none => false | some l => orderB l x) then 11 else if (m.take i).any (fun y => overB y x) then 15 else 0) else e
def mapR (m : List Mv) : Int := if (24 : Int) < m.length then 5 else allR (mvR m) m.length
theorem e34_5 (a b c d e : Int) : p34 [.ps .unk [[.int .i64 a], [.int .i64 b], [.int .i64 c], [.int .i64 d], [.int .i64 e]]] = some (.int .i64 (firstI [a, b, c, d, e])) := pe34 [a, b, c, d, e] (by show 5 ≤ 1073741824; decide)
theorem any_take {α : Type} {f : α → Bool} {m : List α} {i k : Nat} {y : α} (hk : k < i) (hy : m[k]? = some y) (hb : f y = true) : (m.take i).any f = true := by
  rw [List.any_eq_true]
  exact ⟨y, List.mem_of_getElem? (i := k) (by rw [List.getElem?_take_of_lt hk]; exact hy), hb⟩
theorem any_take_no {α : Type} {f : α → Bool} {m : List α} {i : Nat} (h : ∀ (j : Nat) (x : α), j < i → m[j]? = some x → f x = false) : (m.take i).any f = false := by
  rw [List.any_eq_false]
  intro x hx
  obtain ⟨j, hj⟩ := List.mem_iff_getElem?.1 hx
  rw [List.getElem?_take] at hj
  split at hj
  · rename_i hlt; simp [h j x hlt hj]
  · cases hj
noncomputable def PPF44 : FuncId → Option (List AV → Option AV) := addPrim 125 p125 (addPrim 34 p34 (addPrim 35 p35 (addPrim 36 p36 (fun _ => none))))
theorem primsF44 : PrimsOk NC PPF44 := primsOk_add (primsOk_add (primsOk_add (primsOk_add (primsOk_none) (by kernel_rfl) (by kernel_rfl) pok36) (by kernel_rfl) (by kernel_rfl) pok35) (by kernel_rfl) (by kernel_rfl) pok34) (by kernel_rfl) (by kernel_rfl) pok125
theorem enF44_36 {rec : Rec} {lo : Nat} {args : List AV} {H : Heap} {K : AV → Heap → Prop} : VO (aenter (NC.withPrims PPF44) rec lo 36 args H) K = AO (p36 args) fun v => K v H := enter_prim (by rfl) (by kernel_rfl)
theorem enF44_35 {rec : Rec} {lo : Nat} {args : List AV} {H : Heap} {K : AV → Heap → Prop} : VO (aenter (NC.withPrims PPF44) rec lo 35 args H) K = AO (p35 args) fun v => K v H := enter_prim (by rfl) (by kernel_rfl)
theorem enF44_34 {rec : Rec} {lo : Nat} {args : List AV} {H : Heap} {K : AV → Heap → Prop} : VO (aenter (NC.withPrims PPF44) rec lo 34 args H) K = AO (p34 args) fun v => K v H := enter_prim (by rfl) (by kernel_rfl)
theorem enF44_125 {rec : Rec} {lo : Nat} {args : List AV} {H : Heap} {K : AV → Heap → Prop} : VO (aenter (NC.withPrims PPF44) rec lo 125 args H) K = AO (p125 args) fun v => K v H := enter_prim (by rfl) (by kernel_rfl)
attribute [go_sem ↓] enF44_36 enF44_35 enF44_34 enF44_125
theorem c44 (m : List Mv) (hp : m.length ≤ maxRows) : ∀ lo H, CallOk NC lo 44 [.ps .unk (m.map Mv.row)] H (i64 (mapR m)) H := by
  refine contract saneNC primsF44 (fn := Tryz.f44) (by kernel_rfl) Tryz.func44 rfl rfl (by rfl) (by first | rfl | (split <;> first | rfl | (split <;> rfl))) ?_
  have hl := hp
  rcases Classical.propComplete ((24 : Int) < m.length) with q1 | q1
  · simp only [go_sem, reduceIte, Nat.reduceEqDiff, Nat.reduceAdd, Nat.reduceMul, Nat.reduceSub, Nat.reduceLeDiff, Nat.reduceLT, Nat.reduceBEq, reduceCtorEq, q1]
    simp [mapR, q1]
  simp only [go_sem, reduceIte, Nat.reduceEqDiff, Nat.reduceAdd, Nat.reduceMul, Nat.reduceSub, Nat.reduceLeDiff, Nat.reduceLT, Nat.reduceBEq, reduceCtorEq, q1]
  refine W_for (fun k T H M => M = [] ∧ getT T 0 = .ps .unk (m.map Mv.row) ∧ getT T 3 = i64 k ∧ allR (mvR m) m.length = firstI (((List.range m.length).map (mvR m)).drop k)) m.length ?_ ?_ ?_
  · simp only [go_sem, reduceIte, Nat.reduceEqDiff, Nat.reduceAdd, Nat.reduceMul, Nat.reduceSub, Nat.reduceLeDiff, Nat.reduceLT, Nat.reduceBEq, reduceCtorEq]; rfl
  · rintro k T H M hk ⟨rfl, g0, g3, hf⟩
    obtain ⟨x, hx⟩ : ∃ p, m[k]? = some p := ⟨m[k], by simp⟩
    have hr := map_at (f := Mv.row) hx
    have hw := wrap_succ hk hl
    have hfd := allR_step (f := mvR m) hk
    have hwp : 0 < k → wrapq .i64 (Int.sub (k : Int) 1) = ((k - 1 : Nat) : Int) := fun h => wrap_pred h (Nat.le_of_lt hk) hl
    obtain ⟨l, hl1⟩ : ∃ p, m[k - 1]? = some p := ⟨m[k - 1]'(by omega), by simp⟩
    have hr1 := map_at (f := Mv.row) hl1
    have hk1 : (k - 1 < m.length) = True := by simp; omega
    have hpos : ((0 : Int) < (k : Int)) = (0 < k) := by simp
    generalize hE : firstI [whenI (!nameB x.line) 8, whenI (!nameB x.other) 8, rangeI x.fr 0 800000, rangeI x.len 1 800000, rangeI x.to 0 800000] = E
    have hms : mvR m k = if E = 0 then (if decide (800000 < endI x) || decide (800000 < wrapq .i64 (Int.add x.to x.len)) then 4 else
      if decide (0 < k) && orderB l x then 11 else if (m.take k).any (fun y => overB y x) then 15 else 0) else E := by
      unfold mvR
      simp only [hx, hE]
      cases k with
      | zero => simp
      | succ j => simp at hl1; simp [hl1]
    obtain ⟨a, b, c, d, e, f⟩ := x
    obtain ⟨a', b', c', d', e', f'⟩ := l
    have h36a := e36 a
    have h36d := e36 d
    simp only [Mv.row] at hr hr1
    simp only at hE
    rcases Classical.propComplete (E = 0) with z | z
    case inr =>
      simp only [go_sem, reduceIte, Nat.reduceEqDiff, Nat.reduceAdd, Nat.reduceMul, Nat.reduceSub, Nat.reduceLeDiff, Nat.reduceLT, Nat.reduceBEq, reduceCtorEq, g0, g3, List.length_map, hk, hr, hw, e36, e35, e34_5, hE, z]
      simp [mapR, q1, hf, hfd, hms, z]
    rcases Classical.propComplete (800000 < endI ⟨a, b, c, d, e, f⟩) with z1 | z1 <;> rcases Classical.propComplete (800000 < wrapq .i64 (Int.add e c)) with z2 | z2
    case inr.inr =>
      have z1' := z1
      unfold endI at z1'
      simp only at z1'
      generalize hOr : (decide (0 < k) && orderB ⟨a', b', c', d', e', f'⟩ ⟨a, b, c, d, e, f⟩) = O at hms
      have hA : (O = true ∧ (0 < k) = True ∧ (strLt a a' = true ∨ (strLt a a' = false ∧ beqL a a' = true ∧ (b < wrapq .i64 (Int.add b' c')) = True))) ∨
          (O = false ∧ ((0 < k) = False ∨ ((0 < k) = True ∧ strLt a a' = false ∧ (beqL a a' = false ∨ (beqL a a' = true ∧ (b < wrapq .i64 (Int.add b' c')) = False))))) := by
        rw [← hOr]
        unfold orderB endI
        generalize wrapq .i64 (Int.add b' c') = W
        by_cases h1 : 0 < k <;> cases h2 : strLt a a' <;> cases h3 : beqL a a' <;> by_cases h4 : b < W <;> simp [h1, h4] <;> omega
      rcases hA with ⟨hO, h1, h2⟩ | ⟨hO, hB⟩
      · have h4 : mvR m k = 11 := by rw [hms]; unfold endI; simp only [z, z1', z2, hO, if_true, if_false, decide_false, Bool.or_self, Bool.false_eq_true]
        have hwp' := hwp (of_eq_true h1)
        rcases h2 with h2 | ⟨h2, h3, h5⟩
        · simp only [go_sem, reduceIte, Nat.reduceEqDiff, Nat.reduceAdd, Nat.reduceMul, Nat.reduceSub, Nat.reduceLeDiff, Nat.reduceLT, Nat.reduceBEq, reduceCtorEq, g0, g3, List.length_map, hk, hr, hw, e36, e35, e34_5, hE, z, z1', z2, hpos, h1, h2, hwp', hk1, hr1]
          simp [mapR, q1, hf, hfd, h4]
        · simp only [go_sem, reduceIte, Nat.reduceEqDiff, Nat.reduceAdd, Nat.reduceMul, Nat.reduceSub, Nat.reduceLeDiff, Nat.reduceLT, Nat.reduceBEq, reduceCtorEq, g0, g3, List.length_map, hk, hr, hw, e36, e35, e34_5, hE, z, z1', z2, hpos, h1, h2, h3, h5, hwp', hk1, hr1]
          simp [mapR, q1, hf, hfd, h4]
      · have h4 : mvR m k = if (m.take k).any (fun y => overB y ⟨a, b, c, d, e, f⟩) then 15 else 0 := by rw [hms]; unfold endI; simp only [z, z1', z2, hO, if_true, if_false, decide_false, Bool.or_self, Bool.false_eq_true]
        have hwp' : (0 < k) = True → wrapq .i64 (Int.sub (k : Int) 1) = ((k - 1 : Nat) : Int) := fun h => hwp (of_eq_true h)
        rcases hB with h1 | ⟨h1, h2, h3 | ⟨h3, h5⟩⟩
        · clear hwp'
          simp only [go_sem, reduceIte, Nat.reduceEqDiff, Nat.reduceAdd, Nat.reduceMul, Nat.reduceSub, Nat.reduceLeDiff, Nat.reduceLT, Nat.reduceBEq, reduceCtorEq, g0, g3, List.length_map, hk, hr, hw, e36, e35, e34_5, hE, z, z1', z2, hpos, h1]
          refine W_for (fun j T' H' M => M = [] ∧ getT T' 0 = .ps .unk (m.map Mv.row) ∧ getT T' 3 = i64 k ∧ getT T' 4 = .ptr H.n 0 ∧ getT T' 7 = i64 j ∧ H'.get H.n = .cells [.str a, i64 b, i64 c, .str d, i64 e, .bool f] 128 ∧ ∀ i y, i < j → m[i]? = some y → overB y ⟨a, b, c, d, e, f⟩ = false) k ?_ ?_ ?_
          · simp only [go_sem, reduceIte, Nat.reduceEqDiff, Nat.reduceAdd, Nat.reduceMul, Nat.reduceSub, Nat.reduceLeDiff, Nat.reduceLT, Nat.reduceBEq, reduceCtorEq, g0, g3]
            exact fun i y hi => absurd hi (by omega)
          · rintro j T' H' M' hj ⟨rfl, i0, i3, i4, i7, ih, hno⟩
            obtain ⟨y, hy⟩ : ∃ p, m[j]? = some p := ⟨m[j]'(by omega), by simp⟩
            have hry := map_at (f := Mv.row) hy
            have e125 := pe125 y ⟨a, b, c, d, e, f⟩
            have hjw : wrapq .i64 (Int.add (j : Int) 1) = ((j + 1 : Nat) : Int) := wrap_succ (Nat.lt_trans hj hk) hl
            have hjl : (j < m.length) = True := by simp; omega
            cases ho : overB y ⟨a, b, c, d, e, f⟩ with
            | true =>
              rw [ho] at e125
              obtain ⟨y1, y2, y3, y4, y5, y6⟩ := y
              simp only [Mv.row, i64] at hry e125
              simp only [go_sem, reduceIte, Nat.reduceEqDiff, Nat.reduceAdd, Nat.reduceMul, Nat.reduceSub, Nat.reduceLeDiff, Nat.reduceLT, Nat.reduceBEq, reduceCtorEq, i0, i3, i4, i7, ih, hj, hjl, List.length_map, hry, e125]
              have h5' : mvR m k = 15 := by rw [h4, any_take hj hy ho]; rfl
              simp [mapR, q1, hf, hfd, h5']
            | false =>
              rw [ho] at e125
              have hno' : ∀ i z, i < j + 1 → m[i]? = some z → overB z ⟨a, b, c, d, e, f⟩ = false := fun i z hi hz => by
                by_cases e : i = j
                · subst e; rw [hy] at hz; cases hz; exact ho
                · exact hno i z (by omega) hz
              obtain ⟨y1, y2, y3, y4, y5, y6⟩ := y
              simp only [Mv.row, i64] at hry e125
              simp only [go_sem, reduceIte, Nat.reduceEqDiff, Nat.reduceAdd, Nat.reduceMul, Nat.reduceSub, Nat.reduceLeDiff, Nat.reduceLT, Nat.reduceBEq, reduceCtorEq, i0, i3, i4, i7, ih, hj, hjl, List.length_map, hry, e125, hjw]
              exact hno'
          · rintro T' H' M' ⟨rfl, i0, i3, i4, i7, ih, hno⟩
            have h5' : mvR m k = 0 := by rw [h4, any_take_no hno]; rfl
            simp only [go_sem, reduceIte, Nat.reduceEqDiff, Nat.reduceAdd, Nat.reduceMul, Nat.reduceSub, Nat.reduceLeDiff, Nat.reduceLT, Nat.reduceBEq, reduceCtorEq, i0, i3, i4, i7, ih, Nat.lt_irrefl, hw]
            rw [hf, hfd, h5', if_pos rfl]
        · have hwp'' := hwp' h1
          simp only [go_sem, reduceIte, Nat.reduceEqDiff, Nat.reduceAdd, Nat.reduceMul, Nat.reduceSub, Nat.reduceLeDiff, Nat.reduceLT, Nat.reduceBEq, reduceCtorEq, g0, g3, List.length_map, hk, hr, hw, e36, e35, e34_5, hE, z, z1', z2, hpos, h1, h2, h3, hwp'', hk1, hr1]
          refine W_for (fun j T' H' M => M = [] ∧ getT T' 0 = .ps .unk (m.map Mv.row) ∧ getT T' 3 = i64 k ∧ getT T' 4 = .ptr H.n 0 ∧ getT T' 7 = i64 j ∧ H'.get H.n = .cells [.str a, i64 b, i64 c, .str d, i64 e, .bool f] 128 ∧ ∀ i y, i < j → m[i]? = some y → overB y ⟨a, b, c, d, e, f⟩ = false) k ?_ ?_ ?_
          · simp only [go_sem, reduceIte, Nat.reduceEqDiff, Nat.reduceAdd, Nat.reduceMul, Nat.reduceSub, Nat.reduceLeDiff, Nat.reduceLT, Nat.reduceBEq, reduceCtorEq, g0, g3]
            exact fun i y hi => absurd hi (by omega)
          · rintro j T' H' M' hj ⟨rfl, i0, i3, i4, i7, ih, hno⟩
            obtain ⟨y, hy⟩ : ∃ p, m[j]? = some p := ⟨m[j]'(by omega), by simp⟩
            have hry := map_at (f := Mv.row) hy
            have e125 := pe125 y ⟨a, b, c, d, e, f⟩
            have hjw : wrapq .i64 (Int.add (j : Int) 1) = ((j + 1 : Nat) : Int) := wrap_succ (Nat.lt_trans hj hk) hl
            have hjl : (j < m.length) = True := by simp; omega
            cases ho : overB y ⟨a, b, c, d, e, f⟩ with
            | true =>
              rw [ho] at e125
              obtain ⟨y1, y2, y3, y4, y5, y6⟩ := y
              simp only [Mv.row, i64] at hry e125
              simp only [go_sem, reduceIte, Nat.reduceEqDiff, Nat.reduceAdd, Nat.reduceMul, Nat.reduceSub, Nat.reduceLeDiff, Nat.reduceLT, Nat.reduceBEq, reduceCtorEq, i0, i3, i4, i7, ih, hj, hjl, List.length_map, hry, e125]
              have h5' : mvR m k = 15 := by rw [h4, any_take hj hy ho]; rfl
              simp [mapR, q1, hf, hfd, h5']
            | false =>
              rw [ho] at e125
              have hno' : ∀ i z, i < j + 1 → m[i]? = some z → overB z ⟨a, b, c, d, e, f⟩ = false := fun i z hi hz => by
                by_cases e : i = j
                · subst e; rw [hy] at hz; cases hz; exact ho
                · exact hno i z (by omega) hz
              obtain ⟨y1, y2, y3, y4, y5, y6⟩ := y
              simp only [Mv.row, i64] at hry e125
              simp only [go_sem, reduceIte, Nat.reduceEqDiff, Nat.reduceAdd, Nat.reduceMul, Nat.reduceSub, Nat.reduceLeDiff, Nat.reduceLT, Nat.reduceBEq, reduceCtorEq, i0, i3, i4, i7, ih, hj, hjl, List.length_map, hry, e125, hjw]
              exact hno'
          · rintro T' H' M' ⟨rfl, i0, i3, i4, i7, ih, hno⟩
            have h5' : mvR m k = 0 := by rw [h4, any_take_no hno]; rfl
            simp only [go_sem, reduceIte, Nat.reduceEqDiff, Nat.reduceAdd, Nat.reduceMul, Nat.reduceSub, Nat.reduceLeDiff, Nat.reduceLT, Nat.reduceBEq, reduceCtorEq, i0, i3, i4, i7, ih, Nat.lt_irrefl, hw]
            rw [hf, hfd, h5', if_pos rfl]
        · have hwp'' := hwp' h1
          simp only [go_sem, reduceIte, Nat.reduceEqDiff, Nat.reduceAdd, Nat.reduceMul, Nat.reduceSub, Nat.reduceLeDiff, Nat.reduceLT, Nat.reduceBEq, reduceCtorEq, g0, g3, List.length_map, hk, hr, hw, e36, e35, e34_5, hE, z, z1', z2, hpos, h1, h2, h3, h5, hwp'', hk1, hr1]
          refine W_for (fun j T' H' M => M = [] ∧ getT T' 0 = .ps .unk (m.map Mv.row) ∧ getT T' 3 = i64 k ∧ getT T' 4 = .ptr H.n 0 ∧ getT T' 7 = i64 j ∧ H'.get H.n = .cells [.str a, i64 b, i64 c, .str d, i64 e, .bool f] 128 ∧ ∀ i y, i < j → m[i]? = some y → overB y ⟨a, b, c, d, e, f⟩ = false) k ?_ ?_ ?_
          · simp only [go_sem, reduceIte, Nat.reduceEqDiff, Nat.reduceAdd, Nat.reduceMul, Nat.reduceSub, Nat.reduceLeDiff, Nat.reduceLT, Nat.reduceBEq, reduceCtorEq, g0, g3]
            exact fun i y hi => absurd hi (by omega)
          · rintro j T' H' M' hj ⟨rfl, i0, i3, i4, i7, ih, hno⟩
            obtain ⟨y, hy⟩ : ∃ p, m[j]? = some p := ⟨m[j]'(by omega), by simp⟩
            have hry := map_at (f := Mv.row) hy
            have e125 := pe125 y ⟨a, b, c, d, e, f⟩
            have hjw : wrapq .i64 (Int.add (j : Int) 1) = ((j + 1 : Nat) : Int) := wrap_succ (Nat.lt_trans hj hk) hl
            have hjl : (j < m.length) = True := by simp; omega
            cases ho : overB y ⟨a, b, c, d, e, f⟩ with
            | true =>
              rw [ho] at e125
              obtain ⟨y1, y2, y3, y4, y5, y6⟩ := y
              simp only [Mv.row, i64] at hry e125
              simp only [go_sem, reduceIte, Nat.reduceEqDiff, Nat.reduceAdd, Nat.reduceMul, Nat.reduceSub, Nat.reduceLeDiff, Nat.reduceLT, Nat.reduceBEq, reduceCtorEq, i0, i3, i4, i7, ih, hj, hjl, List.length_map, hry, e125]
              have h5' : mvR m k = 15 := by rw [h4, any_take hj hy ho]; rfl
              simp [mapR, q1, hf, hfd, h5']
            | false =>
              rw [ho] at e125
              have hno' : ∀ i z, i < j + 1 → m[i]? = some z → overB z ⟨a, b, c, d, e, f⟩ = false := fun i z hi hz => by
                by_cases e : i = j
                · subst e; rw [hy] at hz; cases hz; exact ho
                · exact hno i z (by omega) hz
              obtain ⟨y1, y2, y3, y4, y5, y6⟩ := y
              simp only [Mv.row, i64] at hry e125
              simp only [go_sem, reduceIte, Nat.reduceEqDiff, Nat.reduceAdd, Nat.reduceMul, Nat.reduceSub, Nat.reduceLeDiff, Nat.reduceLT, Nat.reduceBEq, reduceCtorEq, i0, i3, i4, i7, ih, hj, hjl, List.length_map, hry, e125, hjw]
              exact hno'
          · rintro T' H' M' ⟨rfl, i0, i3, i4, i7, ih, hno⟩
            have h5' : mvR m k = 0 := by rw [h4, any_take_no hno]; rfl
            simp only [go_sem, reduceIte, Nat.reduceEqDiff, Nat.reduceAdd, Nat.reduceMul, Nat.reduceSub, Nat.reduceLeDiff, Nat.reduceLT, Nat.reduceBEq, reduceCtorEq, i0, i3, i4, i7, ih, Nat.lt_irrefl, hw]
            rw [hf, hfd, h5', if_pos rfl]
    all_goals
      unfold endI at z1
      simp only at z1
      simp only [go_sem, reduceIte, Nat.reduceEqDiff, Nat.reduceAdd, Nat.reduceMul, Nat.reduceSub, Nat.reduceLeDiff, Nat.reduceLT, Nat.reduceBEq, reduceCtorEq, g0, g3, List.length_map, hk, hr, hw, e36, e35, e34_5, hE, z, z1, z2]
      have h4 : mvR m k = 4 := by rw [hms]; unfold endI; simp only [z, z1, z2, if_true, decide_true, Bool.true_or, Bool.or_true]
      simp [mapR, q1, hf, hfd, h4]
  · rintro T H M ⟨rfl, g0, g3, hf⟩
    rw [allR_end] at hf
    simp only [go_sem, reduceIte, Nat.reduceEqDiff, Nat.reduceAdd, Nat.reduceMul, Nat.reduceSub, Nat.reduceLeDiff, Nat.reduceLT, Nat.reduceBEq, reduceCtorEq, g0, g3, Nat.lt_irrefl]
    simp [mapR, q1, hf]
noncomputable def p44 : List AV → Option AV := primOf (α := (List Mv)) (fun x => [.ps .unk (x.map Mv.row)]) (fun x => x.length ≤ maxRows) (fun x => i64 (mapR x))
theorem pok44 : ∀ args v, p44 args = some v → ∀ lo H, CallOk NC lo 44 args H v H := by
  intro args v h
  obtain ⟨x, rfl, hp, rfl⟩ := primOf_inv h
  exact c44 x hp
theorem pe44 (m : List Mv) (hp : m.length ≤ maxRows) : p44 [.ps .unk (m.map Mv.row)] = some (.int .i64 (mapR m)) := primOf_enc (α := (List Mv)) (enc := fun x => [.ps .unk (x.map Mv.row)]) (pre := fun x => x.length ≤ maxRows) (spec := fun x => i64 (mapR x)) (by intro x y h; (simp only [List.cons.injEq, AV.agg.injEq, AV.str.injEq, AV.int.injEq, AV.ps.injEq, AV.bool.injEq, Net.cells_iff, Ln.row_iff, Pc.row_iff, Mv.row_iff, lns_iff, pcs_iff, mvs_iff, true_and, and_true] at h; first | simpa only [Prod.ext_iff] using h | simpa only [Prod.ext_iff, and_assoc] using h)) m hp
def fitsR (a b : Net) (m : List Mv) : Int := firstI (m.map (fitsI a b))
theorem errs_drop {α : Type} {f : α → Int} {l : List α} {k : Nat} {x : α} (h : l[k]? = some x) : firstI ((l.map f).drop k) = if f x = 0 then firstI ((l.map f).drop (k + 1)) else f x := firstI_drop (by simp [h])
noncomputable def PPF45 : FuncId → Option (List AV → Option AV) := addPrim 34 p34 (addPrim 126 p126 (fun _ => none))
theorem primsF45 : PrimsOk NC PPF45 := primsOk_add (primsOk_add (primsOk_none) (by kernel_rfl) (by kernel_rfl) pok126) (by kernel_rfl) (by kernel_rfl) pok34
theorem enF45_126 {rec : Rec} {lo : Nat} {args : List AV} {H : Heap} {K : AV → Heap → Prop} : VO (aenter (NC.withPrims PPF45) rec lo 126 args H) K = AO (p126 args) fun v => K v H := enter_prim (by rfl) (by kernel_rfl)
theorem enF45_34 {rec : Rec} {lo : Nat} {args : List AV} {H : Heap} {K : AV → Heap → Prop} : VO (aenter (NC.withPrims PPF45) rec lo 34 args H) K = AO (p34 args) fun v => K v H := enter_prim (by rfl) (by kernel_rfl)
attribute [go_sem ↓] enF45_126 enF45_34
theorem c45 (m : List Mv) (a b : Net) (hp : m.length ≤ maxRows ∧ a.fits ∧ b.fits) : ∀ lo H, CallOk NC lo 45 [.ps .unk (m.map Mv.row), .agg a.cells, .agg b.cells] H (i64 (fitsR a b m)) H := by
  refine contract saneNC primsF45 (fn := Tryz.f45) (by kernel_rfl) Tryz.func45 rfl rfl (by rfl) (by first | rfl | (split <;> first | rfl | (split <;> rfl))) ?_
  have hl := hp.1
  simp only [go_sem, reduceIte, Nat.reduceEqDiff, Nat.reduceAdd, Nat.reduceMul, Nat.reduceSub, Nat.reduceLeDiff, Nat.reduceLT, Nat.reduceBEq, reduceCtorEq, Net.cells, List.length_map]
  refine W_for (fun k T H M => M = [] ∧ getT T 0 = .ps .unk (m.map Mv.row) ∧ getT T 4 = .ptr 0 0 ∧ getT T 5 = .ptr 1 0 ∧ getT T 7 = i64 k ∧ H.get 0 = .cells a.cells 26 ∧ H.get 1 = .cells b.cells 26 ∧ 1 < H.n ∧ fitsR a b m = firstI ((m.map (fitsI a b)).drop k)) m.length ?_ ?_ ?_
  · simp only [go_sem, reduceIte, Nat.reduceEqDiff, Nat.reduceAdd, Nat.reduceMul, Nat.reduceSub, Nat.reduceLeDiff, Nat.reduceLT, Nat.reduceBEq, reduceCtorEq, Net.cells]
    try exact rfl
  · rintro k T H M hk ⟨rfl, g0, g4, g5, g7, h0, h1, hn, hf⟩
    obtain ⟨x, hx⟩ : ∃ p, m[k]? = some p := ⟨m[k], by simp⟩
    have hr := map_at (f := Mv.row) hx
    have hw := wrap_succ hk hl
    rw [errs_drop hx] at hf
    have b0 : (0 = H.n) = False := by simp; omega
    have b1 : (1 = H.n) = False := by simp; omega
    have b2 : 1 < H.n + 1 := by omega
    have ea := pe126 (a, x.line, x.fr, endI x) hp.2.1
    have eb := pe126 (b, x.other, x.to, wrapq .i64 (Int.add x.to x.len)) hp.2.2
    generalize hE : fitsI a b x = E at hf
    unfold fitsI at hE
    obtain ⟨x1, x2, x3, x4, x5, x6⟩ := x
    unfold endI at ea hE
    simp only [Mv.row, Net.cells, i64] at hr ea eb h0 h1 hE
    rcases Classical.propComplete (E = 0) with z | z
    · simp only [go_sem, reduceIte, Nat.reduceEqDiff, Nat.reduceAdd, Nat.reduceMul, Nat.reduceSub, Nat.reduceLeDiff, Nat.reduceLT, Nat.reduceBEq, reduceCtorEq, g0, g4, g5, g7, h0, h1, b0, b1, hk, hr, hw, ea, eb, e34_2, hE, z, List.length_map]
      simp [hf, z, Net.cells, b2]
    · simp only [go_sem, reduceIte, Nat.reduceEqDiff, Nat.reduceAdd, Nat.reduceMul, Nat.reduceSub, Nat.reduceLeDiff, Nat.reduceLT, Nat.reduceBEq, reduceCtorEq, g0, g4, g5, g7, h0, h1, b0, b1, hk, hr, hw, ea, eb, e34_2, hE, z, List.length_map]
      simp [hf, z]
  · rintro T H M ⟨rfl, g0, g4, g5, g7, h0, h1, hn, hf⟩
    rw [List.drop_eq_nil_of_le (by simp)] at hf
    simp only [go_sem, reduceIte, Nat.reduceEqDiff, Nat.reduceAdd, Nat.reduceMul, Nat.reduceSub, Nat.reduceLeDiff, Nat.reduceLT, Nat.reduceBEq, reduceCtorEq, g0, g4, g5, g7, Nat.lt_irrefl, List.length_map]
    rw [hf]; rfl
noncomputable def p45 : List AV → Option AV := primOf (α := (List Mv) × (Net) × (Net)) (fun x => [.ps .unk (x.1.map Mv.row), .agg x.2.1.cells, .agg x.2.2.cells]) (fun x => x.1.length ≤ maxRows ∧ x.2.1.fits ∧ x.2.2.fits) (fun x => i64 (fitsR x.2.1 x.2.2 x.1))
theorem pok45 : ∀ args v, p45 args = some v → ∀ lo H, CallOk NC lo 45 args H v H := by
  intro args v h
  obtain ⟨x, rfl, hp, rfl⟩ := primOf_inv h
  exact c45 x.1 x.2.1 x.2.2 hp
theorem pe45 (m : List Mv) (a b : Net) (hp : m.length ≤ maxRows ∧ a.fits ∧ b.fits) : p45 [.ps .unk (m.map Mv.row), .agg a.cells, .agg b.cells] = some (.int .i64 (fitsR a b m)) := primOf_enc (α := (List Mv) × (Net) × (Net)) (enc := fun x => [.ps .unk (x.1.map Mv.row), .agg x.2.1.cells, .agg x.2.2.cells]) (pre := fun x => x.1.length ≤ maxRows ∧ x.2.1.fits ∧ x.2.2.fits) (spec := fun x => i64 (fitsR x.2.1 x.2.2 x.1)) (by intro x y h; (simp only [List.cons.injEq, AV.agg.injEq, AV.str.injEq, AV.int.injEq, AV.ps.injEq, AV.bool.injEq, Net.cells_iff, Ln.row_iff, Pc.row_iff, Mv.row_iff, lns_iff, pcs_iff, mvs_iff, true_and, and_true] at h; first | simpa only [Prod.ext_iff] using h | simpa only [Prod.ext_iff, and_assoc] using h)) (m, a, b) hp
def kR (x : Mv) (q : Int) : Int := wrapq .i64 (Int.sub q x.fr)
def atR (x : Mv) (k : Int) : Int := if x.turned then wrapq .i64 (Int.sub (wrapq .i64 (Int.sub (wrapq .i64 (Int.add x.to x.len)) 1)) k) else wrapq .i64 (Int.add x.to k)
def hitR (s : List Nat) (q : Int) (x : Mv) : Bool := beqL x.line s && !decide (kR x q < 0) && decide (kR x q < x.len)
def carR (m : List Mv) (s : List Nat) (q : Int) : List AV := match m.find? (hitR s q) with
  | none => [noPlace, .bool false]
  | some x => [.agg [.str x.other, i64 (atR x (kR x q))], .bool true]
theorem carR_pure (m : List Mv) (s : List Nat) (k : Int) : (AV.tup (carR m s k)).pure = true := by
  unfold carR; split <;> rfl
noncomputable def PPF47 : FuncId → Option (List AV → Option AV) := fun _ => none
theorem primsF47 : PrimsOk NC PPF47 := primsOk_none
theorem c47 (m : List Mv) (s : List Nat) (q : Int) (hp : m.length ≤ maxRows) : ∀ lo H, CallOk NC lo 47 [.ps .unk (m.map Mv.row), .agg [.str s, i64 q]] H (.tup (carR m s q)) H := by
  refine contract saneNC primsF47 (fn := Tryz.f47) (by kernel_rfl) Tryz.func47 rfl rfl (by rfl) (carR_pure m s q) ?_
  simp only [go_sem, reduceIte, Nat.reduceEqDiff, Nat.reduceAdd, Nat.reduceMul, Nat.reduceSub, Nat.reduceLeDiff, Nat.reduceLT, Nat.reduceBEq, reduceCtorEq]
  refine W_for (fun k T H M => M = [] ∧ getT T 0 = .ps .unk (m.map Mv.row) ∧ getT T 3 = .ptr 0 0 ∧ getT T 4 = .ptr 1 0 ∧ getT T 6 = i64 k ∧ H.get 0 = .cells [.str s, i64 q] 28 ∧ H.get 1 = .cells [.str [], i64 0] 28 ∧ 1 < H.n ∧ ∀ j x, j < k → m[j]? = some x → hitR s q x = false) m.length ?_ ?_ ?_
  · simp only [go_sem, reduceIte, Nat.reduceEqDiff, Nat.reduceAdd, Nat.reduceMul, Nat.reduceSub, Nat.reduceLeDiff, Nat.reduceLT, Nat.reduceBEq, reduceCtorEq]; exact fun j x hj => absurd hj (by omega)
  · rintro k T H M hk ⟨rfl, g0, g3, g4, g6, h0, h1, hn, hf⟩
    obtain ⟨x, hx⟩ : ∃ p, m[k]? = some p := ⟨m[k], by simp⟩
    have hr := map_at (f := Mv.row) hx
    have hw := wrap_succ hk hp
    have b0 : (0 = H.n) = False := by simp; omega
    have b1 : (1 = H.n) = False := by simp; omega
    have b2 : 1 < H.n + 1 := by omega
    have hnext : hitR s q x = false → ∀ j y, j < k + 1 → m[j]? = some y → hitR s q y = false := fun hh j y hj hy => by
      by_cases e : j = k
      · subst e; rw [hx] at hy; cases hy; exact hh
      · exact hf j y (by omega) hy
    have hhit : hitR s q x = true → carR m s q = [.agg [.str x.other, i64 (atR x (kR x q))], .bool true] := fun hh => by unfold carR; rw [find_at hf hx hh]
    have hh : hitR s q x = (beqL x.line s && !decide (kR x q < 0) && decide (kR x q < x.len)) := rfl
    rw [hh] at hnext hhit
    clear hh
    unfold kR at hnext
    unfold kR atR at hhit
    obtain ⟨a, b, c, d, e, f⟩ := x
    simp only [Mv.row] at hr
    simp only at hnext hhit
    cases h2 : beqL a s <;> rcases Classical.propComplete (wrapq .i64 (Int.sub q b) < 0) with h3 | h3 <;> rcases Classical.propComplete (wrapq .i64 (Int.sub q b) < c) with h4 | h4 <;> cases f <;> simp only [go_sem, reduceIte, Nat.reduceEqDiff, Nat.reduceAdd, Nat.reduceMul, Nat.reduceSub, Nat.reduceLeDiff, Nat.reduceLT, Nat.reduceBEq, reduceCtorEq, g0, g3, g4, g6, h0, h1, b0, b1, hk, hr, hw, h2, h3, h4, List.length_map]
    all_goals first | (rw [hhit (by simp [h2, h3, h4])]; done) | (rw [hhit (by simp [h2, h3, h4])]; rfl) | exact ⟨b2, hnext (by simp [h2, h3, h4])⟩ | exact ⟨h0, h1, b2, hnext (by simp [h2, h3, h4])⟩ | skip
  · rintro T H M ⟨rfl, g0, g3, g4, g6, h0, h1, hn, hf⟩
    simp only [go_sem, reduceIte, Nat.reduceEqDiff, Nat.reduceAdd, Nat.reduceMul, Nat.reduceSub, Nat.reduceLeDiff, Nat.reduceLT, Nat.reduceBEq, reduceCtorEq, g0, g3, g4, g6, h0, h1, Nat.lt_irrefl, List.length_map]
    unfold carR
    rw [find_no hf]
    rfl
noncomputable def p47 : List AV → Option AV := primOf (α := (List Mv) × (List Nat) × (Int)) (fun x => [.ps .unk (x.1.map Mv.row), .agg [.str x.2.1, i64 x.2.2]]) (fun x => x.1.length ≤ maxRows) (fun x => .tup (carR x.1 x.2.1 x.2.2))
theorem pok47 : ∀ args v, p47 args = some v → ∀ lo H, CallOk NC lo 47 args H v H := by
  intro args v h
  obtain ⟨x, rfl, hp, rfl⟩ := primOf_inv h
  exact c47 x.1 x.2.1 x.2.2 hp
theorem pe47 (m : List Mv) (s : List Nat) (q : Int) (hp : m.length ≤ maxRows) : p47 [.ps .unk (m.map Mv.row), .agg [.str s, .int .i64 q]] = some (.tup (carR m s q)) := primOf_enc (α := (List Mv) × (List Nat) × (Int)) (enc := fun x => [.ps .unk (x.1.map Mv.row), .agg [.str x.2.1, i64 x.2.2]]) (pre := fun x => x.1.length ≤ maxRows) (spec := fun x => .tup (carR x.1 x.2.1 x.2.2)) (by intro x y h; (simp only [List.cons.injEq, AV.agg.injEq, AV.str.injEq, AV.int.injEq, AV.ps.injEq, AV.bool.injEq, Net.cells_iff, Ln.row_iff, Pc.row_iff, Mv.row_iff, lns_iff, pcs_iff, mvs_iff, true_and, and_true] at h; first | simpa only [Prod.ext_iff] using h | simpa only [Prod.ext_iff, and_assoc] using h)) (m, s, q) hp
def shortMv (x : Mv) : Bool := shortB x.line && shortB x.other
def shortM (m : List Mv) : Bool := m.all shortMv && !decide ((25 : Int) < m.length)
noncomputable def PPF41 : FuncId → Option (List AV → Option AV) := addPrim 97 p97 (fun _ => none)
theorem primsF41 : PrimsOk NC PPF41 := primsOk_add (primsOk_none) (by kernel_rfl) (by kernel_rfl) pok97
theorem enF41_97 {rec : Rec} {lo : Nat} {args : List AV} {H : Heap} {K : AV → Heap → Prop} : VO (aenter (NC.withPrims PPF41) rec lo 97 args H) K = AO (p97 args) fun v => K v H := enter_prim (by rfl) (by kernel_rfl)
attribute [go_sem ↓] enF41_97
theorem c41 (m : List Mv) (hp : m.length ≤ 9223372036854775807) : ∀ lo H, CallOk NC lo 41 [.ps .unk (m.map Mv.row)] H (.bool (shortM m)) H := by
  refine contract saneNC primsF41 (fn := Tryz.f41) (by kernel_rfl) Tryz.func41 rfl rfl (by rfl) (by first | rfl | (split <;> first | rfl | (split <;> rfl))) ?_
  have hl := hp
  simp only [go_sem, reduceIte, Nat.reduceEqDiff, Nat.reduceAdd, Nat.reduceMul, Nat.reduceSub, Nat.reduceLeDiff, Nat.reduceLT, Nat.reduceBEq, reduceCtorEq]
  refine W_for (fun k T H M => M = [] ∧ getT T 0 = .ps .unk (m.map Mv.row) ∧ getT T 3 = i64 k ∧ ∀ (j : Nat) x, j < k → m[j]? = some x → shortMv x = true) m.length ?_ ?_ ?_
  · simp only [go_sem, reduceIte, Nat.reduceEqDiff, Nat.reduceAdd, Nat.reduceMul, Nat.reduceSub, Nat.reduceLeDiff, Nat.reduceLT, Nat.reduceBEq, reduceCtorEq]; exact fun j x hj => absurd hj (by omega)
  · rintro k T H M hk ⟨rfl, g0, g3, hall⟩
    obtain ⟨x, hx⟩ : ∃ p, m[k]? = some p := ⟨m[k], by simp⟩
    have hr := map_at (f := Mv.row) hx
    have hw : wrapq .i64 (Int.add (k : Int) 1) = ((k + 1 : Nat) : Int) := wrap_nat (n := k + 1) (by omega)
    simp only [Mv.row] at hr
    cases d1 : shortB x.line <;> cases d2 : shortB x.other <;> simp only [go_sem, reduceIte, Nat.reduceEqDiff, Nat.reduceAdd, Nat.reduceMul, Nat.reduceSub, Nat.reduceLeDiff, Nat.reduceLT, Nat.reduceBEq, reduceCtorEq, g0, g3, List.length_map, hk, hr, hw, e97, d1, d2]
    case true.true =>
      refine fun j y hj hy => ?_
      by_cases e : j = k
      · subst e; rw [hx] at hy; cases hy; simp [shortMv, d1, d2]
      · exact hall j y (by omega) hy
    all_goals unfold shortM; rw [all_false hx (by simp [shortMv, d1, d2])]; try rfl
  · rintro T H M ⟨rfl, g0, g3, hall⟩
    simp only [go_sem, reduceIte, Nat.reduceEqDiff, Nat.reduceAdd, Nat.reduceMul, Nat.reduceSub, Nat.reduceLeDiff, Nat.reduceLT, Nat.reduceBEq, reduceCtorEq, g0, g3, List.length_map, Nat.lt_irrefl]
    unfold shortM; rw [all_true hall]; rfl
noncomputable def p41 : List AV → Option AV := primOf (α := (List Mv)) (fun x => [.ps .unk (x.map Mv.row)]) (fun x => x.length ≤ 9223372036854775807) (fun x => .bool (shortM x))
theorem pok41 : ∀ args v, p41 args = some v → ∀ lo H, CallOk NC lo 41 args H v H := by
  intro args v h
  obtain ⟨x, rfl, hp, rfl⟩ := primOf_inv h
  exact c41 x hp
theorem pe41 (m : List Mv) (hp : m.length ≤ 9223372036854775807) : p41 [.ps .unk (m.map Mv.row)] = some (.bool (shortM m)) := primOf_enc (α := (List Mv)) (enc := fun x => [.ps .unk (x.map Mv.row)]) (pre := fun x => x.length ≤ 9223372036854775807) (spec := fun x => .bool (shortM x)) (by intro x y h; (simp only [List.cons.injEq, AV.agg.injEq, AV.str.injEq, AV.int.injEq, AV.ps.injEq, AV.bool.injEq, Net.cells_iff, Ln.row_iff, Pc.row_iff, Mv.row_iff, lns_iff, pcs_iff, mvs_iff, true_and, and_true] at h; first | simpa only [Prod.ext_iff] using h | simpa only [Prod.ext_iff, and_assoc] using h)) m hp
noncomputable def PPF43 : FuncId → Option (List AV → Option AV) := fun _ => none
theorem primsF43 : PrimsOk NC PPF43 := primsOk_none
theorem c43 (m : List Mv) (hp : m.length ≤ maxRows) : ∀ lo H, CallOk NC lo 43 [.ps .unk (m.map Mv.row)] H (.ps .unk (m.map Mv.row)) H := by
  refine contract saneNC primsF43 (fn := Tryz.f43) (by kernel_rfl) Tryz.func43 rfl rfl (by rfl) (by first | rfl | (split <;> first | rfl | (split <;> rfl))) ?_
  have hl := hp
  simp only [go_sem, reduceIte, Nat.reduceEqDiff, Nat.reduceAdd, Nat.reduceMul, Nat.reduceSub, Nat.reduceLeDiff, Nat.reduceLT, Nat.reduceBEq, reduceCtorEq]
  refine W_for (fun k T H M => M = [] ∧ getT T 6 = .ps .unk (m.map Mv.row) ∧ getT T 7 = i64 (m.length : Nat) ∧ getT T 8 = i64 k ∧ ∃ t, getT T 3 = .ps t ((m.take k).map Mv.row) ∧ App H t ((m.take k).map Mv.row) 6 130) m.length ?_ ?_ ?_
  · simp only [go_sem, reduceIte, Nat.reduceEqDiff, Nat.reduceAdd, Nat.reduceMul, Nat.reduceSub, Nat.reduceLeDiff, Nat.reduceLT, Nat.reduceBEq, reduceCtorEq, List.length_map]; exact ⟨.nil, by simp, .inl ⟨rfl, rfl⟩⟩
  · rintro k T H M hk ⟨rfl, g6, g7, g8, t, g3, hA⟩
    obtain ⟨x, hx⟩ : ∃ p, m[k]? = some p := ⟨m[k], by simp⟩
    have hr := map_at (f := Mv.row) hx
    have hw := wrap_succ hk hl
    have htk := take_map (f := Mv.row) hx
    obtain ⟨t', H1, ha, hB, hn1, hc1, _⟩ := app_any (H := (H.push (.cells [.str [], .int .i64 0, .int .i64 0, .str [], .int .i64 0, .bool false] 128)).set H.n (.cells x.row 128)) (hA.fresh _ _ rfl) (r := x.row) (by simp; omega) rfl (by decide) (rows_all Mv.row_len _)
    obtain ⟨a, b, c, d, e, f⟩ := x
    simp only [Mv.row] at hr ha
    simp only [go_sem, reduceIte, Nat.reduceEqDiff, Nat.reduceAdd, Nat.reduceMul, Nat.reduceSub, Nat.reduceLeDiff, Nat.reduceLT, Nat.reduceBEq, reduceCtorEq, g6, g7, g8, g3, List.length_map, hk, hr, hw, appO, ha]
    rw [htk]
    exact ⟨t', rfl, hB⟩
  · rintro T H M ⟨rfl, g6, g7, g8, t, g3, hA⟩
    simp only [go_sem, reduceIte, Nat.reduceEqDiff, Nat.reduceAdd, Nat.reduceMul, Nat.reduceSub, Nat.reduceLeDiff, Nat.reduceLT, Nat.reduceBEq, reduceCtorEq, g6, g7, g8, g3, List.take_length, Nat.lt_irrefl]
noncomputable def p43 : List AV → Option AV := primOf (α := (List Mv)) (fun x => [.ps .unk (x.map Mv.row)]) (fun x => x.length ≤ maxRows) (fun x => .ps .unk (x.map Mv.row))
theorem pok43 : ∀ args v, p43 args = some v → ∀ lo H, CallOk NC lo 43 args H v H := by
  intro args v h
  obtain ⟨x, rfl, hp, rfl⟩ := primOf_inv h
  exact c43 x hp
theorem pe43 (m : List Mv) (hp : m.length ≤ maxRows) : p43 [.ps .unk (m.map Mv.row)] = some (.ps .unk (m.map Mv.row)) := primOf_enc (α := (List Mv)) (enc := fun x => [.ps .unk (x.map Mv.row)]) (pre := fun x => x.length ≤ maxRows) (spec := fun x => .ps .unk (x.map Mv.row)) (by intro x y h; (simp only [List.cons.injEq, AV.agg.injEq, AV.str.injEq, AV.int.injEq, AV.ps.injEq, AV.bool.injEq, Net.cells_iff, Ln.row_iff, Pc.row_iff, Mv.row_iff, lns_iff, pcs_iff, mvs_iff, true_and, and_true] at h; first | simpa only [Prod.ext_iff] using h | simpa only [Prod.ext_iff, and_assoc] using h)) m hp
def carriedP (m : List Mv) (s : List Nat) (q : Int) : List AV :=
  let e := firstI [mapP m, whenI (!nameB s) 8, rangeI q 0 800000]
  if e = 0 then (match m.find? (hitMv s q) with
    | none => [noPlace, i64 7]
    | some x => [.agg [.str x.other, i64 (atI x q)], i64 0]) else [noPlace, i64 e]
theorem carriedP_pure (m : List Mv) (s : List Nat) (k : Int) : (AV.tup (carriedP m s k)).pure = true := by
  unfold carriedP; simp only []; repeat' split
  all_goals rfl
theorem carP_shape (m : List Mv) (s : List Nat) (q : Int) : ∃ s' k b, carP m s q = [.agg [.str s', .int .i64 k], .bool b] ∧ carriedP m s q = (let e := firstI [mapP m, whenI (!nameB s) 8, rangeI q 0 800000]; if e = 0 then [.agg [.str s', .int .i64 k], i64 (whenI (!b) 7)] else [noPlace, i64 e]) := by
  unfold carP carriedP
  cases m.find? (hitMv s q) with
  | none => exact ⟨_, _, _, rfl, rfl⟩
  | some x => exact ⟨_, _, _, rfl, rfl⟩
noncomputable def PPF42 : FuncId → Option (List AV → Option AV) := addPrim 121 p121 (addPrim 124 p124 (addPrim 111 p111 (addPrim 115 p115 (addPrim 120 p120 (addPrim 49 p49 (fun _ => none))))))
theorem primsF42 : PrimsOk NC PPF42 := primsOk_add (primsOk_add (primsOk_add (primsOk_add (primsOk_add (primsOk_add (primsOk_none) (by kernel_rfl) (by kernel_rfl) pok49) (by kernel_rfl) (by kernel_rfl) pok120) (by kernel_rfl) (by kernel_rfl) pok115) (by kernel_rfl) (by kernel_rfl) pok111) (by kernel_rfl) (by kernel_rfl) pok124) (by kernel_rfl) (by kernel_rfl) pok121
theorem enF42_49 {rec : Rec} {lo : Nat} {args : List AV} {H : Heap} {K : AV → Heap → Prop} : VO (aenter (NC.withPrims PPF42) rec lo 49 args H) K = AO (p49 args) fun v => K v H := enter_prim (by rfl) (by kernel_rfl)
theorem enF42_120 {rec : Rec} {lo : Nat} {args : List AV} {H : Heap} {K : AV → Heap → Prop} : VO (aenter (NC.withPrims PPF42) rec lo 120 args H) K = AO (p120 args) fun v => K v H := enter_prim (by rfl) (by kernel_rfl)
theorem enF42_115 {rec : Rec} {lo : Nat} {args : List AV} {H : Heap} {K : AV → Heap → Prop} : VO (aenter (NC.withPrims PPF42) rec lo 115 args H) K = AO (p115 args) fun v => K v H := enter_prim (by rfl) (by kernel_rfl)
theorem enF42_111 {rec : Rec} {lo : Nat} {args : List AV} {H : Heap} {K : AV → Heap → Prop} : VO (aenter (NC.withPrims PPF42) rec lo 111 args H) K = AO (p111 args) fun v => K v H := enter_prim (by rfl) (by kernel_rfl)
theorem enF42_124 {rec : Rec} {lo : Nat} {args : List AV} {H : Heap} {K : AV → Heap → Prop} : VO (aenter (NC.withPrims PPF42) rec lo 124 args H) K = AO (p124 args) fun v => K v H := enter_prim (by rfl) (by kernel_rfl)
theorem enF42_121 {rec : Rec} {lo : Nat} {args : List AV} {H : Heap} {K : AV → Heap → Prop} : VO (aenter (NC.withPrims PPF42) rec lo 121 args H) K = AO (p121 args) fun v => K v H := enter_prim (by rfl) (by kernel_rfl)
attribute [go_sem ↓] enF42_49 enF42_120 enF42_115 enF42_111 enF42_124 enF42_121
theorem c42 (m : List Mv) (s : List Nat) (q : Int) (hp : MapOk m ∧ s.length ≤ maxRows) : ∀ lo H, CallOk NC lo 42 [.ps .unk (m.map Mv.row), .agg [.str s, i64 q]] H (.tup (carriedP m s q)) H := by
  refine contract saneNC primsF42 (fn := Tryz.f42) (by kernel_rfl) Tryz.func42 rfl rfl (by rfl) (carriedP_pure m s q) ?_
  obtain ⟨s', k, b, hc, hcp⟩ := carP_shape m s q
  have e49 := pe49 m hp.1
  have e124 := pe124 m s q hp.1.few
  have e120' := e120 s hp.2
  rw [hc] at e124
  rw [hcp]
  generalize hE : firstI [mapP m, whenI (!nameB s) 8, rangeI q 0 800000] = E
  rcases Classical.propComplete (E = 0) with z | z
  · simp only [go_sem, reduceIte, Nat.reduceEqDiff, Nat.reduceAdd, Nat.reduceMul, Nat.reduceSub, Nat.reduceLeDiff, Nat.reduceLT, Nat.reduceBEq, reduceCtorEq, e49, e120', e115, e111_3, hE, z, e124, e121]
  · simp only [go_sem, reduceIte, Nat.reduceEqDiff, Nat.reduceAdd, Nat.reduceMul, Nat.reduceSub, Nat.reduceLeDiff, Nat.reduceLT, Nat.reduceBEq, reduceCtorEq, e49, e120', e115, e111_3, hE, z, noPlace]
noncomputable def p42 : List AV → Option AV := primOf (α := (List Mv) × (List Nat) × (Int)) (fun x => [.ps .unk (x.1.map Mv.row), .agg [.str x.2.1, i64 x.2.2]]) (fun x => MapOk x.1 ∧ x.2.1.length ≤ maxRows) (fun x => .tup (carriedP x.1 x.2.1 x.2.2))
theorem pok42 : ∀ args v, p42 args = some v → ∀ lo H, CallOk NC lo 42 args H v H := by
  intro args v h
  obtain ⟨x, rfl, hp, rfl⟩ := primOf_inv h
  exact c42 x.1 x.2.1 x.2.2 hp
theorem pe42 (m : List Mv) (s : List Nat) (q : Int) (hp : MapOk m ∧ s.length ≤ maxRows) : p42 [.ps .unk (m.map Mv.row), .agg [.str s, .int .i64 q]] = some (.tup (carriedP m s q)) := primOf_enc (α := (List Mv) × (List Nat) × (Int)) (enc := fun x => [.ps .unk (x.1.map Mv.row), .agg [.str x.2.1, i64 x.2.2]]) (pre := fun x => MapOk x.1 ∧ x.2.1.length ≤ maxRows) (spec := fun x => .tup (carriedP x.1 x.2.1 x.2.2)) (by intro x y h; (simp only [List.cons.injEq, AV.agg.injEq, AV.str.injEq, AV.int.injEq, AV.ps.injEq, AV.bool.injEq, Net.cells_iff, Ln.row_iff, Pc.row_iff, Mv.row_iff, lns_iff, pcs_iff, mvs_iff, true_and, and_true] at h; first | simpa only [Prod.ext_iff] using h | simpa only [Prod.ext_iff, and_assoc] using h)) (m, s, q) hp
end Go.Sim

/-
The plain law of maps: the program's errors are the reference's; what a valid map carries.
-/
namespace Go.Sim
open Go
theorem firstI_append (a b : List Int) : firstI (a ++ b) = if firstI a = 0 then firstI b else firstI a := by
  induction a with
  | nil => simp [firstI]
  | cons x r ih =>
    rw [List.cons_append, firstI_cons, firstI_cons, ih]
    by_cases h : x = 0
    · simp [h]
    · simp [h]
theorem any_same {α : Type} {f g : α → Bool} : ∀ {l : List α}, (∀ x ∈ l, f x = g x) → l.any f = l.any g
  | [], _ => rfl
  | a :: r, h => by rw [List.any_cons, List.any_cons, h a (by simp), any_same fun x hx => h x (by simp [hx])]
theorem find_same {α : Type} {f g : α → Bool} : ∀ {l : List α}, (∀ x ∈ l, f x = g x) → l.find? f = l.find? g
  | [], _ => rfl
  | a :: r, h => by rw [List.find?_cons, List.find?_cons, h a (by simp), find_same fun x hx => h x (by simp [hx])]
theorem allR_succ (f : Nat → Int) (n : Nat) : allR f (n + 1) = if allR f n = 0 then f n else allR f n := by
  unfold allR
  rw [List.range_succ, List.map_append, firstI_append]
  simp only [List.map_cons, List.map_nil, firstI_cons, firstI_nil]
  split
  · split
    · rename_i h; exact h.symm
    · rfl
  · rfl
theorem allR_same {f g : Nat → Int} : ∀ {n : Nat}, (∀ i, i < n → (∀ j, j < i → f j = 0) → f i = g i) → allR f n = allR g n
  | 0, _ => rfl
  | n + 1, h => by
    rw [allR_succ, allR_succ, ← allR_same (n := n) (fun i hi => h i (by omega))]
    split
    · rename_i hz
      exact h n (by omega) fun j hj => allR_zero hz hj
    · rfl
structure Mv.Good (x : Mv) : Prop where
  line : nameB x.line = true
  other : nameB x.other = true
  fr : 0 ≤ x.fr
  len : 1 ≤ x.len
  to : 0 ≤ x.to
  frl : x.fr + x.len ≤ 800000
  tol : x.to + x.len ≤ 800000
theorem when_name {s : List Nat} (h : whenI (!nameB s) 8 = 0) : nameB s = true := by
  cases hb : nameB s with
  | true => rfl
  | false => rw [hb] at h; simp [whenI] at h
theorem mv_ranges {x : Mv} (h : firstI [whenI (!nameB x.line) 8, whenI (!nameB x.other) 8, rangeI x.fr 0 800000, rangeI x.len 1 800000, rangeI x.to 0 800000] = 0) :
    nameB x.line = true ∧ nameB x.other = true ∧ (0 ≤ x.fr ∧ x.fr ≤ 800000) ∧ (1 ≤ x.len ∧ x.len ≤ 800000) ∧ 0 ≤ x.to ∧ x.to ≤ 800000 := by
  have hm := firstI_zero h
  exact ⟨when_name (hm _ (by simp)), when_name (hm _ (by simp)), rangeI_zero (hm (rangeI x.fr 0 800000) (by simp)), rangeI_zero (hm (rangeI x.len 1 800000) (by simp)), rangeI_zero (hm (rangeI x.to 0 800000) (by simp))⟩
theorem maxI_lt {a b c : Int} : maxI a b < c ↔ a < c ∧ b < c := by unfold maxI; split <;> omega
theorem lt_minI {a b c : Int} : c < minI a b ↔ c < a ∧ c < b := by unfold minI; split <;> omega
theorem maxI_or (a b : Int) : maxI a b = a ∨ maxI a b = b := by unfold maxI; split <;> simp
theorem mvP_good {x : Mv} (h : mvP x = 0) : x.Good := by
  unfold mvP at h
  simp only [] at h
  split at h
  · rename_i he
    obtain ⟨a, b, c, d, e, f⟩ := mv_ranges he
    have hs : Int.add (maxI x.fr x.to) x.len = maxI x.fr x.to + x.len := rfl
    have hb := maxI_or x.fr x.to
    rw [hs, wrap_small (by rcases hb with hb | hb <;> omega) (by rcases hb with hb | hb <;> omega)] at h
    have hn : ¬ (800000 < maxI x.fr x.to + x.len) := by
      intro hc; rw [decide_eq_true hc] at h; simp [whenI] at h
    have hm : x.fr ≤ maxI x.fr x.to ∧ x.to ≤ maxI x.fr x.to := by unfold maxI; split <;> omega
    exact ⟨a, b, c.1, d.1, e, by omega, by omega⟩
  · rename_i he; exact absurd h he
theorem Mv.Good.end_ {x : Mv} (h : x.Good) : endI x = x.fr + x.len := by
  have e : Int.add x.fr x.len = x.fr + x.len := rfl
  have := h.fr; have := h.len; have := h.frl
  unfold endI; rw [e, wrap_small (by omega) (by omega)]
theorem Mv.Good.till {x : Mv} (h : x.Good) : wrapq .i64 (Int.add x.to x.len) = x.to + x.len := by
  have e : Int.add x.to x.len = x.to + x.len := rfl
  have := h.to; have := h.len; have := h.tol
  rw [e, wrap_small (by omega) (by omega)]
theorem meet_same {x y : Mv} (hx : x.Good) (hy : y.Good) : meetB x y = overB y x := by
  unfold meetB overB
  rw [hx.till, hy.till]
  have := hx.len; have := hy.len
  have : (maxI y.to x.to < minI (y.to + y.len) (x.to + x.len)) ↔ (y.to < x.to + x.len ∧ x.to < y.to + y.len) := by
    rw [maxI_lt, lt_minI, lt_minI]
    omega
  rw [Bool.and_assoc]
  congr 1
  rw [Bool.eq_iff_iff]
  simp only [decide_eq_true_eq, Bool.and_eq_true]
  exact this
theorem move_same (m : List Mv) (i : Nat) (hz : ∀ j, j < i → moveP m j = 0) : moveP m i = mvR m i := by
  unfold moveP mvR
  cases hx : m[i]? with
  | none => rfl
  | some x =>
    simp only []
    unfold mvP
    simp only []
    by_cases he : firstI [whenI (!nameB x.line) 8, whenI (!nameB x.other) 8, rangeI x.fr 0 800000, rangeI x.len 1 800000, rangeI x.to 0 800000] = 0
    · simp only [he, if_true]
      obtain ⟨a, b, c, d, e, f⟩ := mv_ranges he
      have hb := maxI_or x.fr x.to
      have hm : x.fr ≤ maxI x.fr x.to ∧ x.to ≤ maxI x.fr x.to := by unfold maxI; split <;> omega
      have hs : Int.add (maxI x.fr x.to) x.len = maxI x.fr x.to + x.len := rfl
      have hs1 : Int.add x.to x.len = x.to + x.len := rfl
      have hs2 : endI x = x.fr + x.len := by
        have e : Int.add x.fr x.len = x.fr + x.len := rfl
        unfold endI; rw [e, wrap_small (by omega) (by omega)]
      rw [hs, hs1, hs2, wrap_small (x := maxI x.fr x.to + x.len) (by rcases hb with hb | hb <;> omega) (by rcases hb with hb | hb <;> omega), wrap_small (x := x.to + x.len) (by omega) (by omega)]
      have hor : (decide (800000 < x.fr + x.len) || decide (800000 < x.to + x.len)) = decide (800000 < maxI x.fr x.to + x.len) := by
        rw [Bool.eq_iff_iff]
        simp only [Bool.or_eq_true, decide_eq_true_eq]
        rcases hb with hb | hb <;> omega
      rw [hor]
      by_cases hl : 800000 < maxI x.fr x.to + x.len
      · simp [hl, whenI]
      · simp only [hl, decide_false, whenI_false, if_true, Bool.false_eq_true, if_false]
        have hxg : x.Good := ⟨a, b, c.1, d.1, e, by omega, by omega⟩
        have hany : (m.take i).any (meetB x) = (m.take i).any (fun y => overB y x) := by
          apply any_same
          intro y hy
          obtain ⟨j, hj⟩ := List.mem_iff_getElem?.1 hy
          rw [List.getElem?_take] at hj
          split at hj
          · rename_i hji
            have hjz := hz j hji
            unfold moveP at hjz
            simp only [hj] at hjz
            split at hjz
            · rename_i hp
              exact meet_same hxg (mvP_good hp)
            · rename_i hp; exact absurd hjz hp
          · cases hj
        rw [hany]
        rfl
    · simp [he]
theorem map_same (m : List Mv) : mapP m = mapR m := by
  unfold mapP mapR
  rw [allR_same (f := moveP m) (g := mvR m) (n := m.length) fun i _ hz => move_same m i hz]
theorem map_good {m : List Mv} (h : mapR m = 0) {x : Mv} (hx : x ∈ m) : x.Good := by
  rw [← map_same] at h
  unfold mapP at h
  by_cases hl : (24 : Int) < m.length
  · simp [hl] at h
  · simp only [hl, if_false] at h
    obtain ⟨i, hi⟩ := List.mem_iff_getElem?.1 hx
    have hz := allR_zero h (List.getElem?_eq_some_iff.1 hi).1
    unfold moveP at hz
    simp only [hi] at hz
    split at hz
    · rename_i hp; exact mvP_good hp
    · rename_i hp; exact absurd hz hp
/-! ### What is carried -/
theorem hit_same {x : Mv} (hx : x.Good) (s : List Nat) {q : Int} (h0 : 0 ≤ q) (h1 : q ≤ 800000) : hitMv s q x = hitR s q x := by
  have := hx.fr; have := hx.len; have := hx.frl
  have e : Int.sub q x.fr = q - x.fr := rfl
  unfold hitMv hitR kR
  rw [hx.end_, e, wrap_small (by omega) (by omega)]
  rw [Bool.eq_iff_iff]
  simp only [Bool.and_eq_true, Bool.not_eq_true', decide_eq_true_eq, decide_eq_false_iff_not]
  constructor
  · rintro ⟨⟨a, b⟩, c⟩; exact ⟨⟨a, by omega⟩, by omega⟩
  · rintro ⟨⟨a, b⟩, c⟩; exact ⟨⟨a, by omega⟩, by omega⟩
theorem at_same {x : Mv} (hx : x.Good) {q : Int} (h0 : x.fr ≤ q) (h1 : q < x.fr + x.len) : atI x q = atR x (kR x q) := by
  have := hx.fr; have := hx.len; have := hx.frl; have := hx.to; have := hx.tol
  have e : Int.sub q x.fr = q - x.fr := rfl
  have e1 : Int.sub (x.to + x.len) 1 = x.to + x.len - 1 := rfl
  have e2 : Int.sub (x.to + x.len - 1) (q - x.fr) = x.to + x.len - 1 - (q - x.fr) := rfl
  have e3 : Int.add x.to (q - x.fr) = x.to + (q - x.fr) := rfl
  have e4 : Int.add x.to q = x.to + q := rfl
  have e5 : Int.sub (x.to + q) x.fr = x.to + q - x.fr := rfl
  unfold atI atR kR
  rw [hx.till, e1, wrap_small (x := x.to + x.len - 1) (by omega) (by omega), e, wrap_small (x := q - x.fr) (by omega) (by omega), e2, e3, e4, wrap_small (x := x.to + q) (by omega) (by omega), e5]
  have : x.to + (q - x.fr) = x.to + q - x.fr := by omega
  rw [this]
theorem hit_in {x : Mv} (hx : x.Good) {s : List Nat} {q : Int} (h : hitMv s q x = true) : x.line = s ∧ x.fr ≤ q ∧ q < x.fr + x.len := by
  unfold hitMv at h
  rw [hx.end_] at h
  simp only [Bool.and_eq_true, Bool.not_eq_true', decide_eq_true_eq, decide_eq_false_iff_not] at h
  exact ⟨(beqL_iff _ _).1 h.1.1, by omega, h.2⟩
theorem car_same {m : List Mv} (h : mapR m = 0) (s : List Nat) {q : Int} (h0 : 0 ≤ q) (h1 : q ≤ 800000) : carP m s q = carR m s q := by
  unfold carP carR
  rw [← find_same (l := m) (f := hitMv s q) fun x hx => hit_same (map_good h hx) s h0 h1]
  cases hf : m.find? (hitMv s q) with
  | none => rfl
  | some x =>
    have hm := List.mem_of_find?_eq_some hf
    have hh := List.find?_some hf
    have hg := map_good h hm
    obtain ⟨_, a, b⟩ := hit_in hg hh
    simp only [at_same hg a b]
end Go.Sim

/-
The document's examples: what 'awake' returns, found by closed runs.
-/
namespace Go.Sim
open Go
def aw0 : List Known := []
theorem awh0 : ∀ k ∈ aw0, ∀ lo H, CallOk NC lo k.f k.args H k.v H := fun k h => by cases h
def ak1 : Known := ⟨110, [.ps .unk [[.str [117, 112], .ps .unk [[.int .i64 100, .int .i64 5000, .bool false], [.int .i64 50, .int .i64 5080, .bool false], [.int .i64 30, .int .i64 5200, .bool true]]], [.str [115, 105, 100, 101], .ps .unk [[.int .i64 40, .int .i64 0, .bool false]]]]], .int .i64 0⟩
theorem ac1 : ∀ lo H, CallOk NC lo ak1.f ak1.args H ak1.v H := known_ok saneNC awh0 (fuel := 5000) (by kernel_rfl) (by kernel_rfl) (by kernel_rfl)
def aw1 : List Known := ak1 :: aw0
theorem awh1 : ∀ k ∈ aw1, ∀ lo H, CallOk NC lo k.f k.args H k.v H := fun k h => (List.mem_cons.1 h).elim (fun e => e ▸ ac1) (awh0 k)
def ak2 : Known := ⟨112, [.agg [.ps .unk [[.str [117, 112], .ps .unk [[.int .i64 100, .int .i64 5000, .bool false], [.int .i64 50, .int .i64 5080, .bool false], [.int .i64 30, .int .i64 5200, .bool true]]], [.str [115, 105, 100, 101], .ps .unk [[.int .i64 40, .int .i64 0, .bool false]]]], .ps .unk [[.str [119], .str [117, 112], .int .i64 120, .str [115, 105, 100, 101], .bool false]], .ps .unk [[.str [97, 114, 99, 104], .str [98, 114, 105, 100, 103, 101], .str [117, 112], .int .i64 130, .int .i64 150]]]], .int .i64 0⟩
theorem ac2 : ∀ lo H, CallOk NC lo ak2.f ak2.args H ak2.v H := known_ok saneNC awh1 (fuel := 5000) (by kernel_rfl) (by kernel_rfl) (by kernel_rfl)
def aw2 : List Known := ak2 :: aw1
theorem awh2 : ∀ k ∈ aw2, ∀ lo H, CallOk NC lo k.f k.args H k.v H := fun k h => (List.mem_cons.1 h).elim (fun e => e ▸ ac2) (awh1 k)
def ak3 : Known := ⟨113, [.agg [.ps .unk [[.str [117, 112], .ps .unk [[.int .i64 100, .int .i64 5000, .bool false], [.int .i64 50, .int .i64 5080, .bool false], [.int .i64 30, .int .i64 5200, .bool true]]], [.str [115, 105, 100, 101], .ps .unk [[.int .i64 40, .int .i64 0, .bool false]]]], .ps .unk [[.str [119], .str [117, 112], .int .i64 120, .str [115, 105, 100, 101], .bool false]], .ps .unk [[.str [97, 114, 99, 104], .str [98, 114, 105, 100, 103, 101], .str [117, 112], .int .i64 130, .int .i64 150]]]], .int .i64 0⟩
theorem ac3 : ∀ lo H, CallOk NC lo ak3.f ak3.args H ak3.v H := known_ok saneNC awh2 (fuel := 5000) (by kernel_rfl) (by kernel_rfl) (by kernel_rfl)
def aw3 : List Known := ak3 :: aw2
theorem awh3 : ∀ k ∈ aw3, ∀ lo H, CallOk NC lo k.f k.args H k.v H := fun k h => (List.mem_cons.1 h).elim (fun e => e ▸ ac3) (awh2 k)
def ak4 : Known := ⟨29, [.agg [.ps .unk [[.str [117, 112], .ps .unk [[.int .i64 100, .int .i64 5000, .bool false], [.int .i64 50, .int .i64 5080, .bool false], [.int .i64 30, .int .i64 5200, .bool true]]], [.str [115, 105, 100, 101], .ps .unk [[.int .i64 40, .int .i64 0, .bool false]]]], .ps .unk [[.str [119], .str [117, 112], .int .i64 120, .str [115, 105, 100, 101], .bool false]], .ps .unk [[.str [97, 114, 99, 104], .str [98, 114, 105, 100, 103, 101], .str [117, 112], .int .i64 130, .int .i64 150]]]], .int .i64 0⟩
theorem ac4 : ∀ lo H, CallOk NC lo ak4.f ak4.args H ak4.v H := known_ok saneNC awh3 (fuel := 5000) (by kernel_rfl) (by kernel_rfl) (by kernel_rfl)
def aw4 : List Known := ak4 :: aw3
theorem awh4 : ∀ k ∈ aw4, ∀ lo H, CallOk NC lo k.f k.args H k.v H := fun k h => (List.mem_cons.1 h).elim (fun e => e ▸ ac4) (awh3 k)
def ak5 : Known := ⟨18, [.agg [.ps .unk [[.str [117, 112], .ps .unk [[.int .i64 100, .int .i64 5000, .bool false], [.int .i64 50, .int .i64 5080, .bool false], [.int .i64 30, .int .i64 5200, .bool true]]], [.str [115, 105, 100, 101], .ps .unk [[.int .i64 40, .int .i64 0, .bool false]]]], .ps .unk [[.str [119], .str [117, 112], .int .i64 120, .str [115, 105, 100, 101], .bool false]], .ps .unk [[.str [97, 114, 99, 104], .str [98, 114, 105, 100, 103, 101], .str [117, 112], .int .i64 130, .int .i64 150]]], .str [117, 112]], .tup [.int .i64 180, .int .i64 0]⟩
theorem ac5 : ∀ lo H, CallOk NC lo ak5.f ak5.args H ak5.v H := known_ok saneNC awh4 (fuel := 5000) (by kernel_rfl) (by kernel_rfl) (by kernel_rfl)
def aw5 : List Known := ak5 :: aw4
theorem awh5 : ∀ k ∈ aw5, ∀ lo H, CallOk NC lo k.f k.args H k.v H := fun k h => (List.mem_cons.1 h).elim (fun e => e ▸ ac5) (awh4 k)
def ak6 : Known := ⟨20, [.agg [.ps .unk [[.str [117, 112], .ps .unk [[.int .i64 100, .int .i64 5000, .bool false], [.int .i64 50, .int .i64 5080, .bool false], [.int .i64 30, .int .i64 5200, .bool true]]], [.str [115, 105, 100, 101], .ps .unk [[.int .i64 40, .int .i64 0, .bool false]]]], .ps .unk [[.str [119], .str [117, 112], .int .i64 120, .str [115, 105, 100, 101], .bool false]], .ps .unk [[.str [97, 114, 99, 104], .str [98, 114, 105, 100, 103, 101], .str [117, 112], .int .i64 130, .int .i64 150]]], .agg [.str [117, 112], .int .i64 120]], .tup [.agg [.str [117, 112], .int .i64 1, .int .i64 5100], .int .i64 0]⟩
theorem ac6 : ∀ lo H, CallOk NC lo ak6.f ak6.args H ak6.v H := known_ok saneNC awh5 (fuel := 5000) (by kernel_rfl) (by kernel_rfl) (by kernel_rfl)
def aw6 : List Known := ak6 :: aw5
theorem awh6 : ∀ k ∈ aw6, ∀ lo H, CallOk NC lo k.f k.args H k.v H := fun k h => (List.mem_cons.1 h).elim (fun e => e ▸ ac6) (awh5 k)
def ak7 : Known := ⟨20, [.agg [.ps .unk [[.str [117, 112], .ps .unk [[.int .i64 100, .int .i64 5000, .bool false], [.int .i64 50, .int .i64 5080, .bool false], [.int .i64 30, .int .i64 5200, .bool true]]], [.str [115, 105, 100, 101], .ps .unk [[.int .i64 40, .int .i64 0, .bool false]]]], .ps .unk [[.str [119], .str [117, 112], .int .i64 120, .str [115, 105, 100, 101], .bool false]], .ps .unk [[.str [97, 114, 99, 104], .str [98, 114, 105, 100, 103, 101], .str [117, 112], .int .i64 130, .int .i64 150]]], .agg [.str [117, 112], .int .i64 179]], .tup [.agg [.str [117, 112], .int .i64 2, .int .i64 5171], .int .i64 0]⟩
theorem ac7 : ∀ lo H, CallOk NC lo ak7.f ak7.args H ak7.v H := known_ok saneNC awh6 (fuel := 5000) (by kernel_rfl) (by kernel_rfl) (by kernel_rfl)
def aw7 : List Known := ak7 :: aw6
theorem awh7 : ∀ k ∈ aw7, ∀ lo H, CallOk NC lo k.f k.args H k.v H := fun k h => (List.mem_cons.1 h).elim (fun e => e ▸ ac7) (awh6 k)
def ak8 : Known := ⟨51, [.agg [.ps .unk [[.str [117, 112], .ps .unk [[.int .i64 100, .int .i64 5000, .bool false], [.int .i64 50, .int .i64 5080, .bool false], [.int .i64 30, .int .i64 5200, .bool true]]], [.str [115, 105, 100, 101], .ps .unk [[.int .i64 40, .int .i64 0, .bool false]]]], .ps .unk [[.str [119], .str [117, 112], .int .i64 120, .str [115, 105, 100, 101], .bool false]], .ps .unk [[.str [97, 114, 99, 104], .str [98, 114, 105, 100, 103, 101], .str [117, 112], .int .i64 130, .int .i64 150]]], .str [117, 112], .int .i64 5090], .tup [.ps .unk [[.str [117, 112], .int .i64 0, .int .i64 5090], [.str [117, 112], .int .i64 1, .int .i64 5090]], .int .i64 0]⟩
theorem ac8 : ∀ lo H, CallOk NC lo ak8.f ak8.args H ak8.v H := known_ok saneNC awh7 (fuel := 5000) (by kernel_rfl) (by kernel_rfl) (by kernel_rfl)
def aw8 : List Known := ak8 :: aw7
theorem awh8 : ∀ k ∈ aw8, ∀ lo H, CallOk NC lo k.f k.args H k.v H := fun k h => (List.mem_cons.1 h).elim (fun e => e ▸ ac8) (awh7 k)
def ak9 : Known := ⟨21, [.agg [.ps .unk [[.str [117, 112], .ps .unk [[.int .i64 100, .int .i64 5000, .bool false], [.int .i64 50, .int .i64 5080, .bool false], [.int .i64 30, .int .i64 5200, .bool true]]], [.str [115, 105, 100, 101], .ps .unk [[.int .i64 40, .int .i64 0, .bool false]]]], .ps .unk [[.str [119], .str [117, 112], .int .i64 120, .str [115, 105, 100, 101], .bool false]], .ps .unk [[.str [97, 114, 99, 104], .str [98, 114, 105, 100, 103, 101], .str [117, 112], .int .i64 130, .int .i64 150]]], .agg [.str [117, 112], .int .i64 1, .int .i64 5090]], .tup [.agg [.str [117, 112], .int .i64 110], .int .i64 0]⟩
theorem ac9 : ∀ lo H, CallOk NC lo ak9.f ak9.args H ak9.v H := known_ok saneNC awh8 (fuel := 5000) (by kernel_rfl) (by kernel_rfl) (by kernel_rfl)
def aw9 : List Known := ak9 :: aw8
theorem awh9 : ∀ k ∈ aw9, ∀ lo H, CallOk NC lo k.f k.args H k.v H := fun k h => (List.mem_cons.1 h).elim (fun e => e ▸ ac9) (awh8 k)
def ak10 : Known := ⟨114, [.agg [.ps .unk [[.str [117, 112], .ps .unk [[.int .i64 100, .int .i64 5000, .bool false], [.int .i64 50, .int .i64 5080, .bool false], [.int .i64 30, .int .i64 5200, .bool true]]], [.str [115, 105, 100, 101], .ps .unk [[.int .i64 40, .int .i64 0, .bool false]]]], .ps .unk [[.str [119], .str [117, 112], .int .i64 120, .str [115, 105, 100, 101], .bool false]], .ps .unk [[.str [97, 114, 99, 104], .str [98, 114, 105, 100, 103, 101], .str [117, 112], .int .i64 130, .int .i64 150]]], .ps .unk [[.str [117, 112], .int .i64 100], [.str [115, 105, 100, 101], .int .i64 10]]], .int .i64 0⟩
theorem ac10 : ∀ lo H, CallOk NC lo ak10.f ak10.args H ak10.v H := known_ok saneNC awh9 (fuel := 5000) (by kernel_rfl) (by kernel_rfl) (by kernel_rfl)
def aw10 : List Known := ak10 :: aw9
theorem awh10 : ∀ k ∈ aw10, ∀ lo H, CallOk NC lo k.f k.args H k.v H := fun k h => (List.mem_cons.1 h).elim (fun e => e ▸ ac10) (awh9 k)
def ak11 : Known := ⟨203, [.agg [.ps .unk [[.str [117, 112], .ps .unk [[.int .i64 100, .int .i64 5000, .bool false], [.int .i64 50, .int .i64 5080, .bool false], [.int .i64 30, .int .i64 5200, .bool true]]], [.str [115, 105, 100, 101], .ps .unk [[.int .i64 40, .int .i64 0, .bool false]]]], .ps .unk [[.str [119], .str [117, 112], .int .i64 120, .str [115, 105, 100, 101], .bool false]], .ps .unk [[.str [97, 114, 99, 104], .str [98, 114, 105, 100, 103, 101], .str [117, 112], .int .i64 130, .int .i64 150]]], .agg [.ps .unk [[.str [117, 112], .int .i64 100, .int .i64 120], [.str [115, 105, 100, 101], .int .i64 0, .int .i64 0], [.str [117, 112], .int .i64 120, .int .i64 120]], .int .i64 20], .agg [.ps .unk [[.str [117, 112], .int .i64 100, .int .i64 120]], .int .i64 20]], .int .i64 1⟩
theorem ac11 : ∀ lo H, CallOk NC lo ak11.f ak11.args H ak11.v H := known_ok saneNC awh10 (fuel := 5000) (by kernel_rfl) (by kernel_rfl) (by kernel_rfl)
def aw11 : List Known := ak11 :: aw10
theorem awh11 : ∀ k ∈ aw11, ∀ lo H, CallOk NC lo k.f k.args H k.v H := fun k h => (List.mem_cons.1 h).elim (fun e => e ▸ ac11) (awh10 k)
def ak12 : Known := ⟨203, [.agg [.ps .unk [[.str [117, 112], .ps .unk [[.int .i64 100, .int .i64 5000, .bool false], [.int .i64 50, .int .i64 5080, .bool false], [.int .i64 30, .int .i64 5200, .bool true]]], [.str [115, 105, 100, 101], .ps .unk [[.int .i64 40, .int .i64 0, .bool false]]]], .ps .unk [[.str [119], .str [117, 112], .int .i64 120, .str [115, 105, 100, 101], .bool false]], .ps .unk [[.str [97, 114, 99, 104], .str [98, 114, 105, 100, 103, 101], .str [117, 112], .int .i64 130, .int .i64 150]]], .agg [.ps .unk [[.str [117, 112], .int .i64 100, .int .i64 120], [.str [115, 105, 100, 101], .int .i64 0, .int .i64 0]], .int .i64 20], .agg [.ps .unk [[.str [117, 112], .int .i64 100, .int .i64 120], [.str [115, 105, 100, 101], .int .i64 0, .int .i64 0]], .int .i64 20]], .int .i64 0⟩
theorem ac12 : ∀ lo H, CallOk NC lo ak12.f ak12.args H ak12.v H := known_ok saneNC awh11 (fuel := 5000) (by kernel_rfl) (by kernel_rfl) (by kernel_rfl)
def aw12 : List Known := ak12 :: aw11
theorem awh12 : ∀ k ∈ aw12, ∀ lo H, CallOk NC lo k.f k.args H k.v H := fun k h => (List.mem_cons.1 h).elim (fun e => e ▸ ac12) (awh11 k)
def ak13 : Known := ⟨142, [.agg [.ps .unk [[.str [117, 112], .ps .unk [[.int .i64 100, .int .i64 5000, .bool false], [.int .i64 50, .int .i64 5080, .bool false], [.int .i64 30, .int .i64 5200, .bool true]]], [.str [115, 105, 100, 101], .ps .unk [[.int .i64 40, .int .i64 0, .bool false]]]], .ps .unk [[.str [119], .str [117, 112], .int .i64 120, .str [115, 105, 100, 101], .bool false]], .ps .unk [[.str [97, 114, 99, 104], .str [98, 114, 105, 100, 103, 101], .str [117, 112], .int .i64 130, .int .i64 150]]], .agg [.str [117, 112], .int .i64 100], .agg [.str [115, 105, 100, 101], .int .i64 10]], .tup [.agg [.ps .unk [[.str [117, 112], .int .i64 100, .int .i64 120], [.str [115, 105, 100, 101], .int .i64 0, .int .i64 10]], .int .i64 30], .bool true]⟩
theorem ac13 : ∀ lo H, CallOk NC lo ak13.f ak13.args H ak13.v H := known_ok saneNC awh12 (fuel := 5000) (by kernel_rfl) (by kernel_rfl) (by kernel_rfl)
def aw13 : List Known := ak13 :: aw12
theorem awh13 : ∀ k ∈ aw13, ∀ lo H, CallOk NC lo k.f k.args H k.v H := fun k h => (List.mem_cons.1 h).elim (fun e => e ▸ ac13) (awh12 k)
def ak14 : Known := ⟨71, [.agg [.ps .unk [[.str [117, 112], .ps .unk [[.int .i64 100, .int .i64 5000, .bool false], [.int .i64 50, .int .i64 5080, .bool false], [.int .i64 30, .int .i64 5200, .bool true]]], [.str [115, 105, 100, 101], .ps .unk [[.int .i64 40, .int .i64 0, .bool false]]]], .ps .unk [[.str [119], .str [117, 112], .int .i64 120, .str [115, 105, 100, 101], .bool false]], .ps .unk [[.str [97, 114, 99, 104], .str [98, 114, 105, 100, 103, 101], .str [117, 112], .int .i64 130, .int .i64 150]]], .agg [.str [117, 112], .int .i64 100], .agg [.str [115, 105, 100, 101], .int .i64 10]], .tup [.ps .unk [[.str [117, 112], .int .i64 100, .int .i64 120], [.str [115, 105, 100, 101], .int .i64 0, .int .i64 10]], .int .i64 30, .int .i64 0]⟩
theorem ac14 : ∀ lo H, CallOk NC lo ak14.f ak14.args H ak14.v H := known_ok saneNC awh13 (fuel := 5000) (by kernel_rfl) (by kernel_rfl) (by kernel_rfl)
def aw14 : List Known := ak14 :: aw13
theorem awh14 : ∀ k ∈ aw14, ∀ lo H, CallOk NC lo k.f k.args H k.v H := fun k h => (List.mem_cons.1 h).elim (fun e => e ▸ ac14) (awh13 k)
def ak15 : Known := ⟨114, [.agg [.ps .unk [[.str [117, 112], .ps .unk [[.int .i64 100, .int .i64 5000, .bool false], [.int .i64 50, .int .i64 5080, .bool false], [.int .i64 30, .int .i64 5200, .bool true]]], [.str [115, 105, 100, 101], .ps .unk [[.int .i64 40, .int .i64 0, .bool false]]]], .ps .unk [[.str [119], .str [117, 112], .int .i64 120, .str [115, 105, 100, 101], .bool false]], .ps .unk [[.str [97, 114, 99, 104], .str [98, 114, 105, 100, 103, 101], .str [117, 112], .int .i64 130, .int .i64 150]]], .ps .unk [[.str [115, 105, 100, 101], .int .i64 5]]], .int .i64 0⟩
theorem ac15 : ∀ lo H, CallOk NC lo ak15.f ak15.args H ak15.v H := known_ok saneNC awh14 (fuel := 5000) (by kernel_rfl) (by kernel_rfl) (by kernel_rfl)
def aw15 : List Known := ak15 :: aw14
theorem awh15 : ∀ k ∈ aw15, ∀ lo H, CallOk NC lo k.f k.args H k.v H := fun k h => (List.mem_cons.1 h).elim (fun e => e ▸ ac15) (awh14 k)
def ak16 : Known := ⟨203, [.agg [.ps .unk [[.str [117, 112], .ps .unk [[.int .i64 100, .int .i64 5000, .bool false], [.int .i64 50, .int .i64 5080, .bool false], [.int .i64 30, .int .i64 5200, .bool true]]], [.str [115, 105, 100, 101], .ps .unk [[.int .i64 40, .int .i64 0, .bool false]]]], .ps .unk [[.str [119], .str [117, 112], .int .i64 120, .str [115, 105, 100, 101], .bool false]], .ps .unk [[.str [97, 114, 99, 104], .str [98, 114, 105, 100, 103, 101], .str [117, 112], .int .i64 130, .int .i64 150]]], .agg [.ps .unk [[.str [115, 105, 100, 101], .int .i64 5, .int .i64 0], [.str [117, 112], .int .i64 120, .int .i64 120], [.str [115, 105, 100, 101], .int .i64 0, .int .i64 0]], .int .i64 5], .agg [.ps .unk [[.str [115, 105, 100, 101], .int .i64 5, .int .i64 0]], .int .i64 5]], .int .i64 1⟩
theorem ac16 : ∀ lo H, CallOk NC lo ak16.f ak16.args H ak16.v H := known_ok saneNC awh15 (fuel := 5000) (by kernel_rfl) (by kernel_rfl) (by kernel_rfl)
def aw16 : List Known := ak16 :: aw15
theorem awh16 : ∀ k ∈ aw16, ∀ lo H, CallOk NC lo k.f k.args H k.v H := fun k h => (List.mem_cons.1 h).elim (fun e => e ▸ ac16) (awh15 k)
def ak17 : Known := ⟨203, [.agg [.ps .unk [[.str [117, 112], .ps .unk [[.int .i64 100, .int .i64 5000, .bool false], [.int .i64 50, .int .i64 5080, .bool false], [.int .i64 30, .int .i64 5200, .bool true]]], [.str [115, 105, 100, 101], .ps .unk [[.int .i64 40, .int .i64 0, .bool false]]]], .ps .unk [[.str [119], .str [117, 112], .int .i64 120, .str [115, 105, 100, 101], .bool false]], .ps .unk [[.str [97, 114, 99, 104], .str [98, 114, 105, 100, 103, 101], .str [117, 112], .int .i64 130, .int .i64 150]]], .agg [.ps .unk [[.str [115, 105, 100, 101], .int .i64 5, .int .i64 0], [.str [117, 112], .int .i64 120, .int .i64 120]], .int .i64 5], .agg [.ps .unk [[.str [115, 105, 100, 101], .int .i64 5, .int .i64 0], [.str [117, 112], .int .i64 120, .int .i64 120]], .int .i64 5]], .int .i64 0⟩
theorem ac17 : ∀ lo H, CallOk NC lo ak17.f ak17.args H ak17.v H := known_ok saneNC awh16 (fuel := 5000) (by kernel_rfl) (by kernel_rfl) (by kernel_rfl)
def aw17 : List Known := ak17 :: aw16
theorem awh17 : ∀ k ∈ aw17, ∀ lo H, CallOk NC lo k.f k.args H k.v H := fun k h => (List.mem_cons.1 h).elim (fun e => e ▸ ac17) (awh16 k)
def ak18 : Known := ⟨116, [.agg [.ps .unk [[.str [117, 112], .ps .unk [[.int .i64 100, .int .i64 5000, .bool false], [.int .i64 50, .int .i64 5080, .bool false], [.int .i64 30, .int .i64 5200, .bool true]]], [.str [115, 105, 100, 101], .ps .unk [[.int .i64 40, .int .i64 0, .bool false]]]], .ps .unk [[.str [119], .str [117, 112], .int .i64 120, .str [115, 105, 100, 101], .bool false]], .ps .unk [[.str [97, 114, 99, 104], .str [98, 114, 105, 100, 103, 101], .str [117, 112], .int .i64 130, .int .i64 150]]], .agg [.str [115, 105, 100, 101], .int .i64 5]], .ps .unk [[.str [115, 105, 100, 101], .int .i64 5, .int .i64 0], [.str [115, 105, 100, 101], .int .i64 0, .int .i64 5], [.str [117, 112], .int .i64 120, .int .i64 5]]⟩
theorem ac18 : ∀ lo H, CallOk NC lo ak18.f ak18.args H ak18.v H := known_ok saneNC awh17 (fuel := 5000) (by kernel_rfl) (by kernel_rfl) (by kernel_rfl)
def aw18 : List Known := ak18 :: aw17
theorem awh18 : ∀ k ∈ aw18, ∀ lo H, CallOk NC lo k.f k.args H k.v H := fun k h => (List.mem_cons.1 h).elim (fun e => e ▸ ac18) (awh17 k)
def ak19 : Known := ⟨33, [.agg [.ps .unk [[.str [117, 112], .ps .unk [[.int .i64 100, .int .i64 5000, .bool false], [.int .i64 50, .int .i64 5080, .bool false], [.int .i64 30, .int .i64 5200, .bool true]]], [.str [115, 105, 100, 101], .ps .unk [[.int .i64 40, .int .i64 0, .bool false]]]], .ps .unk [[.str [119], .str [117, 112], .int .i64 120, .str [115, 105, 100, 101], .bool false]], .ps .unk [[.str [97, 114, 99, 104], .str [98, 114, 105, 100, 103, 101], .str [117, 112], .int .i64 130, .int .i64 150]]], .agg [.str [115, 105, 100, 101], .int .i64 5], .str [98, 114, 105, 100, 103, 101]], .tup [.str [97, 114, 99, 104], .int .i64 15, .int .i64 0]⟩
theorem ac19 : ∀ lo H, CallOk NC lo ak19.f ak19.args H ak19.v H := known_ok saneNC awh18 (fuel := 5000) (by kernel_rfl) (by kernel_rfl) (by kernel_rfl)
def aw19 : List Known := ak19 :: aw18
theorem awh19 : ∀ k ∈ aw19, ∀ lo H, CallOk NC lo k.f k.args H k.v H := fun k h => (List.mem_cons.1 h).elim (fun e => e ▸ ac19) (awh18 k)
def ak20 : Known := ⟨127, [.agg [.str [117, 112], .int .i64 0, .int .i64 100, .str [109, 97, 105, 110], .int .i64 20, .bool false]], .int .i64 0⟩
theorem ac20 : ∀ lo H, CallOk NC lo ak20.f ak20.args H ak20.v H := known_ok saneNC awh19 (fuel := 5000) (by kernel_rfl) (by kernel_rfl) (by kernel_rfl)
def aw20 : List Known := ak20 :: aw19
theorem awh20 : ∀ k ∈ aw20, ∀ lo H, CallOk NC lo k.f k.args H k.v H := fun k h => (List.mem_cons.1 h).elim (fun e => e ▸ ac20) (awh19 k)
def ak21 : Known := ⟨127, [.agg [.str [117, 112], .int .i64 100, .int .i64 50, .str [109, 97, 105, 110], .int .i64 200, .bool true]], .int .i64 0⟩
theorem ac21 : ∀ lo H, CallOk NC lo ak21.f ak21.args H ak21.v H := known_ok saneNC awh20 (fuel := 5000) (by kernel_rfl) (by kernel_rfl) (by kernel_rfl)
def aw21 : List Known := ak21 :: aw20
theorem awh21 : ∀ k ∈ aw21, ∀ lo H, CallOk NC lo k.f k.args H k.v H := fun k h => (List.mem_cons.1 h).elim (fun e => e ▸ ac21) (awh20 k)
def ak22 : Known := ⟨49, [.ps .unk [[.str [117, 112], .int .i64 0, .int .i64 100, .str [109, 97, 105, 110], .int .i64 20, .bool false], [.str [117, 112], .int .i64 100, .int .i64 50, .str [109, 97, 105, 110], .int .i64 200, .bool true]]], .int .i64 0⟩
theorem ac22 : ∀ lo H, CallOk NC lo ak22.f ak22.args H ak22.v H := known_ok saneNC awh21 (fuel := 5000) (by kernel_rfl) (by kernel_rfl) (by kernel_rfl)
def aw22 : List Known := ak22 :: aw21
theorem awh22 : ∀ k ∈ aw22, ∀ lo H, CallOk NC lo k.f k.args H k.v H := fun k h => (List.mem_cons.1 h).elim (fun e => e ▸ ac22) (awh21 k)
def ak23 : Known := ⟨42, [.ps .unk [[.str [117, 112], .int .i64 0, .int .i64 100, .str [109, 97, 105, 110], .int .i64 20, .bool false], [.str [117, 112], .int .i64 100, .int .i64 50, .str [109, 97, 105, 110], .int .i64 200, .bool true]], .agg [.str [117, 112], .int .i64 110]], .tup [.agg [.str [109, 97, 105, 110], .int .i64 239], .int .i64 0]⟩
theorem ac23 : ∀ lo H, CallOk NC lo ak23.f ak23.args H ak23.v H := known_ok saneNC awh22 (fuel := 5000) (by kernel_rfl) (by kernel_rfl) (by kernel_rfl)
def aw23 : List Known := ak23 :: aw22
theorem awh23 : ∀ k ∈ aw23, ∀ lo H, CallOk NC lo k.f k.args H k.v H := fun k h => (List.mem_cons.1 h).elim (fun e => e ▸ ac23) (awh22 k)
def ak24 : Known := ⟨54, [.ps .unk [[.str [117, 112], .int .i64 0, .int .i64 100, .str [109, 97, 105, 110], .int .i64 20, .bool false], [.str [117, 112], .int .i64 100, .int .i64 50, .str [109, 97, 105, 110], .int .i64 200, .bool true]]], .tup [.ps .unk [[.str [109, 97, 105, 110], .int .i64 20, .int .i64 100, .str [117, 112], .int .i64 0, .bool false], [.str [109, 97, 105, 110], .int .i64 200, .int .i64 50, .str [117, 112], .int .i64 100, .bool true]], .int .i64 0]⟩
theorem ac24 : ∀ lo H, CallOk NC lo ak24.f ak24.args H ak24.v H := known_ok saneNC awh23 (fuel := 5000) (by kernel_rfl) (by kernel_rfl) (by kernel_rfl)
def aw24 : List Known := ak24 :: aw23
theorem awh24 : ∀ k ∈ aw24, ∀ lo H, CallOk NC lo k.f k.args H k.v H := fun k h => (List.mem_cons.1 h).elim (fun e => e ▸ ac24) (awh23 k)
def ak25 : Known := ⟨127, [.agg [.str [109, 97, 105, 110], .int .i64 0, .int .i64 60, .str [111, 108, 100], .int .i64 500, .bool false]], .int .i64 0⟩
theorem ac25 : ∀ lo H, CallOk NC lo ak25.f ak25.args H ak25.v H := known_ok saneNC awh24 (fuel := 5000) (by kernel_rfl) (by kernel_rfl) (by kernel_rfl)
def aw25 : List Known := ak25 :: aw24
theorem awh25 : ∀ k ∈ aw25, ∀ lo H, CallOk NC lo k.f k.args H k.v H := fun k h => (List.mem_cons.1 h).elim (fun e => e ▸ ac25) (awh24 k)
def ak26 : Known := ⟨49, [.ps .unk [[.str [109, 97, 105, 110], .int .i64 0, .int .i64 60, .str [111, 108, 100], .int .i64 500, .bool false]]], .int .i64 0⟩
theorem ac26 : ∀ lo H, CallOk NC lo ak26.f ak26.args H ak26.v H := known_ok saneNC awh25 (fuel := 5000) (by kernel_rfl) (by kernel_rfl) (by kernel_rfl)
def aw26 : List Known := ak26 :: aw25
theorem awh26 : ∀ k ∈ aw26, ∀ lo H, CallOk NC lo k.f k.args H k.v H := fun k h => (List.mem_cons.1 h).elim (fun e => e ▸ ac26) (awh25 k)
def ak27 : Known := ⟨55, [.ps .unk [[.str [117, 112], .int .i64 0, .int .i64 100, .str [109, 97, 105, 110], .int .i64 20, .bool false], [.str [117, 112], .int .i64 100, .int .i64 50, .str [109, 97, 105, 110], .int .i64 200, .bool true]], .ps .unk [[.str [109, 97, 105, 110], .int .i64 0, .int .i64 60, .str [111, 108, 100], .int .i64 500, .bool false]]], .tup [.ps .unk [[.str [117, 112], .int .i64 0, .int .i64 40, .str [111, 108, 100], .int .i64 520, .bool false]], .int .i64 0]⟩
theorem ac27 : ∀ lo H, CallOk NC lo ak27.f ak27.args H ak27.v H := known_ok saneNC awh26 (fuel := 5000) (by kernel_rfl) (by kernel_rfl) (by kernel_rfl)
def aw27 : List Known := ak27 :: aw26
theorem awh27 : ∀ k ∈ aw27, ∀ lo H, CallOk NC lo k.f k.args H k.v H := fun k h => (List.mem_cons.1 h).elim (fun e => e ▸ ac27) (awh26 k)
def ak28 : Known := ⟨110, [.ps .unk [[.str [109, 97, 105, 110], .ps .unk [[.int .i64 300, .int .i64 1000, .bool false]]]]], .int .i64 0⟩
theorem ac28 : ∀ lo H, CallOk NC lo ak28.f ak28.args H ak28.v H := known_ok saneNC awh27 (fuel := 5000) (by kernel_rfl) (by kernel_rfl) (by kernel_rfl)
def aw28 : List Known := ak28 :: aw27
theorem awh28 : ∀ k ∈ aw28, ∀ lo H, CallOk NC lo k.f k.args H k.v H := fun k h => (List.mem_cons.1 h).elim (fun e => e ▸ ac28) (awh27 k)
def ak29 : Known := ⟨29, [.agg [.ps .unk [[.str [109, 97, 105, 110], .ps .unk [[.int .i64 300, .int .i64 1000, .bool false]]]], .ps .unk [], .ps .unk []]], .int .i64 0⟩
theorem ac29 : ∀ lo H, CallOk NC lo ak29.f ak29.args H ak29.v H := known_ok saneNC awh28 (fuel := 5000) (by kernel_rfl) (by kernel_rfl) (by kernel_rfl)
def aw29 : List Known := ak29 :: aw28
theorem awh29 : ∀ k ∈ aw29, ∀ lo H, CallOk NC lo k.f k.args H k.v H := fun k h => (List.mem_cons.1 h).elim (fun e => e ▸ ac29) (awh28 k)
def ak30 : Known := ⟨133, [.agg [.ps .unk [[.str [117, 112], .ps .unk [[.int .i64 100, .int .i64 5000, .bool false], [.int .i64 50, .int .i64 5080, .bool false], [.int .i64 30, .int .i64 5200, .bool true]]], [.str [115, 105, 100, 101], .ps .unk [[.int .i64 40, .int .i64 0, .bool false]]]], .ps .unk [[.str [119], .str [117, 112], .int .i64 120, .str [115, 105, 100, 101], .bool false]], .ps .unk [[.str [97, 114, 99, 104], .str [98, 114, 105, 100, 103, 101], .str [117, 112], .int .i64 130, .int .i64 150]]], .str [117, 112], .agg [.int .i64 0, .int .i64 100]], .int .i64 0⟩
theorem ac30 : ∀ lo H, CallOk NC lo ak30.f ak30.args H ak30.v H := known_ok saneNC awh29 (fuel := 5000) (by kernel_rfl) (by kernel_rfl) (by kernel_rfl)
def aw30 : List Known := ak30 :: aw29
theorem awh30 : ∀ k ∈ aw30, ∀ lo H, CallOk NC lo k.f k.args H k.v H := fun k h => (List.mem_cons.1 h).elim (fun e => e ▸ ac30) (awh29 k)
def ak31 : Known := ⟨133, [.agg [.ps .unk [[.str [117, 112], .ps .unk [[.int .i64 100, .int .i64 5000, .bool false], [.int .i64 50, .int .i64 5080, .bool false], [.int .i64 30, .int .i64 5200, .bool true]]], [.str [115, 105, 100, 101], .ps .unk [[.int .i64 40, .int .i64 0, .bool false]]]], .ps .unk [[.str [119], .str [117, 112], .int .i64 120, .str [115, 105, 100, 101], .bool false]], .ps .unk [[.str [97, 114, 99, 104], .str [98, 114, 105, 100, 103, 101], .str [117, 112], .int .i64 130, .int .i64 150]]], .str [117, 112], .agg [.int .i64 100, .int .i64 150]], .int .i64 0⟩
theorem ac31 : ∀ lo H, CallOk NC lo ak31.f ak31.args H ak31.v H := known_ok saneNC awh30 (fuel := 5000) (by kernel_rfl) (by kernel_rfl) (by kernel_rfl)
def aw31 : List Known := ak31 :: aw30
theorem awh31 : ∀ k ∈ aw31, ∀ lo H, CallOk NC lo k.f k.args H k.v H := fun k h => (List.mem_cons.1 h).elim (fun e => e ▸ ac31) (awh30 k)
def ak32 : Known := ⟨50, [.ps .unk [[.str [117, 112], .int .i64 0, .int .i64 100, .str [109, 97, 105, 110], .int .i64 20, .bool false], [.str [117, 112], .int .i64 100, .int .i64 50, .str [109, 97, 105, 110], .int .i64 200, .bool true]], .agg [.ps .unk [[.str [117, 112], .ps .unk [[.int .i64 100, .int .i64 5000, .bool false], [.int .i64 50, .int .i64 5080, .bool false], [.int .i64 30, .int .i64 5200, .bool true]]], [.str [115, 105, 100, 101], .ps .unk [[.int .i64 40, .int .i64 0, .bool false]]]], .ps .unk [[.str [119], .str [117, 112], .int .i64 120, .str [115, 105, 100, 101], .bool false]], .ps .unk [[.str [97, 114, 99, 104], .str [98, 114, 105, 100, 103, 101], .str [117, 112], .int .i64 130, .int .i64 150]]], .agg [.ps .unk [[.str [109, 97, 105, 110], .ps .unk [[.int .i64 300, .int .i64 1000, .bool false]]]], .ps .unk [], .ps .unk []]], .int .i64 0⟩
theorem ac32 : ∀ lo H, CallOk NC lo ak32.f ak32.args H ak32.v H := known_ok saneNC awh31 (fuel := 5000) (by kernel_rfl) (by kernel_rfl) (by kernel_rfl)
def aw32 : List Known := ak32 :: aw31
theorem awh32 : ∀ k ∈ aw32, ∀ lo H, CallOk NC lo k.f k.args H k.v H := fun k h => (List.mem_cons.1 h).elim (fun e => e ▸ ac32) (awh31 k)
def ak33 : Known := ⟨69, [.ps .unk [[.int .i64 10, .ps .unk [[.str [117, 112], .ps .unk [[.int .i64 100, .int .i64 5000, .bool false], [.int .i64 50, .int .i64 5080, .bool false], [.int .i64 30, .int .i64 5200, .bool true]]], [.str [115, 105, 100, 101], .ps .unk [[.int .i64 40, .int .i64 0, .bool false]]]], .ps .unk [[.str [119], .str [117, 112], .int .i64 120, .str [115, 105, 100, 101], .bool false]], .ps .unk [[.str [97, 114, 99, 104], .str [98, 114, 105, 100, 103, 101], .str [117, 112], .int .i64 130, .int .i64 150]], .ps .unk []], [.int .i64 20, .ps .unk [[.str [109, 97, 105, 110], .ps .unk [[.int .i64 300, .int .i64 1000, .bool false]]]], .ps .unk [], .ps .unk [], .ps .unk [[.str [117, 112], .int .i64 0, .int .i64 100, .str [109, 97, 105, 110], .int .i64 20, .bool false], [.str [117, 112], .int .i64 100, .int .i64 50, .str [109, 97, 105, 110], .int .i64 200, .bool true]]]]], .int .i64 0⟩
theorem ac33 : ∀ lo H, CallOk NC lo ak33.f ak33.args H ak33.v H := known_ok saneNC awh32 (fuel := 5000) (by kernel_rfl) (by kernel_rfl) (by kernel_rfl)
def aw33 : List Known := ak33 :: aw32
theorem awh33 : ∀ k ∈ aw33, ∀ lo H, CallOk NC lo k.f k.args H k.v H := fun k h => (List.mem_cons.1 h).elim (fun e => e ▸ ac33) (awh32 k)
def ak34 : Known := ⟨65, [.ps .unk [[.int .i64 10, .ps .unk [[.str [117, 112], .ps .unk [[.int .i64 100, .int .i64 5000, .bool false], [.int .i64 50, .int .i64 5080, .bool false], [.int .i64 30, .int .i64 5200, .bool true]]], [.str [115, 105, 100, 101], .ps .unk [[.int .i64 40, .int .i64 0, .bool false]]]], .ps .unk [[.str [119], .str [117, 112], .int .i64 120, .str [115, 105, 100, 101], .bool false]], .ps .unk [[.str [97, 114, 99, 104], .str [98, 114, 105, 100, 103, 101], .str [117, 112], .int .i64 130, .int .i64 150]], .ps .unk []], [.int .i64 20, .ps .unk [[.str [109, 97, 105, 110], .ps .unk [[.int .i64 300, .int .i64 1000, .bool false]]]], .ps .unk [], .ps .unk [], .ps .unk [[.str [117, 112], .int .i64 0, .int .i64 100, .str [109, 97, 105, 110], .int .i64 20, .bool false], [.str [117, 112], .int .i64 100, .int .i64 50, .str [109, 97, 105, 110], .int .i64 200, .bool true]]]], .int .i64 15, .agg [.str [117, 112], .int .i64 1, .int .i64 5090], .int .i64 25], .tup [.agg [.str [109, 97, 105, 110], .int .i64 0, .int .i64 1239], .int .i64 0]⟩
theorem ac34 : ∀ lo H, CallOk NC lo ak34.f ak34.args H ak34.v H := known_ok saneNC awh33 (fuel := 5000) (by kernel_rfl) (by kernel_rfl) (by kernel_rfl)
def aw34 : List Known := ak34 :: aw33
theorem awh34 : ∀ k ∈ aw34, ∀ lo H, CallOk NC lo k.f k.args H k.v H := fun k h => (List.mem_cons.1 h).elim (fun e => e ▸ ac34) (awh33 k)
def ak35 : Known := ⟨65, [.ps .unk [[.int .i64 10, .ps .unk [[.str [117, 112], .ps .unk [[.int .i64 100, .int .i64 5000, .bool false], [.int .i64 50, .int .i64 5080, .bool false], [.int .i64 30, .int .i64 5200, .bool true]]], [.str [115, 105, 100, 101], .ps .unk [[.int .i64 40, .int .i64 0, .bool false]]]], .ps .unk [[.str [119], .str [117, 112], .int .i64 120, .str [115, 105, 100, 101], .bool false]], .ps .unk [[.str [97, 114, 99, 104], .str [98, 114, 105, 100, 103, 101], .str [117, 112], .int .i64 130, .int .i64 150]], .ps .unk []], [.int .i64 20, .ps .unk [[.str [109, 97, 105, 110], .ps .unk [[.int .i64 300, .int .i64 1000, .bool false]]]], .ps .unk [], .ps .unk [], .ps .unk [[.str [117, 112], .int .i64 0, .int .i64 100, .str [109, 97, 105, 110], .int .i64 20, .bool false], [.str [117, 112], .int .i64 100, .int .i64 50, .str [109, 97, 105, 110], .int .i64 200, .bool true]]]], .int .i64 25, .agg [.str [109, 97, 105, 110], .int .i64 0, .int .i64 1239], .int .i64 10], .tup [.agg [.str [117, 112], .int .i64 1, .int .i64 5090], .int .i64 0]⟩
theorem ac35 : ∀ lo H, CallOk NC lo ak35.f ak35.args H ak35.v H := known_ok saneNC awh34 (fuel := 5000) (by kernel_rfl) (by kernel_rfl) (by kernel_rfl)
def aw35 : List Known := ak35 :: aw34
theorem awh35 : ∀ k ∈ aw35, ∀ lo H, CallOk NC lo k.f k.args H k.v H := fun k h => (List.mem_cons.1 h).elim (fun e => e ▸ ac35) (awh34 k)
def ak36 : Known := ⟨102, [.agg [.ps .unk [[.str [117, 112], .ps .unk [[.int .i64 100, .int .i64 5000, .bool false], [.int .i64 50, .int .i64 5080, .bool false], [.int .i64 30, .int .i64 5200, .bool true]]], [.str [115, 105, 100, 101], .ps .unk [[.int .i64 40, .int .i64 0, .bool false]]]], .ps .unk [[.str [119], .str [117, 112], .int .i64 120, .str [115, 105, 100, 101], .bool false]], .ps .unk [[.str [97, 114, 99, 104], .str [98, 114, 105, 100, 103, 101], .str [117, 112], .int .i64 130, .int .i64 150]]], .agg [.str [117, 112], .int .i64 2, .int .i64 5171]], .tup [.agg [.str [117, 112], .int .i64 179], .int .i64 0]⟩
theorem ac36 : ∀ lo H, CallOk NC lo ak36.f ak36.args H ak36.v H := known_ok saneNC awh35 (fuel := 5000) (by kernel_rfl) (by kernel_rfl) (by kernel_rfl)
def aw36 : List Known := ak36 :: aw35
theorem awh36 : ∀ k ∈ aw36, ∀ lo H, CallOk NC lo k.f k.args H k.v H := fun k h => (List.mem_cons.1 h).elim (fun e => e ▸ ac36) (awh35 k)
def ak37 : Known := ⟨65, [.ps .unk [[.int .i64 10, .ps .unk [[.str [117, 112], .ps .unk [[.int .i64 100, .int .i64 5000, .bool false], [.int .i64 50, .int .i64 5080, .bool false], [.int .i64 30, .int .i64 5200, .bool true]]], [.str [115, 105, 100, 101], .ps .unk [[.int .i64 40, .int .i64 0, .bool false]]]], .ps .unk [[.str [119], .str [117, 112], .int .i64 120, .str [115, 105, 100, 101], .bool false]], .ps .unk [[.str [97, 114, 99, 104], .str [98, 114, 105, 100, 103, 101], .str [117, 112], .int .i64 130, .int .i64 150]], .ps .unk []], [.int .i64 20, .ps .unk [[.str [109, 97, 105, 110], .ps .unk [[.int .i64 300, .int .i64 1000, .bool false]]]], .ps .unk [], .ps .unk [], .ps .unk [[.str [117, 112], .int .i64 0, .int .i64 100, .str [109, 97, 105, 110], .int .i64 20, .bool false], [.str [117, 112], .int .i64 100, .int .i64 50, .str [109, 97, 105, 110], .int .i64 200, .bool true]]]], .int .i64 15, .agg [.str [117, 112], .int .i64 2, .int .i64 5171], .int .i64 25], .tup [.agg [.str [], .int .i64 0, .int .i64 0], .int .i64 7]⟩
theorem ac37 : ∀ lo H, CallOk NC lo ak37.f ak37.args H ak37.v H := known_ok saneNC awh36 (fuel := 5000) (by kernel_rfl) (by kernel_rfl) (by kernel_rfl)
def aw37 : List Known := ak37 :: aw36
theorem awh37 : ∀ k ∈ aw37, ∀ lo H, CallOk NC lo k.f k.args H k.v H := fun k h => (List.mem_cons.1 h).elim (fun e => e ▸ ac37) (awh36 k)
def ak38 : Known := ⟨87, [.agg [.ps .unk [[.str [117, 112], .ps .unk [[.int .i64 100, .int .i64 5000, .bool false], [.int .i64 50, .int .i64 5080, .bool false], [.int .i64 30, .int .i64 5200, .bool true]]], [.str [115, 105, 100, 101], .ps .unk [[.int .i64 40, .int .i64 0, .bool false]]]], .ps .unk [[.str [119], .str [117, 112], .int .i64 120, .str [115, 105, 100, 101], .bool false]], .ps .unk [[.str [97, 114, 99, 104], .str [98, 114, 105, 100, 103, 101], .str [117, 112], .int .i64 130, .int .i64 150]]]], .tup [.str [108, 105, 110, 101, 32, 117, 112, 10, 112, 105, 101, 99, 101, 32, 49, 48, 48, 32, 53, 48, 48, 48, 32, 117, 112, 10, 112, 105, 101, 99, 101, 32, 53, 48, 32, 53, 48, 56, 48, 32, 117, 112, 10, 112, 105, 101, 99, 101, 32, 51, 48, 32, 53, 50, 48, 48, 32, 100, 111, 119, 110, 10, 108, 105, 110, 101, 32, 115, 105, 100, 101, 10, 112, 105, 101, 99, 101, 32, 52, 48, 32, 48, 32, 117, 112, 10, 115, 119, 105, 116, 99, 104, 32, 119, 32, 117, 112, 32, 49, 50, 48, 32, 115, 105, 100, 101, 32, 102, 105, 114, 115, 116, 10, 115, 116, 114, 117, 99, 116, 117, 114, 101, 32, 97, 114, 99, 104, 32, 98, 114, 105, 100, 103, 101, 32, 117, 112, 32, 49, 51, 48, 32, 49, 53, 48, 10], .int .i64 0]⟩
theorem ac38 : ∀ lo H, CallOk NC lo ak38.f ak38.args H ak38.v H := known_ok saneNC awh37 (fuel := 5000) (by kernel_rfl) (by kernel_rfl) (by kernel_rfl)
def aw38 : List Known := ak38 :: aw37
theorem awh38 : ∀ k ∈ aw38, ∀ lo H, CallOk NC lo k.f k.args H k.v H := fun k h => (List.mem_cons.1 h).elim (fun e => e ▸ ac38) (awh37 k)
def ak39 : Known := ⟨16, [], .bool true⟩
theorem ac39 : ∀ lo H, CallOk NC lo ak39.f ak39.args H ak39.v H := known_ok saneNC awh38 (fuel := 5000) (by kernel_rfl) (by kernel_rfl) (by kernel_rfl)
end Go.Sim

/-
The law: NetworkPlaces returns true.
-/
namespace Go.Sim
open Go Go.Proofs
set_option maxRecDepth 100000
set_option maxHeartbeats 16000000
noncomputable def p16 : List AV → Option AV := fun l => match l with
  | [] => some (.bool true)
  | _ => none
theorem pok16 : ∀ args v, p16 args = some v → ∀ lo H, CallOk NC lo 16 args H v H := by
  intro args v h
  cases args with
  | nil =>
    have : v = .bool true := by simpa [p16] using h.symm
    subst this
    exact ac39
  | cons a r => simp [p16] at h
theorem e16 : p16 [] = some (.bool true) := rfl
noncomputable def p17 : List AV → Option AV := primOf (α := Net) (fun x => [.agg x.cells]) (fun _ => True) (fun x => .bool (shortN x))
theorem pok17 : ∀ args v, p17 args = some v → ∀ lo H, CallOk NC lo 17 args H v H := by
  intro args v h
  obtain ⟨x, rfl, hp, rfl⟩ := primOf_inv h
  clear h
  revert x
  intro x; exact c17 x
theorem pe17 (x : Net) (hp : (fun _ => True) x) : p17 ((fun x => [.agg x.cells]) x) = some ((fun x => .bool (shortN x)) x) := primOf_enc (by intro x y h; exact cells1_inj x y h) x hp
noncomputable def p19 : List AV → Option AV := primOf (α := Net) (fun x => [.agg x.cells]) (fun x => x.fits ∧ x.sws.length ≤ maxRows ∧ x.sts.length ≤ maxRows) (fun x => .agg x.cells)
theorem pok19 : ∀ args v, p19 args = some v → ∀ lo H, CallOk NC lo 19 args H v H := by
  intro args v h
  obtain ⟨x, rfl, hp, rfl⟩ := primOf_inv h
  clear h
  revert x
  intro x hx; exact c19 x hx.1 hx.2.1 hx.2.2
theorem pe19 (x : Net) (hp : (fun x => x.fits ∧ x.sws.length ≤ maxRows ∧ x.sts.length ≤ maxRows) x) : p19 ((fun x => [.agg x.cells]) x) = some ((fun x => .agg x.cells) x) := primOf_enc (by intro x y h; exact cells1_inj x y h) x hp
noncomputable def p22 : List AV → Option AV := primOf (α := Net) (fun x => [.agg x.cells]) (fun x => x.fits ∧ x.sws.length ≤ maxRows ∧ x.sts.length ≤ maxRows) (fun x => i64 (netR x))
theorem pok22 : ∀ args v, p22 args = some v → ∀ lo H, CallOk NC lo 22 args H v H := by
  intro args v h
  obtain ⟨x, rfl, hp, rfl⟩ := primOf_inv h
  clear h
  revert x
  intro x hx; exact c22 x hx.1 hx.2.1 hx.2.2
theorem pe22 (x : Net) (hp : (fun x => x.fits ∧ x.sws.length ≤ maxRows ∧ x.sts.length ≤ maxRows) x) : p22 ((fun x => [.agg x.cells]) x) = some ((fun x => i64 (netR x)) x) := primOf_enc (by intro x y h; exact cells1_inj x y h) x hp
theorem ety28 : eqType NC.P 100 28 = true := by kernel_rfl
theorem aeq28' (a a' : List Nat) (b b' : Int) : aeqT NC.P 100 28 (.agg [.str a, .int .i64 b]) (.agg [.str a', .int .i64 b']) =
    (match some (beqL a a') with
    | some true => (match some (eqI b b') with
      | some true => some true
      | some false => some false
      | none => none)
    | some false => some false
    | none => none) := by kernel_rfl
theorem beqL_self (a : List Nat) : beqL a a = true := (beqL_iff a a).2 rfl
theorem eqI_self (a : Int) : eqI a a = true := by rw [eqI_iff]; simp
theorem aeq28 (a : List Nat) (b : Int) : aeqT NC.P 100 28 (.agg [.str a, .int .i64 b]) (.agg [.str a, .int .i64 b]) = some true := by
  rw [aeq28', beqL_self, eqI_self]
theorem short_ok {n : Net} (h : shortN n = true) : n.Ok := by
  unfold shortN at h
  simp only [Bool.and_eq_true, Bool.not_eq_true', Bool.or_eq_false_iff, decide_eq_false_iff_not, List.all_eq_true] at h
  obtain ⟨⟨⟨⟨⟨h1, h2⟩, h3⟩, h4⟩, h5⟩, h6⟩ := h
  have short : ∀ s : List Nat, shortB s = true → s.length ≤ maxRows := by
    intro s hs
    unfold shortB at hs
    simp only [Bool.not_eq_true', decide_eq_false_iff_not] at hs
    unfold maxRows; omega
  refine ⟨by unfold maxRows; omega, fun l hl => ?_, by unfold maxRows; omega, fun s hs => ?_, by unfold maxRows; omega, fun s hs => ?_⟩
  · have := h4 l hl
    unfold shortLn at this
    simp only [Bool.and_eq_true, Bool.not_eq_true', decide_eq_false_iff_not] at this
    exact ⟨short _ this.1, by unfold maxRows; omega⟩
  · have := h5 s hs
    unfold shortSw at this
    simp only [Bool.and_eq_true] at this
    exact short _ this.1.1
  · have := h6 s hs
    unfold shortSt at this
    simp only [Bool.and_eq_true] at this
    exact ⟨short _ this.1.1, short _ this.1.2⟩
end Go.Sim

/-
The law: NetworkMaps returns true.
-/
namespace Go.Sim
open Go Go.Proofs
set_option maxRecDepth 100000
set_option maxHeartbeats 16000000
noncomputable def PPF5 : FuncId → Option (List AV → Option AV) := addPrim 19 p19 (addPrim 50 p50 (addPrim 49 p49 (addPrim 48 p48 (addPrim 34 p34 (addPrim 22 p22 (addPrim 47 p47 (addPrim 46 p46 (addPrim 45 p45 (addPrim 44 p44 (addPrim 43 p43 (addPrim 42 p42 (addPrim 41 p41 (addPrim 17 p17 (addPrim 16 p16 (fun _ => none)))))))))))))))
theorem primsF5 : PrimsOk NC PPF5 := primsOk_add (primsOk_add (primsOk_add (primsOk_add (primsOk_add (primsOk_add (primsOk_add (primsOk_add (primsOk_add (primsOk_add (primsOk_add (primsOk_add (primsOk_add (primsOk_add (primsOk_add (primsOk_none) (by kernel_rfl) (by kernel_rfl) pok16) (by kernel_rfl) (by kernel_rfl) pok17) (by kernel_rfl) (by kernel_rfl) pok41) (by kernel_rfl) (by kernel_rfl) pok42) (by kernel_rfl) (by kernel_rfl) pok43) (by kernel_rfl) (by kernel_rfl) pok44) (by kernel_rfl) (by kernel_rfl) pok45) (by kernel_rfl) (by kernel_rfl) pok46) (by kernel_rfl) (by kernel_rfl) pok47) (by kernel_rfl) (by kernel_rfl) pok22) (by kernel_rfl) (by kernel_rfl) pok34) (by kernel_rfl) (by kernel_rfl) pok48) (by kernel_rfl) (by kernel_rfl) pok49) (by kernel_rfl) (by kernel_rfl) pok50) (by kernel_rfl) (by kernel_rfl) pok19
theorem enF5_16 {rec : Rec} {lo : Nat} {args : List AV} {H : Heap} {K : AV → Heap → Prop} : VO (aenter (NC.withPrims PPF5) rec lo 16 args H) K = AO (p16 args) fun v => K v H := enter_prim (by rfl) (by kernel_rfl)
theorem enF5_17 {rec : Rec} {lo : Nat} {args : List AV} {H : Heap} {K : AV → Heap → Prop} : VO (aenter (NC.withPrims PPF5) rec lo 17 args H) K = AO (p17 args) fun v => K v H := enter_prim (by rfl) (by kernel_rfl)
theorem enF5_41 {rec : Rec} {lo : Nat} {args : List AV} {H : Heap} {K : AV → Heap → Prop} : VO (aenter (NC.withPrims PPF5) rec lo 41 args H) K = AO (p41 args) fun v => K v H := enter_prim (by rfl) (by kernel_rfl)
theorem enF5_42 {rec : Rec} {lo : Nat} {args : List AV} {H : Heap} {K : AV → Heap → Prop} : VO (aenter (NC.withPrims PPF5) rec lo 42 args H) K = AO (p42 args) fun v => K v H := enter_prim (by rfl) (by kernel_rfl)
theorem enF5_43 {rec : Rec} {lo : Nat} {args : List AV} {H : Heap} {K : AV → Heap → Prop} : VO (aenter (NC.withPrims PPF5) rec lo 43 args H) K = AO (p43 args) fun v => K v H := enter_prim (by rfl) (by kernel_rfl)
theorem enF5_44 {rec : Rec} {lo : Nat} {args : List AV} {H : Heap} {K : AV → Heap → Prop} : VO (aenter (NC.withPrims PPF5) rec lo 44 args H) K = AO (p44 args) fun v => K v H := enter_prim (by rfl) (by kernel_rfl)
theorem enF5_45 {rec : Rec} {lo : Nat} {args : List AV} {H : Heap} {K : AV → Heap → Prop} : VO (aenter (NC.withPrims PPF5) rec lo 45 args H) K = AO (p45 args) fun v => K v H := enter_prim (by rfl) (by kernel_rfl)
theorem enF5_46 {rec : Rec} {lo : Nat} {args : List AV} {H : Heap} {K : AV → Heap → Prop} : VO (aenter (NC.withPrims PPF5) rec lo 46 args H) K = AO (p46 args) fun v => K v H := enter_prim (by rfl) (by kernel_rfl)
theorem enF5_47 {rec : Rec} {lo : Nat} {args : List AV} {H : Heap} {K : AV → Heap → Prop} : VO (aenter (NC.withPrims PPF5) rec lo 47 args H) K = AO (p47 args) fun v => K v H := enter_prim (by rfl) (by kernel_rfl)
theorem enF5_22 {rec : Rec} {lo : Nat} {args : List AV} {H : Heap} {K : AV → Heap → Prop} : VO (aenter (NC.withPrims PPF5) rec lo 22 args H) K = AO (p22 args) fun v => K v H := enter_prim (by rfl) (by kernel_rfl)
theorem enF5_34 {rec : Rec} {lo : Nat} {args : List AV} {H : Heap} {K : AV → Heap → Prop} : VO (aenter (NC.withPrims PPF5) rec lo 34 args H) K = AO (p34 args) fun v => K v H := enter_prim (by rfl) (by kernel_rfl)
theorem enF5_48 {rec : Rec} {lo : Nat} {args : List AV} {H : Heap} {K : AV → Heap → Prop} : VO (aenter (NC.withPrims PPF5) rec lo 48 args H) K = AO (p48 args) fun v => K v H := enter_prim (by rfl) (by kernel_rfl)
theorem enF5_49 {rec : Rec} {lo : Nat} {args : List AV} {H : Heap} {K : AV → Heap → Prop} : VO (aenter (NC.withPrims PPF5) rec lo 49 args H) K = AO (p49 args) fun v => K v H := enter_prim (by rfl) (by kernel_rfl)
theorem enF5_50 {rec : Rec} {lo : Nat} {args : List AV} {H : Heap} {K : AV → Heap → Prop} : VO (aenter (NC.withPrims PPF5) rec lo 50 args H) K = AO (p50 args) fun v => K v H := enter_prim (by rfl) (by kernel_rfl)
theorem enF5_19 {rec : Rec} {lo : Nat} {args : List AV} {H : Heap} {K : AV → Heap → Prop} : VO (aenter (NC.withPrims PPF5) rec lo 19 args H) K = AO (p19 args) fun v => K v H := enter_prim (by rfl) (by kernel_rfl)
attribute [go_sem ↓] enF5_16 enF5_17 enF5_41 enF5_42 enF5_43 enF5_44 enF5_45 enF5_46 enF5_47 enF5_22 enF5_34 enF5_48 enF5_49 enF5_50 enF5_19
theorem shortM_few {m : List Mv} (h : shortM m = true) : m.length ≤ 25 ∧ ∀ x ∈ m, x.line.length ≤ 40 ∧ x.other.length ≤ 40 := by
  unfold shortM at h
  simp only [Bool.and_eq_true, Bool.not_eq_true', decide_eq_false_iff_not, List.all_eq_true] at h
  refine ⟨by omega, fun x hx => ?_⟩
  have := h.1 x hx
  unfold shortMv shortB at this
  simp only [Bool.and_eq_true, Bool.not_eq_true', decide_eq_false_iff_not] at this
  omega
theorem shortM_ok {m : List Mv} (h : shortM m = true) : MapOk m := by
  obtain ⟨h1, h2⟩ := shortM_few h
  refine ⟨by unfold maxRows; omega, fun x hx => ?_⟩
  have := h2 x hx
  unfold maxRows; omega
theorem carR_shape (m : List Mv) (s : List Nat) (q : Int) : ∃ s' k b, carR m s q = [.agg [.str s', .int .i64 k], .bool b] ∧ (b = false → s' = [] ∧ k = 0) := by
  unfold carR
  cases m.find? (hitR s q) with
  | none => exact ⟨_, _, _, rfl, fun _ => ⟨rfl, rfl⟩⟩
  | some x => exact ⟨_, _, _, rfl, fun h => by cases h⟩
theorem firstI_two (a b : Int) : firstI [a, b] = if a = 0 then b else a := by
  simp only [firstI_cons, firstI_nil]
  split
  · split
    · rename_i h; exact h.symm
    · rfl
  · rfl
theorem carried_same {m : List Mv} {s : List Nat} {q : Int} : carriedP m s q = (if firstI [mapR m, pointI s q] = 0 then (match carR m s q with | [p, .bool b] => [p, i64 (whenI (!b) 7)] | _ => []) else [noPlace, i64 (firstI [mapR m, pointI s q])]) := by
  obtain ⟨s', k, b, hc, hcp⟩ := carP_shape m s q
  rw [hcp, map_same]
  have he : firstI [mapR m, whenI (!nameB s) 8, rangeI q 0 800000] = firstI [mapR m, pointI s q] := by
    rw [firstI_two]
    unfold pointI
    rw [firstI_cons]
  simp only [he]
  by_cases z : firstI [mapR m, pointI s q] = 0
  · simp only [z, if_true]
    have hz := firstI_zero z
    have h1 : mapR m = 0 := hz _ (by simp)
    have h2 : pointI s q = 0 := hz _ (by simp)
    have h3 := rangeI_zero (firstI_zero h2 (rangeI q 0 800000) (by simp))
    rw [← car_same h1 s h3.1 h3.2, hc]
  · simp only [z, if_false]
theorem c5 (m : List Mv) (a b : Net) (s : List Nat) (q : Int) (hm : m.length ≤ 9223372036854775807) : ∀ lo H, CallOk NC lo 5 [.ps .unk (m.map Mv.row), .agg (a.cells ++ b.cells), .agg [.str s, i64 q]] H (.bool true) H := by
  refine contract saneNC primsF5 (fn := Tryz.f5) (by kernel_rfl) Tryz.func5 rfl rfl (by rfl) (by rfl) ?_
  have e41 := pe41 m hm
  have ea := pe17 a trivial
  have eb := pe17 b trivial
  simp only [Net.cells, i64] at ea eb
  cases hS : shortM m with
  | false =>
    simp only [hS] at e41
    simp only [go_sem, reduceIte, Nat.reduceEqDiff, Nat.reduceAdd, Nat.reduceMul, Nat.reduceSub, Nat.reduceLeDiff, Nat.reduceLT, Nat.reduceBEq, reduceCtorEq, Net.cells, e16, e41]
  | true =>
  simp only [hS] at e41
  cases hA : shortN a with
  | false =>
    simp only [hA] at ea
    simp only [go_sem, reduceIte, Nat.reduceEqDiff, Nat.reduceAdd, Nat.reduceMul, Nat.reduceSub, Nat.reduceLeDiff, Nat.reduceLT, Nat.reduceBEq, reduceCtorEq, Net.cells, e16, e41, ea]
  | true =>
  simp only [hA] at ea
  cases hB : shortN b with
  | false =>
    simp only [hB] at eb
    simp only [go_sem, reduceIte, Nat.reduceEqDiff, Nat.reduceAdd, Nat.reduceMul, Nat.reduceSub, Nat.reduceLeDiff, Nat.reduceLT, Nat.reduceBEq, reduceCtorEq, Net.cells, e16, e41, ea, eb]
  | true =>
  simp only [hB] at eb
  rcases Classical.propComplete ((40 : Int) < s.length) with q1 | q1
  · simp only [go_sem, reduceIte, Nat.reduceEqDiff, Nat.reduceAdd, Nat.reduceMul, Nat.reduceSub, Nat.reduceLeDiff, Nat.reduceLT, Nat.reduceBEq, reduceCtorEq, Net.cells, e16, e41, ea, eb, q1]
  have hs : s.length ≤ maxRows := by have := of_eq_false q1; unfold maxRows; omega
  have hM := shortM_ok hS
  have hAo := short_ok hA
  have hBo := short_ok hB
  have e43 := pe43 m hM.few
  have e42 := pe42 m s q ⟨hM, hs⟩
  have e44 := pe44 m hM.few
  have e22a := pe22 a ⟨hAo.fits, hAo.sws, hAo.sts⟩
  have e22b := pe22 b ⟨hBo.fits, hBo.sws, hBo.sts⟩
  have e45 := pe45 m a b ⟨hM.few, hAo.fits, hBo.fits⟩
  have e46 := pe46 s q
  have e47 := pe47 m s q hM.few
  have e49 := pe49 m hM
  have e50 := pe50 m a b ⟨hM, hAo, hBo⟩
  have e19a := pe19 a ⟨hAo.fits, hAo.sws, hAo.sts⟩
  have e19b := pe19 b ⟨hBo.fits, hBo.sws, hBo.sts⟩
  rw [carried_same] at e42
  rw [map_same] at e49
  have hfp : fitsP a b m = (if firstI [mapR m, netR a, netR b] = 0 then fitsR a b m else firstI [mapR m, netR a, netR b]) := by
    unfold fitsP fitsR; simp only [map_same, net_same]
  rw [hfp] at e50
  simp only [Net.cells, i64] at e22a e22b e45 e19a e19b e50
  obtain ⟨s', k', b', hcr, hno⟩ := carR_shape m s q
  rw [hcr] at e42 e47
  generalize hF : fitsR a b m = F at e45 e50
  generalize hE : firstI [mapR m, netR a, netR b] = E at e50
  generalize hG : firstI [mapR m, pointI s q] = G at e42
  rcases Classical.propComplete (E = 0) with z1 | z1 <;> rcases Classical.propComplete (G = 0) with z2 | z2 <;> simp only [z1, z2, if_true, if_false, noPlace, i64] at e50 e42 <;>
    simp only [go_sem, reduceIte, Nat.reduceEqDiff, Nat.reduceAdd, Nat.reduceMul, Nat.reduceSub, Nat.reduceLeDiff, Nat.reduceLT, Nat.reduceBEq, reduceCtorEq, Net.cells, e16, e41, ea, eb, q1, e43, e42, e44, e22a, e22b, e34_3, e34_2, e45, e46, e47, e48, e49, e50, e19a, e19b, hE, hG, z1, z2, ety28, aeq28]
end Go.Sim
