/-
The parts NetG5, NetU1, NetU2 of one proof, joined: each begins with a remark that says what it shows.
-/
import Derived.Test.YtepaopekeidlmaaGreatDoorT14
set_option linter.unusedSimpArgs false
set_option linter.unusedVariables false

/-
The program's Shortened, Undone, Composed; the law's own helpers on maps.
-/
namespace Go.Sim
open Go Go.Proofs
set_option maxRecDepth 100000
set_option maxHeartbeats 16000000
/-! ### No moves at all -/
theorem c135n : ∀ lo H, CallOk NC lo 135 [.ps .unk []] H (.tup [.ps .unk [], i64 0]) H :=
  known_ok saneNC awh0 (k := ⟨135, [.ps .unk []], .tup [.ps .unk [], i64 0]⟩) (fuel := 300) (by kernel_rfl) (by rfl) (by rfl)
theorem c135 (m : List Mv) (hl : m.length ≤ 12) (hg : ∀ x ∈ m, x.Good) : ∀ lo H, CallOk NC lo 135 [.ps .unk (m.map Mv.row)] H (.tup [.ps .unk ((shortM' m).map Mv.row), i64 0]) H := by
  cases m with
  | nil => exact c135n
  | cons x r => exact c135p (x :: r) ⟨hl, by simp, hg⟩
noncomputable def p135 : List AV → Option AV := primOf (α := List Mv) (fun x => [.ps .unk (x.map Mv.row)]) (fun x => (x.length ≤ 12 ∧ ∀ y ∈ x, y.Good)) (fun x => .tup [.ps .unk ((shortM' x).map Mv.row), i64 0])
theorem pok135 : ∀ args v, p135 args = some v → ∀ lo H, CallOk NC lo 135 args H v H := by
  intro args v h
  obtain ⟨x, rfl, hp, rfl⟩ := primOf_inv h
  clear h
  revert x
  intro x hx; exact c135 x hx.1 hx.2
theorem pe135 (x : List Mv) (hp : (fun x => (x.length ≤ 12 ∧ ∀ y ∈ x, y.Good)) x) : p135 ((fun x => [.ps .unk (x.map Mv.row)]) x) = some ((fun x => .tup [.ps .unk ((shortM' x).map Mv.row), i64 0]) x) := primOf_enc (by intro x y h; (simp only [List.cons.injEq, AV.ps.injEq, mvs_iff, true_and, and_true] at h; exact h)) x hp
structure FewOk (m : List Mv) : Prop where
  ok : MapOk m
  few : mapR m = 0 → m.length ≤ 6
def shortP (m : List Mv) : List AV := if mapR m = 0 then [.ps .unk ((shortM' m).map Mv.row), i64 0] else [.ps .unk [], i64 (mapR m)]
def undoP (m : List Mv) : List AV := if mapR m = 0 then [.ps .unk ((undoM m).map Mv.row), i64 0] else [.ps .unk [], i64 (mapR m)]
def compPP (a b : List Mv) : List AV := if firstI [mapR a, mapR b] = 0 then [.ps .unk ((compM a b).map Mv.row), i64 0] else [.ps .unk [], i64 (firstI [mapR a, mapR b])]
noncomputable def PPF53 : FuncId → Option (List AV → Option AV) := addPrim 135 p135 (addPrim 49 p49 (fun _ => none))
theorem primsF53 : PrimsOk NC PPF53 := primsOk_add (primsOk_add (primsOk_none) (by kernel_rfl) (by kernel_rfl) pok49) (by kernel_rfl) (by kernel_rfl) pok135
theorem enF53_49 : En PPF53 49 p49 := enter_prim (by rfl) (by kernel_rfl)
theorem enF53_135 : En PPF53 135 p135 := enter_prim (by rfl) (by kernel_rfl)
attribute [go_sem ↓] enF53_49 enF53_135
theorem c53 (m : List Mv) (hp : FewOk m) : ∀ lo H, CallOk NC lo 53 [.ps .unk (m.map Mv.row)] H (.tup (shortP m)) H := by
  refine contract saneNC primsF53 (fn := Tryz.f53) (by kernel_rfl) Tryz.func53 rfl rfl (by rfl) (by unfold shortP; split <;> rfl) ?_
  have e49 := pe49 m hp.ok
  rw [map_same] at e49
  unfold shortP
  have h135 : mapR m = 0 → p135 [.ps .unk (m.map Mv.row)] = some (.tup [.ps .unk ((shortM' m).map Mv.row), i64 0]) := fun h => pe135 m ⟨by have := hp.few h; omega, fun x hx => map_good h hx⟩
  generalize mapR m = E at e49 h135 ⊢
  rcases Classical.propComplete (E = 0) with z | z
  · have h135 := h135 (of_eq_true z)
    simp only [go_sem, reduceIte, Nat.reduceEqDiff, Nat.reduceAdd, Nat.reduceMul, Nat.reduceSub, Nat.reduceLeDiff, Nat.reduceLT, Nat.reduceBEq, reduceCtorEq, e49, z, h135]
  · simp only [go_sem, reduceIte, Nat.reduceEqDiff, Nat.reduceAdd, Nat.reduceMul, Nat.reduceSub, Nat.reduceLeDiff, Nat.reduceLT, Nat.reduceBEq, reduceCtorEq, e49, z]
noncomputable def p53 : List AV → Option AV := primOf (α := (List Mv)) (fun x => [.ps .unk (x.map Mv.row)]) (fun x => FewOk x) (fun x => .tup (shortP x))
theorem pok53 : ∀ args v, p53 args = some v → ∀ lo H, CallOk NC lo 53 args H v H := by
  intro args v h
  obtain ⟨x, rfl, hp, rfl⟩ := primOf_inv h
  exact c53 x hp
theorem pe53 (m : List Mv) (hp : FewOk m) : p53 [.ps .unk (m.map Mv.row)] = some (.tup (shortP m)) := primOf_enc (α := (List Mv)) (enc := fun x => [.ps .unk (x.map Mv.row)]) (pre := fun x => FewOk x) (spec := fun x => .tup (shortP x)) (by intro x y h; (simp only [List.cons.injEq, AV.agg.injEq, AV.str.injEq, AV.int.injEq, AV.ps.injEq, AV.bool.injEq, Net.cells_iff, Ln.row_iff, Pc.row_iff, Mv.row_iff, lns_iff, pcs_iff, mvs_iff, true_and, and_true] at h; first | simpa only [Prod.ext_iff] using h | simpa only [Prod.ext_iff, and_assoc] using h)) m hp
noncomputable def PPF54 : FuncId → Option (List AV → Option AV) := addPrim 136 p136 (addPrim 135 p135 (addPrim 49 p49 (fun _ => none)))
theorem primsF54 : PrimsOk NC PPF54 := primsOk_add (primsOk_add (primsOk_add (primsOk_none) (by kernel_rfl) (by kernel_rfl) pok49) (by kernel_rfl) (by kernel_rfl) pok135) (by kernel_rfl) (by kernel_rfl) pok136
theorem enF54_49 : En PPF54 49 p49 := enter_prim (by rfl) (by kernel_rfl)
theorem enF54_135 : En PPF54 135 p135 := enter_prim (by rfl) (by kernel_rfl)
theorem enF54_136 : En PPF54 136 p136 := enter_prim (by rfl) (by kernel_rfl)
attribute [go_sem ↓] enF54_49 enF54_135 enF54_136
theorem c54 (m : List Mv) (hp : FewOk m) : ∀ lo H, CallOk NC lo 54 [.ps .unk (m.map Mv.row)] H (.tup (undoP m)) H := by
  refine contract saneNC primsF54 (fn := Tryz.f54) (by kernel_rfl) Tryz.func54 rfl rfl (by rfl) (by unfold undoP; split <;> rfl) ?_
  have e49 := pe49 m hp.ok
  rw [map_same] at e49
  have e136 := pe136 m hp.ok.few
  unfold undoP
  have h135 : mapR m = 0 → p135 [.ps .unk ((m.map undoMv).map Mv.row)] = some (.tup [.ps .unk ((undoM m).map Mv.row), i64 0]) := fun h => by
    have := pe135 (m.map undoMv) ⟨by rw [List.length_map]; have := hp.few h; omega, fun x hx => (fair_of h).undo.good x hx⟩
    exact this
  generalize mapR m = E at e49 h135 ⊢
  rcases Classical.propComplete (E = 0) with z | z
  · have h135 := h135 (of_eq_true z)
    simp only [go_sem, reduceIte, Nat.reduceEqDiff, Nat.reduceAdd, Nat.reduceMul, Nat.reduceSub, Nat.reduceLeDiff, Nat.reduceLT, Nat.reduceBEq, reduceCtorEq, e49, e136, z, h135]
  · simp only [go_sem, reduceIte, Nat.reduceEqDiff, Nat.reduceAdd, Nat.reduceMul, Nat.reduceSub, Nat.reduceLeDiff, Nat.reduceLT, Nat.reduceBEq, reduceCtorEq, e49, z]
noncomputable def p54 : List AV → Option AV := primOf (α := (List Mv)) (fun x => [.ps .unk (x.map Mv.row)]) (fun x => FewOk x) (fun x => .tup (undoP x))
theorem pok54 : ∀ args v, p54 args = some v → ∀ lo H, CallOk NC lo 54 args H v H := by
  intro args v h
  obtain ⟨x, rfl, hp, rfl⟩ := primOf_inv h
  exact c54 x hp
theorem pe54 (m : List Mv) (hp : FewOk m) : p54 [.ps .unk (m.map Mv.row)] = some (.tup (undoP m)) := primOf_enc (α := (List Mv)) (enc := fun x => [.ps .unk (x.map Mv.row)]) (pre := fun x => FewOk x) (spec := fun x => .tup (undoP x)) (by intro x y h; (simp only [List.cons.injEq, AV.agg.injEq, AV.str.injEq, AV.int.injEq, AV.ps.injEq, AV.bool.injEq, Net.cells_iff, Ln.row_iff, Pc.row_iff, Mv.row_iff, lns_iff, pcs_iff, mvs_iff, true_and, and_true] at h; first | simpa only [Prod.ext_iff] using h | simpa only [Prod.ext_iff, and_assoc] using h)) m hp
theorem compL_take {a b : List Mv} {k : Nat} {x : Mv} (h : a[k]? = some x) : compL (a.take (k + 1)) b = compL (a.take k) b ++ b.filterMap (compO x) := by
  unfold compL
  rw [List.take_add_one, h, List.flatMap_append]; simp
theorem filter_take {b : List Mv} {x : Mv} {k : Nat} {y : Mv} (h : b[k]? = some y) : (b.take (k + 1)).filterMap (compO x) = (b.take k).filterMap (compO x) ++ (compO x y).toList := by
  rw [List.take_add_one, h, List.filterMap_append]
  cases hc : compO x y <;> simp [hc]
noncomputable def PPF55 : FuncId → Option (List AV → Option AV) := addPrim 137 p137 (addPrim 135 p135 (addPrim 111 p111 (addPrim 49 p49 (fun _ => none))))
theorem primsF55 : PrimsOk NC PPF55 := primsOk_add (primsOk_add (primsOk_add (primsOk_add (primsOk_none) (by kernel_rfl) (by kernel_rfl) pok49) (by kernel_rfl) (by kernel_rfl) pok111) (by kernel_rfl) (by kernel_rfl) pok135) (by kernel_rfl) (by kernel_rfl) pok137
theorem enF55_49 : En PPF55 49 p49 := enter_prim (by rfl) (by kernel_rfl)
theorem enF55_111 : En PPF55 111 p111 := enter_prim (by rfl) (by kernel_rfl)
theorem enF55_135 : En PPF55 135 p135 := enter_prim (by rfl) (by kernel_rfl)
theorem enF55_137 : En PPF55 137 p137 := enter_prim (by rfl) (by kernel_rfl)
attribute [go_sem ↓] enF55_49 enF55_111 enF55_135 enF55_137
theorem c55 (a b : List Mv) (hp : FewOk a ∧ FewOk b) : ∀ lo H, CallOk NC lo 55 [.ps .unk (a.map Mv.row), .ps .unk (b.map Mv.row)] H (.tup (compPP a b)) H := by
  refine contract saneNC primsF55 (fn := Tryz.f55) (by kernel_rfl) Tryz.func55 rfl rfl (by rfl) (by unfold compPP; split <;> rfl) ?_
  have e49a := pe49 a hp.1.ok
  have e49b := pe49 b hp.2.ok
  rw [map_same] at e49a e49b
  unfold compPP
  have h135 : firstI [mapR a, mapR b] = 0 → a.length ≤ 6 ∧ b.length ≤ 6 ∧ p135 [.ps .unk ((compL a b).map Mv.row)] = some (.tup [.ps .unk ((compM a b).map Mv.row), i64 0]) := fun h => by
    have h0 := firstI_zero h
    have ha := h0 (mapR a) (by simp)
    have hb := h0 (mapR b) (by simp)
    have fa := fair_of ha
    have fb := fair_of hb
    have l1 := hp.1.few ha
    have l2 := hp.2.few hb
    have hl := compL_len fa fb
    exact ⟨l1, l2, pe135 (compL a b) ⟨by omega, compL_good fa fb⟩⟩
  generalize hE : firstI [mapR a, mapR b] = E at h135 ⊢
  rcases Classical.propComplete (E = 0) with z | z
  case inr =>
    simp only [go_sem, reduceIte, Nat.reduceEqDiff, Nat.reduceAdd, Nat.reduceMul, Nat.reduceSub, Nat.reduceLeDiff, Nat.reduceLT, Nat.reduceBEq, reduceCtorEq, e49a, e49b, e111_2, hE, z]
  obtain ⟨la, lb, h135⟩ := h135 (of_eq_true z)
  simp only [go_sem, reduceIte, Nat.reduceEqDiff, Nat.reduceAdd, Nat.reduceMul, Nat.reduceSub, Nat.reduceLeDiff, Nat.reduceLT, Nat.reduceBEq, reduceCtorEq, e49a, e49b, e111_2, hE, z]
  refine W_for (fun k T H M => M = [] ∧ getT T 1 = .ps .unk (b.map Mv.row) ∧ getT T 23 = .ps .unk (a.map Mv.row) ∧ getT T 24 = i64 (a.length : Nat) ∧ getT T 25 = i64 k ∧ ∃ t, getT T 7 = .ps t ((compL (a.take k) b).map Mv.row) ∧ App H t ((compL (a.take k) b).map Mv.row) 6 130) a.length ?_ ?_ ?_
  · simp only [go_sem, reduceIte, Nat.reduceEqDiff, Nat.reduceAdd, Nat.reduceMul, Nat.reduceSub, Nat.reduceLeDiff, Nat.reduceLT, Nat.reduceBEq, reduceCtorEq, List.length_map]; exact ⟨.nil, by simp [compL], .inl ⟨rfl, by simp [compL]⟩⟩
  · rintro k T H M hk ⟨rfl, g1, g23, g24, g25, t, g7, hA⟩
    obtain ⟨x, hx⟩ : ∃ p, a[k]? = some p := ⟨a[k], by simp⟩
    have hr := map_at (f := Mv.row) hx
    have hw := wrap_succ hk (by unfold maxRows; omega : a.length ≤ maxRows)
    have hct := compL_take (b := b) hx
    have hcl : (compL (a.take k) b).length ≤ 6 * 6 := by
      unfold compL
      have key : ∀ l : List Mv, (l.flatMap fun x => b.filterMap (compO x)).length ≤ l.length * 6 := by
        intro l
        induction l with
        | nil => simp
        | cons z r ih =>
          have := List.length_filterMap_le (compO z) b
          rw [List.flatMap_cons, List.length_append, List.length_cons]; omega
      have := key (a.take k)
      rw [List.length_take] at this
      omega
    obtain ⟨x1, x2, x3, x4, x5, x6⟩ := x
    simp only [Mv.row] at hr
    simp only [go_sem, reduceIte, Nat.reduceEqDiff, Nat.reduceAdd, Nat.reduceMul, Nat.reduceSub, Nat.reduceLeDiff, Nat.reduceLT, Nat.reduceBEq, reduceCtorEq, g1, g23, g24, g25, List.length_map, hk, hr]
    refine W_for (fun j T' H' M => M = [] ∧ getT T' 1 = .ps .unk (b.map Mv.row) ∧ getT T' 23 = .ps .unk (a.map Mv.row) ∧ getT T' 24 = i64 (a.length : Nat) ∧ getT T' 25 = i64 k ∧ getT T' 29 = .ps .unk (b.map Mv.row) ∧ getT T' 30 = i64 (b.length : Nat) ∧ getT T' 31 = i64 j ∧ getT T' 9 = .ptr H.n 0 ∧ H.n < H'.n ∧ H'.get H.n = .cells [.str x1, i64 x2, i64 x3, .str x4, i64 x5, .bool x6] 130 ∧ ∃ t, getT T' 7 = .ps t ((compL (a.take k) b ++ (b.take j).filterMap (compO ⟨x1, x2, x3, x4, x5, x6⟩)).map Mv.row) ∧ App H' t ((compL (a.take k) b ++ (b.take j).filterMap (compO ⟨x1, x2, x3, x4, x5, x6⟩)).map Mv.row) 6 130) b.length ?_ ?_ ?_
    · simp only [go_sem, reduceIte, Nat.reduceEqDiff, Nat.reduceAdd, Nat.reduceMul, Nat.reduceSub, Nat.reduceLeDiff, Nat.reduceLT, Nat.reduceBEq, reduceCtorEq, List.length_map, g1, g23, g24, g25, g7]
      exact ⟨t, by simp, by simpa using hA.fresh _ _ rfl⟩
    · rintro j T' H' M hj ⟨rfl, i1, i23, i24, i25, i29, i30, i31, i9, in_, ih, t', i7, iA⟩
      obtain ⟨y, hy⟩ : ∃ p, b[j]? = some p := ⟨b[j], by simp⟩
      have hry := map_at (f := Mv.row) hy
      have hwj := wrap_succ hj (by unfold maxRows; omega : b.length ≤ maxRows)
      have hft := filter_take (x := ⟨x1, x2, x3, x4, x5, x6⟩) hy
      have e137 := pe137 ⟨x1, x2, x3, x4, x5, x6⟩ y
      unfold compP at e137
      have hne : (H.n = H'.n) = False := by simp only [eq_iff_iff, iff_false]; omega
      have hne1 : (H.n = H'.n + 1) = False := by simp only [eq_iff_iff, iff_false]; omega
      cases hc : compB ⟨x1, x2, x3, x4, x5, x6⟩ y with
      | false =>
        have hco : compO ⟨x1, x2, x3, x4, x5, x6⟩ y = none := by unfold compO; rw [hc]; rfl
        rw [hc] at e137
        rw [hco] at hft
        simp only [Bool.false_eq_true, if_false, Option.toList_none, List.append_nil, zeroMv] at e137 hft
        rw [hft]
        obtain ⟨y1, y2, y3, y4, y5, y6⟩ := y
        simp only [Mv.row] at hry e137
        simp only [go_sem, reduceIte, Nat.reduceEqDiff, Nat.reduceAdd, Nat.reduceMul, Nat.reduceSub, Nat.reduceLeDiff, Nat.reduceLT, Nat.reduceBEq, reduceCtorEq, i1, i23, i24, i25, i29, i30, i31, i9, ih, i7, hne, hne1, List.length_map, hj, hry, hwj, e137]
        exact ⟨by omega, t', rfl, (iA.fresh _ _ rfl).fresh _ _ (by simp)⟩
      | true =>
        rw [hc] at e137
        simp only [if_true] at e137
        have hfl := List.length_filterMap_le (compO ⟨x1, x2, x3, x4, x5, x6⟩) (b.take j)
        rw [List.length_take] at hfl
        obtain ⟨z, hz⟩ : ∃ z, compMv ⟨x1, x2, x3, x4, x5, x6⟩ y = z := ⟨_, rfl⟩
        have hco : compO ⟨x1, x2, x3, x4, x5, x6⟩ y = some z := by unfold compO; rw [hc, hz]; rfl
        rw [hco] at hft
        simp only [Option.toList_some] at hft
        rw [hz] at e137
        have hl7 : (compL (a.take k) b ++ (b.take j).filterMap (compO ⟨x1, x2, x3, x4, x5, x6⟩)).length + 1 ≤ maxRows := by
          rw [List.length_append]; unfold maxRows; omega
        obtain ⟨t2, H2, ha, hB, hK, hcell⟩ := app_mv (H := (((H'.push (.cells [.str [], .int .i64 0, .int .i64 0, .str [], .int .i64 0, .bool false] 130)).set H'.n (.cells y.row 130)).push (.cells [.str [], .int .i64 0, .int .i64 0, .str [], .int .i64 0, .bool false] 130)).set (H'.n + 1) (.cells z.row 130)) ((iA.fresh _ _ rfl).fresh _ _ (by simp)) z hl7
        have hc9 := hcell H.n _ _ (by simp; omega) (by simp only [go_sem, reduceIte, Nat.reduceEqDiff, Nat.reduceAdd, Nat.reduceMul, Nat.reduceSub, Nat.reduceLeDiff, Nat.reduceLT, Nat.reduceBEq, reduceCtorEq, hne, hne1]; exact ih)
        have hn2 : H.n < H2.n := by have := hK.1; simp at this; omega
        have hft2 : compL (a.take k) b ++ (b.take (j + 1)).filterMap (compO ⟨x1, x2, x3, x4, x5, x6⟩) = (compL (a.take k) b ++ (b.take j).filterMap (compO ⟨x1, x2, x3, x4, x5, x6⟩)) ++ [z] := by
          rw [hft, List.append_assoc]
        rw [hft2]
        generalize compL (a.take k) b ++ (b.take j).filterMap (compO ⟨x1, x2, x3, x4, x5, x6⟩) = L at i7 ha hB
        clear hft hft2 hfl hcell hz hl7
        obtain ⟨y1, y2, y3, y4, y5, y6⟩ := y
        obtain ⟨z1, z2, z3, z4, z5, z6⟩ := z
        simp only [Mv.row] at hry e137 ha
        simp only [go_sem, reduceIte, Nat.reduceEqDiff, Nat.reduceAdd, Nat.reduceMul, Nat.reduceSub, Nat.reduceLeDiff, Nat.reduceLT, Nat.reduceBEq, reduceCtorEq, i1, i23, i24, i25, i29, i30, i31, i9, ih, i7, hne, hne1, List.length_map, hj, hry, hwj, e137, appO, ha]
        exact ⟨hn2, hc9, t2, rfl, hB⟩
    · rintro T' H' M ⟨rfl, i1, i23, i24, i25, i29, i30, i31, i9, in_, ih, t', i7, iA⟩
      rw [List.take_length, ← hct] at i7 iA
      simp only [go_sem, reduceIte, Nat.reduceEqDiff, Nat.reduceAdd, Nat.reduceMul, Nat.reduceSub, Nat.reduceLeDiff, Nat.reduceLT, Nat.reduceBEq, reduceCtorEq, i1, i23, i24, i25, i29, i30, i31, i9, i7, Nat.lt_irrefl, hw]
      exact ⟨t', rfl, iA⟩
  · rintro T H M ⟨rfl, g1, g23, g24, g25, t, g7, hA⟩
    rw [List.take_length] at g7
    simp only [go_sem, reduceIte, Nat.reduceEqDiff, Nat.reduceAdd, Nat.reduceMul, Nat.reduceSub, Nat.reduceLeDiff, Nat.reduceLT, Nat.reduceBEq, reduceCtorEq, g1, g23, g24, g25, g7, Nat.lt_irrefl, h135, z]
noncomputable def p55 : List AV → Option AV := primOf (α := (List Mv) × (List Mv)) (fun x => [.ps .unk (x.1.map Mv.row), .ps .unk (x.2.map Mv.row)]) (fun x => FewOk x.1 ∧ FewOk x.2) (fun x => .tup (compPP x.1 x.2))
theorem pok55 : ∀ args v, p55 args = some v → ∀ lo H, CallOk NC lo 55 args H v H := by
  intro args v h
  obtain ⟨x, rfl, hp, rfl⟩ := primOf_inv h
  exact c55 x.1 x.2 hp
theorem pe55 (a b : List Mv) (hp : FewOk a ∧ FewOk b) : p55 [.ps .unk (a.map Mv.row), .ps .unk (b.map Mv.row)] = some (.tup (compPP a b)) := primOf_enc (α := (List Mv) × (List Mv)) (enc := fun x => [.ps .unk (x.1.map Mv.row), .ps .unk (x.2.map Mv.row)]) (pre := fun x => FewOk x.1 ∧ FewOk x.2) (spec := fun x => .tup (compPP x.1 x.2)) (by intro x y h; (simp only [List.cons.injEq, AV.agg.injEq, AV.str.injEq, AV.int.injEq, AV.ps.injEq, AV.bool.injEq, Net.cells_iff, Ln.row_iff, Pc.row_iff, Mv.row_iff, lns_iff, pcs_iff, mvs_iff, true_and, and_true] at h; first | simpa only [Prod.ext_iff] using h | simpa only [Prod.ext_iff, and_assoc] using h)) (a, b) hp
/-! ### The law's own helpers -/
noncomputable def PPF61 : FuncId → Option (List AV → Option AV) := fun _ => none
theorem primsF61 : PrimsOk NC PPF61 := primsOk_none
theorem c61 (m : List Mv) (hp : m.length ≤ maxRows) : ∀ lo H, CallOk NC lo 61 [.ps .unk (m.map Mv.row)] H (.ps .unk (m.map Mv.row)) H := by
  refine contract saneNC primsF61 (fn := Tryz.f61) (by kernel_rfl) Tryz.func61 rfl rfl (by rfl) (by first | rfl | (split <;> first | rfl | (split <;> rfl))) ?_
  have hl := hp
  simp only [go_sem, reduceIte, Nat.reduceEqDiff, Nat.reduceAdd, Nat.reduceMul, Nat.reduceSub, Nat.reduceLeDiff, Nat.reduceLT, Nat.reduceBEq, reduceCtorEq]
  refine W_for (fun k T H M => M = [] ∧ getT T 6 = .ps .unk (m.map Mv.row) ∧ getT T 7 = i64 (m.length : Nat) ∧ getT T 8 = i64 k ∧ ∃ t, getT T 3 = .ps t ((m.take k).map Mv.row) ∧ App H t ((m.take k).map Mv.row) 6 128) m.length ?_ ?_ ?_
  · simp only [go_sem, reduceIte, Nat.reduceEqDiff, Nat.reduceAdd, Nat.reduceMul, Nat.reduceSub, Nat.reduceLeDiff, Nat.reduceLT, Nat.reduceBEq, reduceCtorEq, List.length_map]; exact ⟨.nil, by simp, .inl ⟨rfl, rfl⟩⟩
  · rintro k T H M hk ⟨rfl, g6, g7, g8, t, g3, hA⟩
    obtain ⟨x, hx⟩ : ∃ p, m[k]? = some p := ⟨m[k], by simp⟩
    have hr := map_at (f := Mv.row) hx
    have hw := wrap_succ hk hl
    have htk := take_map (f := Mv.row) hx
    obtain ⟨t', H1, ha, hB, hn1, hc1, _⟩ := app_any (H := (H.push (.cells [.str [], .int .i64 0, .int .i64 0, .str [], .int .i64 0, .bool false] 130)).set H.n (.cells x.row 130)) (hA.fresh _ _ rfl) (r := x.row) (by simp; omega) rfl (by decide) (rows_all Mv.row_len _)
    obtain ⟨a, b, c, d, e, f⟩ := x
    simp only [Mv.row] at hr ha
    simp only [go_sem, reduceIte, Nat.reduceEqDiff, Nat.reduceAdd, Nat.reduceMul, Nat.reduceSub, Nat.reduceLeDiff, Nat.reduceLT, Nat.reduceBEq, reduceCtorEq, g6, g7, g8, g3, List.length_map, hk, hr, hw, appO, ha]
    rw [htk]
    exact ⟨t', rfl, hB⟩
  · rintro T H M ⟨rfl, g6, g7, g8, t, g3, hA⟩
    simp only [go_sem, reduceIte, Nat.reduceEqDiff, Nat.reduceAdd, Nat.reduceMul, Nat.reduceSub, Nat.reduceLeDiff, Nat.reduceLT, Nat.reduceBEq, reduceCtorEq, g6, g7, g8, g3, List.take_length, Nat.lt_irrefl]
noncomputable def p61 : List AV → Option AV := primOf (α := (List Mv)) (fun x => [.ps .unk (x.map Mv.row)]) (fun x => x.length ≤ maxRows) (fun x => .ps .unk (x.map Mv.row))
theorem pok61 : ∀ args v, p61 args = some v → ∀ lo H, CallOk NC lo 61 args H v H := by
  intro args v h
  obtain ⟨x, rfl, hp, rfl⟩ := primOf_inv h
  exact c61 x hp
theorem pe61 (m : List Mv) (hp : m.length ≤ maxRows) : p61 [.ps .unk (m.map Mv.row)] = some (.ps .unk (m.map Mv.row)) := primOf_enc (α := (List Mv)) (enc := fun x => [.ps .unk (x.map Mv.row)]) (pre := fun x => x.length ≤ maxRows) (spec := fun x => .ps .unk (x.map Mv.row)) (by intro x y h; (simp only [List.cons.injEq, AV.agg.injEq, AV.str.injEq, AV.int.injEq, AV.ps.injEq, AV.bool.injEq, Net.cells_iff, Ln.row_iff, Pc.row_iff, Mv.row_iff, lns_iff, pcs_iff, mvs_iff, true_and, and_true] at h; first | simpa only [Prod.ext_iff] using h | simpa only [Prod.ext_iff, and_assoc] using h)) m hp
def mvB (a b : Mv) : Bool := beqL a.line b.line && (eqI a.fr b.fr && (eqI a.len b.len && (beqL a.other b.other && (eqI a.to b.to && (a.turned == b.turned)))))
theorem mvB_iff (a b : Mv) : mvB a b = true ↔ a = b := by
  obtain ⟨a1, a2, a3, a4, a5, a6⟩ := a
  obtain ⟨b1, b2, b3, b4, b5, b6⟩ := b
  unfold mvB
  simp only [Bool.and_eq_true, beqL_iff, eqI_iff, decide_eq_true_eq, beq_iff_eq, Mv.mk.injEq]
theorem aeq128' (a1 b1 : List Nat) (a2 b2 a3 b3 : Int) (a4 b4 : List Nat) (a5 b5 : Int) (a6 b6 : Bool) : aeqT NC.P 100 128 (.agg [.str a1, .int .i64 a2, .int .i64 a3, .str a4, .int .i64 a5, .bool a6]) (.agg [.str b1, .int .i64 b2, .int .i64 b3, .str b4, .int .i64 b5, .bool b6]) =
    (match some (beqL a1 b1) with
    | some true => (match some (eqI a2 b2) with
      | some true => (match some (eqI a3 b3) with
        | some true => (match some (beqL a4 b4) with
          | some true => (match some (eqI a5 b5) with
            | some true => (match some (a6 == b6) with
              | some true => some true
              | some false => some false
              | none => none)
            | some false => some false
            | none => none)
          | some false => some false
          | none => none)
        | some false => some false
        | none => none)
      | some false => some false
      | none => none)
    | some false => some false
    | none => none) := by kernel_rfl
theorem aeq128 (a b : Mv) : aeqT NC.P 100 128 (.agg a.row) (.agg b.row) = some (mvB a b) := by
  unfold Mv.row mvB
  rw [aeq128']
  cases beqL a.line b.line <;> cases eqI a.fr b.fr <;> cases eqI a.len b.len <;> cases beqL a.other b.other <;> cases eqI a.to b.to <;> cases (a.turned == b.turned) <;> rfl
theorem ety128 : eqType NC.P 100 128 = true := by kernel_rfl
noncomputable def PPF60 : FuncId → Option (List AV → Option AV) := fun _ => none
theorem primsF60 : PrimsOk NC PPF60 := primsOk_none
theorem c60 (a b : List Mv) (hp : a.length ≤ maxRows) : ∀ lo H, CallOk NC lo 60 [.ps .unk (a.map Mv.row), .ps .unk (b.map Mv.row)] H (.bool (listB mvB a b)) H := by
  refine contract saneNC primsF60 (fn := Tryz.f60) (by kernel_rfl) Tryz.func60 rfl rfl (by rfl) (by first | rfl | (split <;> first | rfl | (split <;> rfl))) ?_
  rcases Classical.propComplete (a.length = b.length) with q | q
  case inr =>
    have q' : a.length ≠ b.length := fun h => by rw [eq_true h] at q; simp at q
    rw [listB_len q']
    have q2 : ((a.length : Int) = (b.length : Int)) = False := by rw [len_eq]; exact q
    simp only [go_sem, reduceIte, Nat.reduceEqDiff, Nat.reduceAdd, Nat.reduceMul, Nat.reduceSub, Nat.reduceLeDiff, Nat.reduceLT, Nat.reduceBEq, reduceCtorEq, q2]
  have q' := of_eq_true q
  have q2 : ((a.length : Int) = (b.length : Int)) = True := by rw [len_eq]; exact q
  simp only [go_sem, reduceIte, Nat.reduceEqDiff, Nat.reduceAdd, Nat.reduceMul, Nat.reduceSub, Nat.reduceLeDiff, Nat.reduceLT, Nat.reduceBEq, reduceCtorEq, q2]
  refine W_for (fun k T H M => M = [] ∧ getT T 0 = .ps .unk (a.map Mv.row) ∧ getT T 1 = .ps .unk (b.map Mv.row) ∧ getT T 5 = i64 k ∧ ∀ (j : Nat) x y, j < k → a[j]? = some x → b[j]? = some y → mvB x y = true) a.length ?_ ?_ ?_
  · simp only [go_sem, reduceIte, Nat.reduceEqDiff, Nat.reduceAdd, Nat.reduceMul, Nat.reduceSub, Nat.reduceLeDiff, Nat.reduceLT, Nat.reduceBEq, reduceCtorEq]; exact fun j x y hj => absurd hj (by omega)
  · rintro k T H M hk ⟨rfl, g0, g1, g5, hall⟩
    have hkb : k < b.length := by omega
    obtain ⟨x, hx⟩ : ∃ p, a[k]? = some p := ⟨a[k], by simp⟩
    obtain ⟨y, hy⟩ : ∃ p, b[k]? = some p := ⟨b[k], by simp⟩
    have hrx := map_at (f := Mv.row) hx
    have hry := map_at (f := Mv.row) hy
    have hw := wrap_succ hk hp
    have ae := aeq128 x y
    cases hm : mvB x y with
    | true =>
      rw [hm] at ae
      obtain ⟨a1, a2, a3, a4, a5, a6⟩ := x
      obtain ⟨b1, b2, b3, b4, b5, b6⟩ := y
      simp only [Mv.row] at hrx hry ae
      simp only [go_sem, reduceIte, Nat.reduceEqDiff, Nat.reduceAdd, Nat.reduceMul, Nat.reduceSub, Nat.reduceLeDiff, Nat.reduceLT, Nat.reduceBEq, reduceCtorEq, g0, g1, g5, List.length_map, hk, hkb, hrx, hry, hw, ety128, ae]
      intro j x' y' hj hx' hy'
      by_cases e : j = k
      · subst e
        rw [hx] at hx'; rw [hy] at hy'
        cases hx'; cases hy'; exact hm
      · exact hall j x' y' (by omega) hx' hy'
    | false =>
      rw [hm] at ae
      have hno := listB_at (f := mvB) hx hy hm
      obtain ⟨a1, a2, a3, a4, a5, a6⟩ := x
      obtain ⟨b1, b2, b3, b4, b5, b6⟩ := y
      simp only [Mv.row] at hrx hry ae
      simp only [go_sem, reduceIte, Nat.reduceEqDiff, Nat.reduceAdd, Nat.reduceMul, Nat.reduceSub, Nat.reduceLeDiff, Nat.reduceLT, Nat.reduceBEq, reduceCtorEq, g0, g1, g5, List.length_map, hk, hkb, hrx, hry, hw, ety128, ae, hno]
  · rintro T H M ⟨rfl, g0, g1, g5, hall⟩
    simp only [go_sem, reduceIte, Nat.reduceEqDiff, Nat.reduceAdd, Nat.reduceMul, Nat.reduceSub, Nat.reduceLeDiff, Nat.reduceLT, Nat.reduceBEq, reduceCtorEq, g0, g1, g5, List.length_map, Nat.lt_irrefl]
    rw [listB_all q' fun k x y h1 h2 => hall k x y (List.getElem?_eq_some_iff.1 h1).1 h1 h2]
noncomputable def p60 : List AV → Option AV := primOf (α := (List Mv) × (List Mv)) (fun x => [.ps .unk (x.1.map Mv.row), .ps .unk (x.2.map Mv.row)]) (fun x => x.1.length ≤ maxRows) (fun x => .bool (listB mvB x.1 x.2))
theorem pok60 : ∀ args v, p60 args = some v → ∀ lo H, CallOk NC lo 60 args H v H := by
  intro args v h
  obtain ⟨x, rfl, hp, rfl⟩ := primOf_inv h
  exact c60 x.1 x.2 hp
theorem pe60 (a b : List Mv) (hp : a.length ≤ maxRows) : p60 [.ps .unk (a.map Mv.row), .ps .unk (b.map Mv.row)] = some (.bool (listB mvB a b)) := primOf_enc (α := (List Mv) × (List Mv)) (enc := fun x => [.ps .unk (x.1.map Mv.row), .ps .unk (x.2.map Mv.row)]) (pre := fun x => x.1.length ≤ maxRows) (spec := fun x => .bool (listB mvB x.1 x.2)) (by intro x y h; (simp only [List.cons.injEq, AV.agg.injEq, AV.str.injEq, AV.int.injEq, AV.ps.injEq, AV.bool.injEq, Net.cells_iff, Ln.row_iff, Pc.row_iff, Mv.row_iff, lns_iff, pcs_iff, mvs_iff, true_and, and_true] at h; first | simpa only [Prod.ext_iff] using h | simpa only [Prod.ext_iff, and_assoc] using h)) (a, b) hp
def lenW : List Mv → Int → Int
  | [], s => s
  | x :: r, s => lenW r (wrapq .i64 (Int.add s x.len))
def tinyB (m : List Mv) : Bool := shortM m && (decide (mapR m = 0) && (!decide ((6 : Int) < m.length) && !decide ((60 : Int) < lenW m 0)))
noncomputable def PPF52 : FuncId → Option (List AV → Option AV) := addPrim 44 p44 (addPrim 41 p41 (fun _ => none))
theorem primsF52 : PrimsOk NC PPF52 := primsOk_add (primsOk_add (primsOk_none) (by kernel_rfl) (by kernel_rfl) pok41) (by kernel_rfl) (by kernel_rfl) pok44
theorem enF52_41 : En PPF52 41 p41 := enter_prim (by rfl) (by kernel_rfl)
theorem enF52_44 : En PPF52 44 p44 := enter_prim (by rfl) (by kernel_rfl)
attribute [go_sem ↓] enF52_41 enF52_44
theorem c52 (m : List Mv) (hp : m.length ≤ 9223372036854775807) : ∀ lo H, CallOk NC lo 52 [.ps .unk (m.map Mv.row)] H (.bool (tinyB m)) H := by
  refine contract saneNC primsF52 (fn := Tryz.f52) (by kernel_rfl) Tryz.func52 rfl rfl (by rfl) (by first | rfl | (split <;> first | rfl | (split <;> rfl))) ?_
  have e41 := pe41 m hp
  have e44 := fun h => pe44 m h
  have hsm := fun h => (shortM_few (m := m) h).1
  unfold tinyB
  generalize shortM m = S at e41 hsm ⊢
  generalize mapR m = E at e44 ⊢
  cases S with
  | false => simp only [go_sem, reduceIte, Nat.reduceEqDiff, Nat.reduceAdd, Nat.reduceMul, Nat.reduceSub, Nat.reduceLeDiff, Nat.reduceLT, Nat.reduceBEq, reduceCtorEq, e41]
  | true =>
    have hp : m.length ≤ maxRows := by have := hsm rfl; unfold maxRows; omega
    have e44 := e44 hp
    rcases Classical.propComplete (E = 0) with z | z
    case inr => simp only [go_sem, reduceIte, Nat.reduceEqDiff, Nat.reduceAdd, Nat.reduceMul, Nat.reduceSub, Nat.reduceLeDiff, Nat.reduceLT, Nat.reduceBEq, reduceCtorEq, e41, e44, z]
    rcases Classical.propComplete ((6 : Int) < m.length) with q | q
    case inl => simp only [go_sem, reduceIte, Nat.reduceEqDiff, Nat.reduceAdd, Nat.reduceMul, Nat.reduceSub, Nat.reduceLeDiff, Nat.reduceLT, Nat.reduceBEq, reduceCtorEq, e41, e44, z, List.length_map, q]
    simp only [go_sem, reduceIte, Nat.reduceEqDiff, Nat.reduceAdd, Nat.reduceMul, Nat.reduceSub, Nat.reduceLeDiff, Nat.reduceLT, Nat.reduceBEq, reduceCtorEq, e41, e44, z, List.length_map, q]
    refine W_for (fun k T H M => M = [] ∧ getT T 0 = .ps .unk (m.map Mv.row) ∧ getT T 4 = i64 k ∧ ∃ s, getT T 3 = i64 s ∧ lenW m 0 = lenW (m.drop k) s) m.length ?_ ?_ ?_
    · simp only [go_sem, reduceIte, Nat.reduceEqDiff, Nat.reduceAdd, Nat.reduceMul, Nat.reduceSub, Nat.reduceLeDiff, Nat.reduceLT, Nat.reduceBEq, reduceCtorEq]; exact ⟨0, rfl, rfl⟩
    · rintro k T H M hk ⟨rfl, g0, g4, s, g3, hs⟩
      obtain ⟨x, hx⟩ : ∃ p, m[k]? = some p := ⟨m[k], by simp⟩
      have hr := map_at (f := Mv.row) hx
      have hw := wrap_succ hk hp
      rw [drop_at hx] at hs
      obtain ⟨a1, a2, a3, a4, a5, a6⟩ := x
      simp only [Mv.row] at hr
      simp only [go_sem, reduceIte, Nat.reduceEqDiff, Nat.reduceAdd, Nat.reduceMul, Nat.reduceSub, Nat.reduceLeDiff, Nat.reduceLT, Nat.reduceBEq, reduceCtorEq, g0, g4, g3, List.length_map, hk, hr, hw]
      exact ⟨_, rfl, hs⟩
    · rintro T H M ⟨rfl, g0, g4, s, g3, hs⟩
      rw [List.drop_length] at hs
      have hs : lenW m 0 = s := hs
      simp only [go_sem, reduceIte, Nat.reduceEqDiff, Nat.reduceAdd, Nat.reduceMul, Nat.reduceSub, Nat.reduceLeDiff, Nat.reduceLT, Nat.reduceBEq, reduceCtorEq, g0, g4, g3, List.length_map, Nat.lt_irrefl, hs, z, q]
noncomputable def p52 : List AV → Option AV := primOf (α := (List Mv)) (fun x => [.ps .unk (x.map Mv.row)]) (fun x => x.length ≤ 9223372036854775807) (fun x => .bool (tinyB x))
theorem pok52 : ∀ args v, p52 args = some v → ∀ lo H, CallOk NC lo 52 args H v H := by
  intro args v h
  obtain ⟨x, rfl, hp, rfl⟩ := primOf_inv h
  exact c52 x hp
theorem pe52 (m : List Mv) (hp : m.length ≤ 9223372036854775807) : p52 [.ps .unk (m.map Mv.row)] = some (.bool (tinyB m)) := primOf_enc (α := (List Mv)) (enc := fun x => [.ps .unk (x.map Mv.row)]) (pre := fun x => x.length ≤ 9223372036854775807) (spec := fun x => .bool (tinyB x)) (by intro x y h; (simp only [List.cons.injEq, AV.agg.injEq, AV.str.injEq, AV.int.injEq, AV.ps.injEq, AV.bool.injEq, Net.cells_iff, Ln.row_iff, Pc.row_iff, Mv.row_iff, lns_iff, pcs_iff, mvs_iff, true_and, and_true] at h; first | simpa only [Prod.ext_iff] using h | simpa only [Prod.ext_iff, and_assoc] using h)) m hp
end Go.Sim

/-
The plain law of maps that undo maps and of composed ones, as the statement asks it.
-/
namespace Go.Sim
open Go
/-! ### Words of valid maps are short -/
theorem name_len {s : List Nat} (h : nameB s = true) : s.length ≤ 24 := by
  cases s with
  | nil => cases h
  | cons c r =>
    unfold nameB at h
    simp only [Bool.and_eq_true, decide_eq_true_eq] at h
    exact h.1.1
theorem map_ok {m : List Mv} (h : mapR m = 0) (hl : m.length ≤ maxRows) : MapOk m := by
  refine ⟨hl, fun x hx => ?_⟩
  have g := map_good h hx
  have := name_len g.line
  have := name_len g.other
  unfold maxRows; omega
theorem carried_O {m : List Mv} (h : mapR m = 0) {p : Pl} (hn : nameB p.1 = true) (h0 : 0 ≤ p.2) (h1 : p.2 ≤ 800000) : carriedP m p.1 p.2 = match carO m p with
    | none => [noPlace, i64 7]
    | some q => [.agg [.str q.1, i64 q.2], i64 0] := by
  have he : firstI [mapP m, whenI (!nameB p.1) 8, rangeI p.2 0 800000] = 0 := by
    rw [map_same, h, hn, range_in h0 h1]; rfl
  unfold carriedP carO
  simp only [he, if_true]
  cases m.find? (hitMv p.1 p.2) with
  | none => rfl
  | some x => rfl
/-! ### Few metres -/
theorem sumL_cons (x : Mv) (r : List Mv) : sumL (x :: r) = x.len + sumL r := by unfold sumL; rw [List.map_cons, List.sum_cons]
theorem sumL_nonneg {m : List Mv} (h : ∀ x ∈ m, 0 ≤ x.len) : 0 ≤ sumL m := by
  have := flat_len h
  omega
theorem lenW_sum : ∀ {m : List Mv} {s : Int}, (∀ x ∈ m, x.Good) → 0 ≤ s → s + m.length * 800000 ≤ 9223372036854775807 → lenW m s = s + sumL m
  | [], s, _, _, _ => by simp [lenW, sumL]
  | x :: r, s, hg, h0, h1 => by
    have g := hg x (by simp)
    have := g.len; have := g.fr; have := g.frl
    have e : Int.add s x.len = s + x.len := rfl
    simp only [List.length_cons] at h1
    have hw : wrapq .i64 (Int.add s x.len) = s + x.len := by rw [e]; exact wrapq_i64 (by omega) (by omega)
    show lenW r (wrapq .i64 (Int.add s x.len)) = _
    rw [hw, lenW_sum (fun y hy => hg y (by simp [hy])) (by omega) (by omega), sumL_cons]; omega
structure Tny (m : List Mv) : Prop where
  valid : mapR m = 0
  few : m.length ≤ 6
  sum : sumL m ≤ 60
theorem tiny_of {m : List Mv} (h : tinyB m = true) : Tny m := by
  unfold tinyB at h
  simp only [Bool.and_eq_true, Bool.not_eq_true', decide_eq_true_eq, decide_eq_false_iff_not] at h
  obtain ⟨_, h1, h2, h3⟩ := h
  have hl : m.length ≤ 6 := by omega
  refine ⟨h1, hl, ?_⟩
  rw [lenW_sum (fun x hx => map_good h1 hx) (by omega) (by omega)] at h3
  omega
theorem Tny.fair {m : List Mv} (h : Tny m) : Fair m := fair_of h.valid
theorem Tny.len {m : List Mv} (h : Tny m) {x : Mv} (hx : x ∈ m) : 1 ≤ x.len ∧ x.len ≤ 60 := by
  have h1 := len_sum (fun y hy => by have := (map_good h.valid hy).len; omega) hx
  have := (map_good h.valid hx).len
  have := h.sum
  omega
/-! ### What the statement asks -/
theorem carO_mv {a : List Mv} (h : Fair a) {x : Mv} (hx : x ∈ a) {k : Nat} (hk : (k : Int) < x.len) : carO a (x.line, x.fr + k) = some (x.other, x.dst k) := by
  rw [carO_iff h]
  refine ⟨x, hx, rfl, by show x.fr ≤ x.fr + (k : Int); omega, by show x.fr + (k : Int) < _; omega, ?_⟩
  have : x.fr + (k : Int) - x.fr = k := by omega
  show _ = (x.other, x.dst (x.fr + (k : Int) - x.fr))
  rw [this]
structure Undo (a b : List Mv) : Prop where
  ua : mapR (undoM a) = 0
  sa : mapR (shortM' a) = 0
  ca : mapR (compM a b) = 0
  na : mapR (compM a (undoM a)) = 0
  ul : (undoM a).length ≤ 6
  sl : (shortM' a).length ≤ 6
  cl : (compM a b).length ≤ 12
  nl : (compM a (undoM a)).length ≤ 12
  twice : undoM (undoM a) = shortM' a
  us : sumL (undoM a) = sumL a
  ss : sumL (shortM' a) = sumL a
  cs : sumL (compM a b) ≤ 60
theorem undo_all {a b : List Mv} (ha : Tny a) (hb : Tny b) : Undo a b := by
  have fa := ha.fair
  have fb := hb.fair
  have la := ha.few
  have lb := hb.few
  have ul := undoM_len fa
  have sl := shortM_len fa.good
  have ua := undoM_valid fa (by omega)
  have fu := fair_of ua
  have cl := compM_len fa fb
  have nl := compM_len fa fu
  have cs := comp_sum fa fb (by omega)
  have := ha.sum
  exact ⟨ua, shortM_valid fa (by omega), compM_valid fa fb (by omega), compM_valid fa fu (by omega), by omega, by omega, by omega, by omega, undo_twice fa (by omega), undo_sum fa (by omega), short_sum fa (by omega), by omega⟩
theorem undo_metre {a b : List Mv} (ha : Tny a) (hb : Tny b) {x : Mv} (hx : x ∈ a) {k : Nat} (hk : (k : Int) < x.len) :
    carO a (x.line, x.fr + k) = some (x.other, x.dst k) ∧ carO (shortM' a) (x.line, x.fr + k) = some (x.other, x.dst k) ∧ carO (undoM a) (x.other, x.dst k) = some (x.line, x.fr + k) ∧
      carO (compM a (undoM a)) (x.line, x.fr + k) = some (x.line, x.fr + k) ∧ carO (compM a b) (x.line, x.fr + k) = carO b (x.other, x.dst k) ∧ x.to ≤ x.dst k ∧ x.dst k < x.to + x.len := by
  have fa := ha.fair
  have fb := hb.fair
  have la := ha.few
  have lb := hb.few
  have ul := undoM_len fa
  have fu := fair_of (undoM_valid fa (by omega))
  have h1 := carO_mv fa hx hk
  have h3 : carO (undoM a) (x.other, x.dst k) = some (x.line, x.fr + k) := (undo_car fa (by omega)).2 h1
  refine ⟨h1, by rw [short_car fa (by omega)]; exact h1, h3, ?_, ?_, ?_⟩
  · rw [comp_car fa fu (by omega), h1]; exact h3
  · rw [comp_car fa fb (by omega), h1]; rfl
  · unfold Mv.dst; split <;> omega
theorem comp_metre {a b : List Mv} (ha : Tny a) (hb : Tny b) {x : Mv} (hx : x ∈ compM a b) {k : Nat} (hk : (k : Int) < x.len) : ∃ q, carO a (x.line, x.fr + k) = some q := by
  have fa := ha.fair
  have fb := hb.fair
  have la := ha.few
  have lb := hb.few
  have h := carO_mv (fair_of (compM_valid fa fb (by omega))) hx hk
  rw [comp_car fa fb (by omega)] at h
  obtain ⟨q, hq, _⟩ := Option.bind_eq_some_iff.1 h
  exact ⟨q, hq⟩
end Go.Sim

/-
The law: NetworkUndoes returns true.
-/
namespace Go.Sim
open Go Go.Proofs
set_option maxRecDepth 100000
set_option maxHeartbeats 64000000
theorem equ_05 (a : Nat) : (a = a + 1 + 1 + 1 + 1 + 1) = False := by simp only [eq_iff_iff, iff_false]; omega
theorem ltu_05 (a : Nat) : (a < a + 1 + 1 + 1 + 1 + 1) = True := by simp only [eq_iff_iff, iff_true]; omega
theorem equ_06 (a : Nat) : (a = a + 1 + 1 + 1 + 1 + 1 + 1) = False := by simp only [eq_iff_iff, iff_false]; omega
theorem ltu_06 (a : Nat) : (a < a + 1 + 1 + 1 + 1 + 1 + 1) = True := by simp only [eq_iff_iff, iff_true]; omega
theorem equ_07 (a : Nat) : (a = a + 1 + 1 + 1 + 1 + 1 + 1 + 1) = False := by simp only [eq_iff_iff, iff_false]; omega
theorem ltu_07 (a : Nat) : (a < a + 1 + 1 + 1 + 1 + 1 + 1 + 1) = True := by simp only [eq_iff_iff, iff_true]; omega
theorem equ_08 (a : Nat) : (a = a + 1 + 1 + 1 + 1 + 1 + 1 + 1 + 1) = False := by simp only [eq_iff_iff, iff_false]; omega
theorem ltu_08 (a : Nat) : (a < a + 1 + 1 + 1 + 1 + 1 + 1 + 1 + 1) = True := by simp only [eq_iff_iff, iff_true]; omega
theorem equ_15 (a : Nat) : (a + 1 = a + 1 + 1 + 1 + 1 + 1) = False := by simp only [eq_iff_iff, iff_false]; omega
theorem ltu_15 (a : Nat) : (a + 1 < a + 1 + 1 + 1 + 1 + 1) = True := by simp only [eq_iff_iff, iff_true]; omega
theorem equ_16 (a : Nat) : (a + 1 = a + 1 + 1 + 1 + 1 + 1 + 1) = False := by simp only [eq_iff_iff, iff_false]; omega
theorem ltu_16 (a : Nat) : (a + 1 < a + 1 + 1 + 1 + 1 + 1 + 1) = True := by simp only [eq_iff_iff, iff_true]; omega
theorem equ_17 (a : Nat) : (a + 1 = a + 1 + 1 + 1 + 1 + 1 + 1 + 1) = False := by simp only [eq_iff_iff, iff_false]; omega
theorem ltu_17 (a : Nat) : (a + 1 < a + 1 + 1 + 1 + 1 + 1 + 1 + 1) = True := by simp only [eq_iff_iff, iff_true]; omega
theorem equ_18 (a : Nat) : (a + 1 = a + 1 + 1 + 1 + 1 + 1 + 1 + 1 + 1) = False := by simp only [eq_iff_iff, iff_false]; omega
theorem ltu_18 (a : Nat) : (a + 1 < a + 1 + 1 + 1 + 1 + 1 + 1 + 1 + 1) = True := by simp only [eq_iff_iff, iff_true]; omega
theorem equ_25 (a : Nat) : (a + 1 + 1 = a + 1 + 1 + 1 + 1 + 1) = False := by simp only [eq_iff_iff, iff_false]; omega
theorem ltu_25 (a : Nat) : (a + 1 + 1 < a + 1 + 1 + 1 + 1 + 1) = True := by simp only [eq_iff_iff, iff_true]; omega
theorem equ_26 (a : Nat) : (a + 1 + 1 = a + 1 + 1 + 1 + 1 + 1 + 1) = False := by simp only [eq_iff_iff, iff_false]; omega
theorem ltu_26 (a : Nat) : (a + 1 + 1 < a + 1 + 1 + 1 + 1 + 1 + 1) = True := by simp only [eq_iff_iff, iff_true]; omega
theorem equ_27 (a : Nat) : (a + 1 + 1 = a + 1 + 1 + 1 + 1 + 1 + 1 + 1) = False := by simp only [eq_iff_iff, iff_false]; omega
theorem ltu_27 (a : Nat) : (a + 1 + 1 < a + 1 + 1 + 1 + 1 + 1 + 1 + 1) = True := by simp only [eq_iff_iff, iff_true]; omega
theorem equ_28 (a : Nat) : (a + 1 + 1 = a + 1 + 1 + 1 + 1 + 1 + 1 + 1 + 1) = False := by simp only [eq_iff_iff, iff_false]; omega
theorem ltu_28 (a : Nat) : (a + 1 + 1 < a + 1 + 1 + 1 + 1 + 1 + 1 + 1 + 1) = True := by simp only [eq_iff_iff, iff_true]; omega
theorem equ_35 (a : Nat) : (a + 1 + 1 + 1 = a + 1 + 1 + 1 + 1 + 1) = False := by simp only [eq_iff_iff, iff_false]; omega
theorem ltu_35 (a : Nat) : (a + 1 + 1 + 1 < a + 1 + 1 + 1 + 1 + 1) = True := by simp only [eq_iff_iff, iff_true]; omega
theorem equ_36 (a : Nat) : (a + 1 + 1 + 1 = a + 1 + 1 + 1 + 1 + 1 + 1) = False := by simp only [eq_iff_iff, iff_false]; omega
theorem ltu_36 (a : Nat) : (a + 1 + 1 + 1 < a + 1 + 1 + 1 + 1 + 1 + 1) = True := by simp only [eq_iff_iff, iff_true]; omega
theorem equ_37 (a : Nat) : (a + 1 + 1 + 1 = a + 1 + 1 + 1 + 1 + 1 + 1 + 1) = False := by simp only [eq_iff_iff, iff_false]; omega
theorem ltu_37 (a : Nat) : (a + 1 + 1 + 1 < a + 1 + 1 + 1 + 1 + 1 + 1 + 1) = True := by simp only [eq_iff_iff, iff_true]; omega
theorem equ_38 (a : Nat) : (a + 1 + 1 + 1 = a + 1 + 1 + 1 + 1 + 1 + 1 + 1 + 1) = False := by simp only [eq_iff_iff, iff_false]; omega
theorem ltu_38 (a : Nat) : (a + 1 + 1 + 1 < a + 1 + 1 + 1 + 1 + 1 + 1 + 1 + 1) = True := by simp only [eq_iff_iff, iff_true]; omega
theorem equ_45 (a : Nat) : (a + 1 + 1 + 1 + 1 = a + 1 + 1 + 1 + 1 + 1) = False := by simp only [eq_iff_iff, iff_false]; omega
theorem ltu_45 (a : Nat) : (a + 1 + 1 + 1 + 1 < a + 1 + 1 + 1 + 1 + 1) = True := by simp only [eq_iff_iff, iff_true]; omega
theorem equ_46 (a : Nat) : (a + 1 + 1 + 1 + 1 = a + 1 + 1 + 1 + 1 + 1 + 1) = False := by simp only [eq_iff_iff, iff_false]; omega
theorem ltu_46 (a : Nat) : (a + 1 + 1 + 1 + 1 < a + 1 + 1 + 1 + 1 + 1 + 1) = True := by simp only [eq_iff_iff, iff_true]; omega
theorem equ_47 (a : Nat) : (a + 1 + 1 + 1 + 1 = a + 1 + 1 + 1 + 1 + 1 + 1 + 1) = False := by simp only [eq_iff_iff, iff_false]; omega
theorem ltu_47 (a : Nat) : (a + 1 + 1 + 1 + 1 < a + 1 + 1 + 1 + 1 + 1 + 1 + 1) = True := by simp only [eq_iff_iff, iff_true]; omega
theorem equ_48 (a : Nat) : (a + 1 + 1 + 1 + 1 = a + 1 + 1 + 1 + 1 + 1 + 1 + 1 + 1) = False := by simp only [eq_iff_iff, iff_false]; omega
theorem ltu_48 (a : Nat) : (a + 1 + 1 + 1 + 1 < a + 1 + 1 + 1 + 1 + 1 + 1 + 1 + 1) = True := by simp only [eq_iff_iff, iff_true]; omega
theorem equ_50 (a : Nat) : (a + 1 + 1 + 1 + 1 + 1 = a) = False := by simp only [eq_iff_iff, iff_false]; omega
theorem equ_51 (a : Nat) : (a + 1 + 1 + 1 + 1 + 1 = a + 1) = False := by simp only [eq_iff_iff, iff_false]; omega
theorem equ_52 (a : Nat) : (a + 1 + 1 + 1 + 1 + 1 = a + 1 + 1) = False := by simp only [eq_iff_iff, iff_false]; omega
theorem equ_53 (a : Nat) : (a + 1 + 1 + 1 + 1 + 1 = a + 1 + 1 + 1) = False := by simp only [eq_iff_iff, iff_false]; omega
theorem equ_54 (a : Nat) : (a + 1 + 1 + 1 + 1 + 1 = a + 1 + 1 + 1 + 1) = False := by simp only [eq_iff_iff, iff_false]; omega
theorem equ_56 (a : Nat) : (a + 1 + 1 + 1 + 1 + 1 = a + 1 + 1 + 1 + 1 + 1 + 1) = False := by simp only [eq_iff_iff, iff_false]; omega
theorem ltu_56 (a : Nat) : (a + 1 + 1 + 1 + 1 + 1 < a + 1 + 1 + 1 + 1 + 1 + 1) = True := by simp only [eq_iff_iff, iff_true]; omega
theorem equ_57 (a : Nat) : (a + 1 + 1 + 1 + 1 + 1 = a + 1 + 1 + 1 + 1 + 1 + 1 + 1) = False := by simp only [eq_iff_iff, iff_false]; omega
theorem ltu_57 (a : Nat) : (a + 1 + 1 + 1 + 1 + 1 < a + 1 + 1 + 1 + 1 + 1 + 1 + 1) = True := by simp only [eq_iff_iff, iff_true]; omega
theorem equ_58 (a : Nat) : (a + 1 + 1 + 1 + 1 + 1 = a + 1 + 1 + 1 + 1 + 1 + 1 + 1 + 1) = False := by simp only [eq_iff_iff, iff_false]; omega
theorem ltu_58 (a : Nat) : (a + 1 + 1 + 1 + 1 + 1 < a + 1 + 1 + 1 + 1 + 1 + 1 + 1 + 1) = True := by simp only [eq_iff_iff, iff_true]; omega
theorem equ_60 (a : Nat) : (a + 1 + 1 + 1 + 1 + 1 + 1 = a) = False := by simp only [eq_iff_iff, iff_false]; omega
theorem equ_61 (a : Nat) : (a + 1 + 1 + 1 + 1 + 1 + 1 = a + 1) = False := by simp only [eq_iff_iff, iff_false]; omega
theorem equ_62 (a : Nat) : (a + 1 + 1 + 1 + 1 + 1 + 1 = a + 1 + 1) = False := by simp only [eq_iff_iff, iff_false]; omega
theorem equ_63 (a : Nat) : (a + 1 + 1 + 1 + 1 + 1 + 1 = a + 1 + 1 + 1) = False := by simp only [eq_iff_iff, iff_false]; omega
theorem equ_64 (a : Nat) : (a + 1 + 1 + 1 + 1 + 1 + 1 = a + 1 + 1 + 1 + 1) = False := by simp only [eq_iff_iff, iff_false]; omega
theorem equ_65 (a : Nat) : (a + 1 + 1 + 1 + 1 + 1 + 1 = a + 1 + 1 + 1 + 1 + 1) = False := by simp only [eq_iff_iff, iff_false]; omega
theorem equ_67 (a : Nat) : (a + 1 + 1 + 1 + 1 + 1 + 1 = a + 1 + 1 + 1 + 1 + 1 + 1 + 1) = False := by simp only [eq_iff_iff, iff_false]; omega
theorem ltu_67 (a : Nat) : (a + 1 + 1 + 1 + 1 + 1 + 1 < a + 1 + 1 + 1 + 1 + 1 + 1 + 1) = True := by simp only [eq_iff_iff, iff_true]; omega
theorem equ_68 (a : Nat) : (a + 1 + 1 + 1 + 1 + 1 + 1 = a + 1 + 1 + 1 + 1 + 1 + 1 + 1 + 1) = False := by simp only [eq_iff_iff, iff_false]; omega
theorem ltu_68 (a : Nat) : (a + 1 + 1 + 1 + 1 + 1 + 1 < a + 1 + 1 + 1 + 1 + 1 + 1 + 1 + 1) = True := by simp only [eq_iff_iff, iff_true]; omega
theorem equ_70 (a : Nat) : (a + 1 + 1 + 1 + 1 + 1 + 1 + 1 = a) = False := by simp only [eq_iff_iff, iff_false]; omega
theorem equ_71 (a : Nat) : (a + 1 + 1 + 1 + 1 + 1 + 1 + 1 = a + 1) = False := by simp only [eq_iff_iff, iff_false]; omega
theorem equ_72 (a : Nat) : (a + 1 + 1 + 1 + 1 + 1 + 1 + 1 = a + 1 + 1) = False := by simp only [eq_iff_iff, iff_false]; omega
theorem equ_73 (a : Nat) : (a + 1 + 1 + 1 + 1 + 1 + 1 + 1 = a + 1 + 1 + 1) = False := by simp only [eq_iff_iff, iff_false]; omega
theorem equ_74 (a : Nat) : (a + 1 + 1 + 1 + 1 + 1 + 1 + 1 = a + 1 + 1 + 1 + 1) = False := by simp only [eq_iff_iff, iff_false]; omega
theorem equ_75 (a : Nat) : (a + 1 + 1 + 1 + 1 + 1 + 1 + 1 = a + 1 + 1 + 1 + 1 + 1) = False := by simp only [eq_iff_iff, iff_false]; omega
theorem equ_76 (a : Nat) : (a + 1 + 1 + 1 + 1 + 1 + 1 + 1 = a + 1 + 1 + 1 + 1 + 1 + 1) = False := by simp only [eq_iff_iff, iff_false]; omega
theorem equ_78 (a : Nat) : (a + 1 + 1 + 1 + 1 + 1 + 1 + 1 = a + 1 + 1 + 1 + 1 + 1 + 1 + 1 + 1) = False := by simp only [eq_iff_iff, iff_false]; omega
theorem ltu_78 (a : Nat) : (a + 1 + 1 + 1 + 1 + 1 + 1 + 1 < a + 1 + 1 + 1 + 1 + 1 + 1 + 1 + 1) = True := by simp only [eq_iff_iff, iff_true]; omega
theorem equ_80 (a : Nat) : (a + 1 + 1 + 1 + 1 + 1 + 1 + 1 + 1 = a) = False := by simp only [eq_iff_iff, iff_false]; omega
theorem equ_81 (a : Nat) : (a + 1 + 1 + 1 + 1 + 1 + 1 + 1 + 1 = a + 1) = False := by simp only [eq_iff_iff, iff_false]; omega
theorem equ_82 (a : Nat) : (a + 1 + 1 + 1 + 1 + 1 + 1 + 1 + 1 = a + 1 + 1) = False := by simp only [eq_iff_iff, iff_false]; omega
theorem equ_83 (a : Nat) : (a + 1 + 1 + 1 + 1 + 1 + 1 + 1 + 1 = a + 1 + 1 + 1) = False := by simp only [eq_iff_iff, iff_false]; omega
theorem equ_84 (a : Nat) : (a + 1 + 1 + 1 + 1 + 1 + 1 + 1 + 1 = a + 1 + 1 + 1 + 1) = False := by simp only [eq_iff_iff, iff_false]; omega
theorem equ_85 (a : Nat) : (a + 1 + 1 + 1 + 1 + 1 + 1 + 1 + 1 = a + 1 + 1 + 1 + 1 + 1) = False := by simp only [eq_iff_iff, iff_false]; omega
theorem equ_86 (a : Nat) : (a + 1 + 1 + 1 + 1 + 1 + 1 + 1 + 1 = a + 1 + 1 + 1 + 1 + 1 + 1) = False := by simp only [eq_iff_iff, iff_false]; omega
theorem equ_87 (a : Nat) : (a + 1 + 1 + 1 + 1 + 1 + 1 + 1 + 1 = a + 1 + 1 + 1 + 1 + 1 + 1 + 1) = False := by simp only [eq_iff_iff, iff_false]; omega
attribute [go_sem] equ_05 ltu_05 equ_06 ltu_06 equ_07 ltu_07 equ_08 ltu_08 equ_15 ltu_15 equ_16 ltu_16
attribute [go_sem] equ_17 ltu_17 equ_18 ltu_18 equ_25 ltu_25 equ_26 ltu_26 equ_27 ltu_27 equ_28 ltu_28
attribute [go_sem] equ_35 ltu_35 equ_36 ltu_36 equ_37 ltu_37 equ_38 ltu_38 equ_45 ltu_45 equ_46 ltu_46
attribute [go_sem] equ_47 ltu_47 equ_48 ltu_48 equ_50 equ_51 equ_52 equ_53 equ_54 equ_56 ltu_56 equ_57
attribute [go_sem] ltu_57 equ_58 ltu_58 equ_60 equ_61 equ_62 equ_63 equ_64 equ_65 equ_67 ltu_67 equ_68
attribute [go_sem] ltu_68 equ_70 equ_71 equ_72 equ_73 equ_74 equ_75 equ_76 equ_78 ltu_78 equ_80 equ_81
attribute [go_sem] equ_82 equ_83 equ_84 equ_85 equ_86 equ_87
theorem aeq45 (a : List Nat) (b : Int) : aeqT NC.P 100 45 (.agg [.str a, .int .i64 b]) (.agg [.str a, .int .i64 b]) = some true := by
  have h : aeqT NC.P 100 45 (.agg [.str a, .int .i64 b]) (.agg [.str a, .int .i64 b]) =
    (match some (beqL a a) with
    | some true => (match some (eqI b b) with
      | some true => some true
      | some false => some false
      | none => none)
    | some false => some false
    | none => none) := by kernel_rfl
  rw [h, beqL_self, eqI_self]
theorem ety45 : eqType NC.P 100 45 = true := by kernel_rfl
theorem sumL_take {a : List Mv} {k : Nat} {x : Mv} (h : a[k]? = some x) : sumL (a.take (k + 1)) = sumL (a.take k) + x.len := by
  rw [List.take_add_one, h]
  unfold sumL
  simp
theorem sumL_part {a : List Mv} (h : ∀ x ∈ a, 0 ≤ x.len) (k : Nat) : 0 ≤ sumL (a.take k) ∧ sumL (a.take k) ≤ sumL a := by
  have h1 : sumL a = sumL (a.take k) + sumL (a.drop k) := by
    have : a = a.take k ++ a.drop k := (List.take_append_drop k a).symm
    unfold sumL
    conv => lhs; rw [this, List.map_append, List.sum_append]
  have h2 := sumL_nonneg (m := a.take k) fun x hx => h x (List.mem_of_mem_take hx)
  have h3 := sumL_nonneg (m := a.drop k) fun x hx => h x (List.mem_of_mem_drop hx)
  omega
theorem p42_O {m : List Mv} (h : mapR m = 0) (hl : m.length ≤ maxRows) {s : List Nat} {i : Int} (hn : nameB s = true) (h0 : 0 ≤ i) (h1 : i ≤ 800000) : p42 [.ps .unk (m.map Mv.row), .agg [.str s, .int .i64 i]] = some (.tup (match carO m (s, i) with
    | none => [noPlace, i64 7]
    | some q => [.agg [.str q.1, i64 q.2], i64 0])) := by
  have := pe42 m s i ⟨map_ok h hl, by have := name_len hn; unfold maxRows; omega⟩
  rw [carried_O h (p := (s, i)) hn h0 h1] at this
  exact this
noncomputable def PPF9 : FuncId → Option (List AV → Option AV) := addPrim 42 p42 (addPrim 60 p60 (addPrim 44 p44 (addPrim 61 p61 (addPrim 55 p55 (addPrim 53 p53 (addPrim 54 p54 (addPrim 43 p43 (addPrim 52 p52 (addPrim 16 p16 (fun _ => none))))))))))
theorem primsF9 : PrimsOk NC PPF9 := primsOk_add (primsOk_add (primsOk_add (primsOk_add (primsOk_add (primsOk_add (primsOk_add (primsOk_add (primsOk_add (primsOk_add (primsOk_none) (by kernel_rfl) (by kernel_rfl) pok16) (by kernel_rfl) (by kernel_rfl) pok52) (by kernel_rfl) (by kernel_rfl) pok43) (by kernel_rfl) (by kernel_rfl) pok54) (by kernel_rfl) (by kernel_rfl) pok53) (by kernel_rfl) (by kernel_rfl) pok55) (by kernel_rfl) (by kernel_rfl) pok61) (by kernel_rfl) (by kernel_rfl) pok44) (by kernel_rfl) (by kernel_rfl) pok60) (by kernel_rfl) (by kernel_rfl) pok42
theorem enF9_16 : En PPF9 16 p16 := enter_prim (by rfl) (by kernel_rfl)
theorem enF9_52 : En PPF9 52 p52 := enter_prim (by rfl) (by kernel_rfl)
theorem enF9_43 : En PPF9 43 p43 := enter_prim (by rfl) (by kernel_rfl)
theorem enF9_54 : En PPF9 54 p54 := enter_prim (by rfl) (by kernel_rfl)
theorem enF9_53 : En PPF9 53 p53 := enter_prim (by rfl) (by kernel_rfl)
theorem enF9_55 : En PPF9 55 p55 := enter_prim (by rfl) (by kernel_rfl)
theorem enF9_61 : En PPF9 61 p61 := enter_prim (by rfl) (by kernel_rfl)
theorem enF9_44 : En PPF9 44 p44 := enter_prim (by rfl) (by kernel_rfl)
theorem enF9_60 : En PPF9 60 p60 := enter_prim (by rfl) (by kernel_rfl)
theorem enF9_42 : En PPF9 42 p42 := enter_prim (by rfl) (by kernel_rfl)
attribute [go_sem ↓] enF9_16 enF9_52 enF9_43 enF9_54 enF9_53 enF9_55 enF9_61 enF9_44 enF9_60 enF9_42
theorem c9 (a b : List Mv) (hla : a.length ≤ 9223372036854775807) (hlb : b.length ≤ 9223372036854775807) : ∀ lo H, CallOk NC lo 9 [.ps .unk (a.map Mv.row), .ps .unk (b.map Mv.row)] H (.bool true) H := by
  refine contract saneNC primsF9 (fn := Tryz.f9) (by kernel_rfl) Tryz.func9 rfl rfl (by rfl) (by rfl) ?_
  have e52a := pe52 a hla
  have e52b := pe52 b hlb
  cases tA : tinyB a with
  | false =>
    rw [tA] at e52a
    simp only [go_sem, reduceIte, Nat.reduceEqDiff, Nat.reduceAdd, Nat.reduceMul, Nat.reduceSub, Nat.reduceLeDiff, Nat.reduceLT, Nat.reduceBEq, reduceCtorEq, e16, e52a]
  | true =>
  cases tB : tinyB b with
  | false =>
    rw [tA] at e52a
    rw [tB] at e52b
    simp only [go_sem, reduceIte, Nat.reduceEqDiff, Nat.reduceAdd, Nat.reduceMul, Nat.reduceSub, Nat.reduceLeDiff, Nat.reduceLT, Nat.reduceBEq, reduceCtorEq, e16, e52a, e52b]
  | true =>
  rw [tA] at e52a
  rw [tB] at e52b
  have Ta := tiny_of tA
  have Tb := tiny_of tB
  have U := undo_all Ta Tb
  have la := Ta.few
  have lb := Tb.few
  have many : ∀ n : Nat, n ≤ 12 → n ≤ maxRows := fun n h => by unfold maxRows; omega
  have many2 : ∀ n : Nat, n ≤ 60 → n ≤ maxRows := fun n h => by unfold maxRows; omega
  have e43 : ∀ m : List Mv, m.length ≤ 12 → p43 [.ps .unk (m.map Mv.row)] = some (.ps .unk (m.map Mv.row)) := fun m h => pe43 m (many _ h)
  have e61 : ∀ m : List Mv, m.length ≤ 12 → p61 [.ps .unk (m.map Mv.row)] = some (.ps .unk (m.map Mv.row)) := fun m h => pe61 m (many _ h)
  have e44 : ∀ m : List Mv, m.length ≤ 12 → mapR m = 0 → p44 [.ps .unk (m.map Mv.row)] = some (.int .i64 0) := fun m h h0 => by rw [pe44 m (many _ h), h0]
  have e54 : ∀ m : List Mv, m.length ≤ 6 → mapR m = 0 → p54 [.ps .unk (m.map Mv.row)] = some (.tup [.ps .unk ((undoM m).map Mv.row), .int .i64 0]) := fun m h h0 => by
    rw [pe54 m ⟨map_ok h0 (many _ (by omega)), fun _ => h⟩]; unfold undoP; rw [if_pos h0]
  have e53 : ∀ m : List Mv, m.length ≤ 6 → mapR m = 0 → p53 [.ps .unk (m.map Mv.row)] = some (.tup [.ps .unk ((shortM' m).map Mv.row), .int .i64 0]) := fun m h h0 => by
    rw [pe53 m ⟨map_ok h0 (many _ (by omega)), fun _ => h⟩]; unfold shortP; rw [if_pos h0]
  have e55 : ∀ m m2 : List Mv, m.length ≤ 6 → mapR m = 0 → m2.length ≤ 6 → mapR m2 = 0 → p55 [.ps .unk (m.map Mv.row), .ps .unk (m2.map Mv.row)] = some (.tup [.ps .unk ((compM m m2).map Mv.row), .int .i64 0]) := fun m m2 h h0 k k0 => by
    rw [pe55 m m2 ⟨⟨map_ok h0 (many _ (by omega)), fun _ => h⟩, ⟨map_ok k0 (many _ (by omega)), fun _ => k⟩⟩]; unfold compPP; rw [h0, k0]; rfl
  have e54a := e54 a la Ta.valid
  have e53a := e53 a la Ta.valid
  have e55a := e55 a b la Ta.valid lb Tb.valid
  have e54u := e54 _ U.ul U.ua
  rw [U.twice] at e54u
  have e55u := e55 a _ la Ta.valid U.ul U.ua
  have e60 : p60 [.ps .unk ((shortM' a).map Mv.row), .ps .unk ((shortM' a).map Mv.row)] = some (.bool true) := by
    rw [pe60 _ _ (many _ (by have := U.sl; omega)), (listB_iff mvB_iff).2 rfl]
  have e44u := e44 _ (by have := U.ul; omega) U.ua
  have e44s := e44 _ (by have := U.sl; omega) U.sa
  have e44c := e44 _ U.cl U.ca
  have e43a := e43 a (by omega)
  have e43b := e43 b (by omega)
  have e43u := e43 (undoM a) (by have := U.ul; omega)
  have e43s := e43 (shortM' a) (by have := U.sl; omega)
  have e43c := e43 (compM a b) U.cl
  have e43n := e43 (compM a (undoM a)) U.nl
  have e61u := e61 (undoM a) (by have := U.ul; omega)
  have e61s := e61 (shortM' a) (by have := U.sl; omega)
  have e61c := e61 (compM a b) U.cl
  have e61n := e61 (compM a (undoM a)) U.nl
  clear e43 e61 e44 e54 e53 e55
  have n05 : ((0 : Int) = 5) = False := by simp
  have n00 : ((0 : Int) = 0) = True := by simp
  have n70 : ((7 : Int) = 0) = False := by simp
  have n77 : ((7 : Int) = 7) = True := by simp
  -- what each metre is told
  have hmet : ∀ x ∈ a, ∀ k : Nat, (k : Int) < x.len → p42 [.ps .unk (a.map Mv.row), .agg [.str x.line, .int .i64 (x.fr + k)]] = some (.tup [.agg [.str x.other, i64 (x.dst k)], i64 0]) ∧
      p42 [.ps .unk ((shortM' a).map Mv.row), .agg [.str x.line, .int .i64 (x.fr + k)]] = some (.tup [.agg [.str x.other, i64 (x.dst k)], i64 0]) ∧
      p42 [.ps .unk ((undoM a).map Mv.row), .agg [.str x.other, .int .i64 (x.dst k)]] = some (.tup [.agg [.str x.line, i64 (x.fr + k)], i64 0]) ∧
      p42 [.ps .unk ((compM a (undoM a)).map Mv.row), .agg [.str x.line, .int .i64 (x.fr + k)]] = some (.tup [.agg [.str x.line, i64 (x.fr + k)], i64 0]) ∧
      (∃ r, (r = [noPlace, i64 7] ∨ ∃ t j, r = [.agg [.str t, i64 j], i64 0]) ∧ p42 [.ps .unk (b.map Mv.row), .agg [.str x.other, .int .i64 (x.dst k)]] = some (.tup r) ∧ p42 [.ps .unk ((compM a b).map Mv.row), .agg [.str x.line, .int .i64 (x.fr + k)]] = some (.tup r)) ∧
      (x.dst k < x.to) = False ∧ (x.dst k < wrapq .i64 (Int.add x.to x.len)) = True ∧ wrapq .i64 (Int.add x.fr (k : Int)) = x.fr + k := by
    intro x hx k hk
    have g := map_good Ta.valid hx
    have := g.fr; have := g.len; have := g.frl; have := g.to; have := g.tol
    obtain ⟨m1, m2, m3, m4, m5, m6, m7⟩ := undo_metre Ta Tb hx hk
    have q1 := p42_O Ta.valid (many _ (by omega)) (s := x.line) (i := x.fr + k) g.line (by omega) (by omega)
    have q2 := p42_O U.sa (many _ (by have := U.sl; omega)) (s := x.line) (i := x.fr + k) g.line (by omega) (by omega)
    have q3 := p42_O U.ua (many _ (by have := U.ul; omega)) (s := x.other) (i := x.dst k) g.other (by omega) (by omega)
    have q4 := p42_O U.na (many _ U.nl) (s := x.line) (i := x.fr + k) g.line (by omega) (by omega)
    have q5 := p42_O Tb.valid (many _ (by omega)) (s := x.other) (i := x.dst k) g.other (by omega) (by omega)
    have q6 := p42_O U.ca (many _ U.cl) (s := x.line) (i := x.fr + k) g.line (by omega) (by omega)
    rw [m1] at q1
    rw [m2] at q2
    rw [m3] at q3
    rw [m4] at q4
    rw [m5] at q6
    refine ⟨q1, q2, q3, q4, ⟨_, ?_, q5, q6⟩, ?_, ?_, ?_⟩
    · cases carO b (x.other, x.dst k) with
      | none => exact .inl rfl
      | some q => exact .inr ⟨q.1, q.2, rfl⟩
    · simp only [eq_iff_iff, iff_false]; omega
    · rw [g.till]; simp only [eq_iff_iff, iff_true]; omega
    · have e : Int.add x.fr (k : Int) = x.fr + k := rfl
      rw [e]; exact wrapq_i64 (by omega) (by omega)
  have hcom : ∀ x ∈ compM a b, x.len ≤ 60 ∧ 0 ≤ x.len ∧ ∀ k : Nat, (k : Int) < x.len → ∃ t j, p42 [.ps .unk (a.map Mv.row), .agg [.str x.line, .int .i64 (x.fr + k)]] = some (.tup [.agg [.str t, i64 j], i64 0]) ∧ wrapq .i64 (Int.add x.fr (k : Int)) = x.fr + k := by
    intro x hx
    have g := map_good U.ca hx
    have := g.fr; have := g.len; have := g.frl
    have hl := len_sum (fun y hy => by have := (map_good U.ca hy).len; omega) hx
    have := U.cs
    refine ⟨by omega, by omega, fun k hk => ?_⟩
    obtain ⟨q, hq⟩ := comp_metre Ta Tb hx hk
    have q1 := p42_O Ta.valid (many _ (by omega)) (s := x.line) (i := x.fr + k) g.line (by omega) (by omega)
    rw [hq] at q1
    refine ⟨q.1, q.2, q1, ?_⟩
    have e : Int.add x.fr (k : Int) = x.fr + k := rfl
    rw [e]; exact wrapq_i64 (by omega) (by omega)
  have hal : ∀ x ∈ a, 0 ≤ x.len := fun x hx => by have := (map_good Ta.valid hx).len; omega
  have hul : ∀ x ∈ undoM a, 0 ≤ x.len := fun x hx => by have := (map_good U.ua hx).len; omega
  have hsl : ∀ x ∈ shortM' a, 0 ≤ x.len := fun x hx => by have := (map_good U.sa hx).len; omega
  have hus := U.us
  have hss := U.ss
  have ull := U.ul
  have sll := U.sl
  have cll := U.cl
  have hsum := Ta.sum
  clear U Ta Tb tA tB
  generalize undoM a = u at *
  generalize shortM' a = s at *
  generalize compM a b = c at *
  generalize compM a u = n at *
  simp only [go_sem, reduceIte, Nat.reduceEqDiff, Nat.reduceAdd, Nat.reduceMul, Nat.reduceSub, Nat.reduceLeDiff, Nat.reduceLT, Nat.reduceBEq, reduceCtorEq, e16, e52a, e52b, e43a, e43b, e43u, e54a, e53a, e55a, e54u, e55u, e60, e61u, e61s, e61c, e44u, e44s, e44c, n05, n00]
  refine W_for (fun k T H M => M = [] ∧ getT T 0 = .ps .unk (a.map Mv.row) ∧ getT T 1 = .ps .unk (b.map Mv.row) ∧ getT T 5 = .ps .unk (u.map Mv.row) ∧ getT T 7 = .ps .unk (s.map Mv.row) ∧ getT T 9 = .ps .unk (c.map Mv.row) ∧ getT T 13 = .ps .unk (n.map Mv.row) ∧ getT T 15 = i64 (sumL (a.take k)) ∧ getT T 143 = .ps .unk (a.map Mv.row) ∧ getT T 144 = i64 (a.length : Nat) ∧ getT T 145 = i64 k) a.length ?_ ?_ ?_
  · simp only [go_sem, reduceIte, Nat.reduceEqDiff, Nat.reduceAdd, Nat.reduceMul, Nat.reduceSub, Nat.reduceLeDiff, Nat.reduceLT, Nat.reduceBEq, reduceCtorEq, List.length_map]
    rfl
  · rintro k T H M hk ⟨rfl, g0, g1, g5, g7, g9, g13, g15, g143, g144, g145⟩
    obtain ⟨x, hx⟩ : ∃ p, a[k]? = some p := ⟨a[k], by simp⟩
    have hr := map_at (f := Mv.row) hx
    have hw := wrap_succ hk (many _ (by omega))
    have hst := sumL_take hx
    have hsp := sumL_part hal k
    have hsp1 := sumL_part hal (k + 1)
    have hxm := List.mem_of_getElem? hx
    have hwc : wrapq .i64 (Int.add (sumL (a.take k)) x.len) = sumL (a.take (k + 1)) := by
      have e : Int.add (sumL (a.take k)) x.len = sumL (a.take k) + x.len := rfl
      rw [e, ← hst]; exact wrapq_i64 (by omega) (by omega)
    have hm := hmet x hxm
    obtain ⟨nx, hnx⟩ : ∃ m : Nat, x.len = m := ⟨x.len.toNat, by have := hal x hxm; omega⟩
    have hnl : nx ≤ 60 := by
      have := hal x hxm
      omega
    clear hmet hst hsp hsp1 hxm
    generalize sumL (a.take (k + 1)) = S1 at hwc ⊢
    generalize x.dst = D at hm
    obtain ⟨x1, x2, x3, x4, x5, x6⟩ := x
    simp only at hnx hm hwc
    subst hnx
    simp only [Mv.row] at hr
    simp only [go_sem, reduceIte, Nat.reduceEqDiff, Nat.reduceAdd, Nat.reduceMul, Nat.reduceSub, Nat.reduceLeDiff, Nat.reduceLT, Nat.reduceBEq, reduceCtorEq, g0, g1, g5, g7, g9, g13, g15, g143, g144, g145, List.length_map, hk, hr, hwc]
    refine W_for (fun j T' H' M => M = [] ∧ getT T' 0 = .ps .unk (a.map Mv.row) ∧ getT T' 1 = .ps .unk (b.map Mv.row) ∧ getT T' 5 = .ps .unk (u.map Mv.row) ∧ getT T' 7 = .ps .unk (s.map Mv.row) ∧ getT T' 9 = .ps .unk (c.map Mv.row) ∧ getT T' 13 = .ps .unk (n.map Mv.row) ∧ getT T' 15 = i64 S1 ∧ getT T' 143 = .ps .unk (a.map Mv.row) ∧ getT T' 144 = i64 (a.length : Nat) ∧ getT T' 145 = i64 k ∧ getT T' 17 = .ptr H.n 0 ∧ getT T' 154 = i64 (nx : Nat) ∧ getT T' 155 = i64 j ∧ H.n < H'.n ∧ H'.get H.n = .cells [.str x1, i64 x2, i64 (nx : Nat), .str x4, i64 x5, .bool x6] 128) nx ?_ ?_ ?_
    · simp only [go_sem, reduceIte, Nat.reduceEqDiff, Nat.reduceAdd, Nat.reduceMul, Nat.reduceSub, Nat.reduceLeDiff, Nat.reduceLT, Nat.reduceBEq, reduceCtorEq, g0, g1, g5, g7, g9, g13, g143, g144, g145]
    · rintro j T' H' M hj ⟨rfl, i0, i1, i5, i7, i9, i13, i15, i143, i144, i145, i17, i154, i155, hn, hh⟩
      obtain ⟨q1, q2, q3, q4, ⟨R, hR, q5, q6⟩, q7, q8, q9⟩ := hm j (by omega)
      have hwj := wrap_succ hj (many2 _ hnl)
      have d0 : (H.n = H'.n) = False := by simp only [eq_iff_iff, iff_false]; omega
      have d1 : (H.n = H'.n + 1) = False := by simp only [eq_iff_iff, iff_false]; omega
      have d2 : (H.n = H'.n + 1 + 1) = False := by simp only [eq_iff_iff, iff_false]; omega
      have d3 : (H.n = H'.n + 1 + 1 + 1) = False := by simp only [eq_iff_iff, iff_false]; omega
      have d4 : (H.n = H'.n + 1 + 1 + 1 + 1) = False := by simp only [eq_iff_iff, iff_false]; omega
      have d5 : (H.n = H'.n + 1 + 1 + 1 + 1 + 1) = False := by simp only [eq_iff_iff, iff_false]; omega
      have d6 : (H.n = H'.n + 1 + 1 + 1 + 1 + 1 + 1) = False := by simp only [eq_iff_iff, iff_false]; omega
      clear hm
      generalize D (j : Int) = dj at q1 q2 q3 q5 q7 q8
      generalize x2 + (j : Int) = pj at q1 q2 q3 q4 q6 q9
      rcases hR with rfl | ⟨rt, rj, rfl⟩
      · simp only [noPlace, i64] at q5 q6
        simp only [go_sem, reduceIte, Nat.reduceEqDiff, Nat.reduceAdd, Nat.reduceMul, Nat.reduceSub, Nat.reduceLeDiff, Nat.reduceLT, Nat.reduceBEq, reduceCtorEq, i0, i1, i5, i7, i9, i13, i15, i143, i144, i145, i17, i154, i155, hh, hj, q1, q2, q3, q4, q5, q6, q7, q8, q9, e43a, e43b, e43u, e43s, e43c, e43n, e61u, e61s, e61c, e61n, d0, d1, d2, d3, d4, d5, d6, n00, n70, n77, ety45, aeq45, beqL_self, hwj]
        omega
      · simp only [i64] at q5 q6
        simp only [go_sem, reduceIte, Nat.reduceEqDiff, Nat.reduceAdd, Nat.reduceMul, Nat.reduceSub, Nat.reduceLeDiff, Nat.reduceLT, Nat.reduceBEq, reduceCtorEq, i0, i1, i5, i7, i9, i13, i15, i143, i144, i145, i17, i154, i155, hh, hj, q1, q2, q3, q4, q5, q6, q7, q8, q9, e43a, e43b, e43u, e43s, e43c, e43n, e61u, e61s, e61c, e61n, d0, d1, d2, d3, d4, d5, d6, n00, n70, n77, ety45, aeq45, beqL_self, hwj]
        omega
    · rintro T' H' M ⟨rfl, i0, i1, i5, i7, i9, i13, i15, i143, i144, i145, i17, i154, i155, hn, hh⟩
      simp only [go_sem, reduceIte, Nat.reduceEqDiff, Nat.reduceAdd, Nat.reduceMul, Nat.reduceSub, Nat.reduceLeDiff, Nat.reduceLT, Nat.reduceBEq, reduceCtorEq, i0, i1, i5, i7, i9, i13, i15, i143, i144, i145, i154, i155, Nat.lt_irrefl, hw]
  · rintro T H M ⟨rfl, g0, g1, g5, g7, g9, g13, g15, g143, g144, g145⟩
    rw [List.take_length] at g15
    clear hmet e52a e52b e54a e53a e55a e54u e55u e60 e44u e44s e44c e43b e43u e43s e43c e43n e61u e61s e61c e61n
    have n02 : ((0 : Int) < 2) = True := by simp
    have n12 : ((1 : Int) < 2) = True := by simp
    have n22 : ((2 : Int) < 2) = False := by simp
    simp only [go_sem, reduceIte, Nat.reduceEqDiff, Nat.reduceAdd, Nat.reduceMul, Nat.reduceSub, Nat.reduceLeDiff, Nat.reduceLT, Nat.reduceBEq, reduceCtorEq, g0, g1, g5, g7, g9, g13, g15, g143, g144, g145, Nat.lt_irrefl]
    refine W_for (fun k T H M => M = [] ∧ getT T 0 = .ps .unk (a.map Mv.row) ∧ getT T 9 = .ps .unk (c.map Mv.row) ∧ getT T 15 = i64 (sumL a) ∧ getT T 284 = .ps .exact [[.ps .unk (u.map Mv.row)], [.ps .unk (s.map Mv.row)]] ∧ getT T 285 = i64 2 ∧ getT T 286 = i64 k) 2 ?_ ?_ ?_
    · simp only [go_sem, reduceIte, Nat.reduceEqDiff, Nat.reduceAdd, Nat.reduceMul, Nat.reduceSub, Nat.reduceLeDiff, Nat.reduceLT, Nat.reduceBEq, reduceCtorEq, g0, g9, g15, strip_ps]
      rfl
    · rintro k T H M hk ⟨rfl, g0, g9, g15, g284, g285, g286⟩
      obtain ⟨m, hm, hml, hms, hmr, hki, hkw⟩ : ∃ m : List Mv, (∀ x ∈ m, 0 ≤ x.len) ∧ m.length ≤ 6 ∧ sumL m = sumL a ∧ [[AV.ps .unk (u.map Mv.row)], [AV.ps .unk (s.map Mv.row)]][k]? = some [.ps .unk (m.map Mv.row)] ∧ (((k : Nat) : Int) < 2) = True ∧ wrapq .i64 (Int.add ((k : Nat) : Int) 1) = ((k + 1 : Nat) : Int) := by
        have h3 : (((k : Nat) : Int) < 2) = True := by simp only [eq_iff_iff, iff_true]; omega
        have h4 := wrap_succ hk (show 2 ≤ maxRows by decide)
        match k, hk with
        | 0, _ => exact ⟨u, hul, ull, hus, rfl, h3, h4⟩
        | 1, _ => exact ⟨s, hsl, sll, hss, rfl, h3, h4⟩
      have hkl : (k < 2) = True := by simp [hk]
      simp only [go_sem, reduceIte, Nat.reduceEqDiff, Nat.reduceAdd, Nat.reduceMul, Nat.reduceSub, Nat.reduceLeDiff, Nat.reduceLT, Nat.reduceBEq, reduceCtorEq, g0, g9, g15, g284, g285, g286, hki, hkl, hmr]
      refine W_for (fun j T' H' M => M = [] ∧ getT T' 0 = .ps .unk (a.map Mv.row) ∧ getT T' 9 = .ps .unk (c.map Mv.row) ∧ getT T' 15 = i64 (sumL a) ∧ getT T' 284 = .ps .exact [[.ps .unk (u.map Mv.row)], [.ps .unk (s.map Mv.row)]] ∧ getT T' 285 = i64 2 ∧ getT T' 286 = i64 k ∧ getT T' 34 = i64 (sumL (m.take j)) ∧ getT T' 290 = .ps .unk (m.map Mv.row) ∧ getT T' 291 = i64 (m.length : Nat) ∧ getT T' 292 = i64 j) m.length ?_ ?_ ?_
      · simp only [go_sem, reduceIte, Nat.reduceEqDiff, Nat.reduceAdd, Nat.reduceMul, Nat.reduceSub, Nat.reduceLeDiff, Nat.reduceLT, Nat.reduceBEq, reduceCtorEq, g0, g9, g15, g284, g285, g286, List.length_map]
        rfl
      · rintro j T' H' M hj ⟨rfl, i0, i9, i15, i284, i285, i286, i34, i290, i291, i292⟩
        obtain ⟨x, hx⟩ : ∃ p, m[j]? = some p := ⟨m[j], by simp⟩
        have hr := map_at (f := Mv.row) hx
        have hw := wrap_succ hj (many _ (by omega))
        have hst := sumL_take hx
        have hsp := sumL_part hm j
        have hsp1 := sumL_part hm (j + 1)
        have hwc : wrapq .i64 (Int.add (sumL (m.take j)) x.len) = sumL (m.take (j + 1)) := by
          have e : Int.add (sumL (m.take j)) x.len = sumL (m.take j) + x.len := rfl
          rw [e, ← hst]; exact wrapq_i64 (by omega) (by omega)
        clear hst hsp hsp1
        generalize sumL (m.take (j + 1)) = S1 at hwc ⊢
        obtain ⟨x1, x2, x3, x4, x5, x6⟩ := x
        simp only at hwc
        simp only [Mv.row] at hr
        simp only [go_sem, reduceIte, Nat.reduceEqDiff, Nat.reduceAdd, Nat.reduceMul, Nat.reduceSub, Nat.reduceLeDiff, Nat.reduceLT, Nat.reduceBEq, reduceCtorEq, i0, i9, i15, i284, i285, i286, i34, i290, i291, i292, List.length_map, hj, hr, hw, hwc]
      · rintro T' H' M ⟨rfl, i0, i9, i15, i284, i285, i286, i34, i290, i291, i292⟩
        rw [List.take_length, hms] at i34
        have hself : (sumL a = sumL a) = True := by simp
        simp only [go_sem, reduceIte, Nat.reduceEqDiff, Nat.reduceAdd, Nat.reduceMul, Nat.reduceSub, Nat.reduceLeDiff, Nat.reduceLT, Nat.reduceBEq, reduceCtorEq, i0, i9, i15, i284, i285, i286, i34, i290, i291, i292, Nat.lt_irrefl, hself, hkw]
    · rintro T H M ⟨rfl, g0, g9, g15, g284, g285, g286⟩
      have hc2 : ((2 : Nat) : Int) = 2 := rfl
      rw [hc2] at g286
      simp only [go_sem, reduceIte, Nat.reduceEqDiff, Nat.reduceAdd, Nat.reduceMul, Nat.reduceSub, Nat.reduceLeDiff, Nat.reduceLT, Nat.reduceBEq, reduceCtorEq, g0, g9, g15, g284, g285, g286, n22]
      refine W_for (fun k T H M => M = [] ∧ getT T 0 = .ps .unk (a.map Mv.row) ∧ getT T 305 = .ps .unk (c.map Mv.row) ∧ getT T 306 = i64 (c.length : Nat) ∧ getT T 307 = i64 k) c.length ?_ ?_ ?_
      · simp only [go_sem, reduceIte, Nat.reduceEqDiff, Nat.reduceAdd, Nat.reduceMul, Nat.reduceSub, Nat.reduceLeDiff, Nat.reduceLT, Nat.reduceBEq, reduceCtorEq, g0, g9, List.length_map]
      · rintro k T H M hk ⟨rfl, g0, g305, g306, g307⟩
        obtain ⟨x, hx⟩ : ∃ p, c[k]? = some p := ⟨c[k], by simp⟩
        have hr := map_at (f := Mv.row) hx
        have hw := wrap_succ hk (many _ (by omega))
        obtain ⟨hx60, hx0, hxk⟩ := hcom x (List.mem_of_getElem? hx)
        obtain ⟨nx, hnx⟩ : ∃ m : Nat, x.len = m := ⟨x.len.toNat, by omega⟩
        clear hcom
        obtain ⟨x1, x2, x3, x4, x5, x6⟩ := x
        simp only at hnx hxk hx60 hx0
        subst hnx
        simp only [Mv.row] at hr
        simp only [go_sem, reduceIte, Nat.reduceEqDiff, Nat.reduceAdd, Nat.reduceMul, Nat.reduceSub, Nat.reduceLeDiff, Nat.reduceLT, Nat.reduceBEq, reduceCtorEq, g0, g305, g306, g307, List.length_map, hk, hr]
        refine W_for (fun j T' H' M => M = [] ∧ getT T' 0 = .ps .unk (a.map Mv.row) ∧ getT T' 305 = .ps .unk (c.map Mv.row) ∧ getT T' 306 = i64 (c.length : Nat) ∧ getT T' 307 = i64 k ∧ getT T' 38 = .ptr H.n 0 ∧ getT T' 312 = i64 (nx : Nat) ∧ getT T' 313 = i64 j ∧ H.n < H'.n ∧ H'.get H.n = .cells [.str x1, i64 x2, i64 (nx : Nat), .str x4, i64 x5, .bool x6] 130) nx ?_ ?_ ?_
        · simp only [go_sem, reduceIte, Nat.reduceEqDiff, Nat.reduceAdd, Nat.reduceMul, Nat.reduceSub, Nat.reduceLeDiff, Nat.reduceLT, Nat.reduceBEq, reduceCtorEq, g0, g305, g306, g307]
        · rintro j T' H' M hj ⟨rfl, i0, i305, i306, i307, i38, i312, i313, hn, hh⟩
          obtain ⟨rt, rj, q1, q2⟩ := hxk j (by omega)
          have hwj := wrap_succ hj (many2 _ (by omega))
          have d0 : (H.n = H'.n) = False := by simp only [eq_iff_iff, iff_false]; omega
          have d1 : (H.n = H'.n + 1) = False := by simp only [eq_iff_iff, iff_false]; omega
          have q60 : ((j : Int) < 60) = True := by simp only [eq_iff_iff, iff_true]; omega
          simp only [i64] at q1
          simp only [go_sem, reduceIte, Nat.reduceEqDiff, Nat.reduceAdd, Nat.reduceMul, Nat.reduceSub, Nat.reduceLeDiff, Nat.reduceLT, Nat.reduceBEq, reduceCtorEq, i0, i305, i306, i307, i38, i312, i313, hh, hj, q1, q2, e43a, d0, d1, n00, hwj, q60]
          omega
        · rintro T' H' M ⟨rfl, i0, i305, i306, i307, i38, i312, i313, hn, hh⟩
          simp only [go_sem, reduceIte, Nat.reduceEqDiff, Nat.reduceAdd, Nat.reduceMul, Nat.reduceSub, Nat.reduceLeDiff, Nat.reduceLT, Nat.reduceBEq, reduceCtorEq, i0, i305, i306, i307, i38, i312, i313, Nat.lt_irrefl, hw]
      · rintro T H M ⟨rfl, g0, g305, g306, g307⟩
        simp only [go_sem, reduceIte, Nat.reduceEqDiff, Nat.reduceAdd, Nat.reduceMul, Nat.reduceSub, Nat.reduceLeDiff, Nat.reduceLT, Nat.reduceBEq, reduceCtorEq, g0, g305, g306, g307, Nat.lt_irrefl]
end Go.Sim
