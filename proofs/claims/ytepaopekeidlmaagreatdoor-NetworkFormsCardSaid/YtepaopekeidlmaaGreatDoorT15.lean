/-
The parts NetG5, NetU1, NetE0, NetE1, NetE2, NetE3, NetE4, NetE5 of one proof, joined: each begins with a remark that says what it shows.
-/
import Derived.Test.YtepaopekeidlmaaGreatDoorT14
set_option linter.unusedSimpArgs false
set_option linter.unusedVariables false

/-
The program's Shortened, Undone, Composed; the law's own helpers on maps.
-/
namespace Go.Sim
open Go Go.Proofs
set_option maxRecDepth 100000
set_option maxHeartbeats 16000000
/-! ### No moves at all -/
theorem c135n : ∀ lo H, CallOk NC lo 135 [.ps .unk []] H (.tup [.ps .unk [], i64 0]) H :=
  known_ok saneNC awh0 (k := ⟨135, [.ps .unk []], .tup [.ps .unk [], i64 0]⟩) (fuel := 300) (by kernel_rfl) (by rfl) (by rfl)
theorem c135 (m : List Mv) (hl : m.length ≤ 12) (hg : ∀ x ∈ m, x.Good) : ∀ lo H, CallOk NC lo 135 [.ps .unk (m.map Mv.row)] H (.tup [.ps .unk ((shortM' m).map Mv.row), i64 0]) H := by
  cases m with
  | nil => exact c135n
  | cons x r => exact c135p (x :: r) ⟨hl, by simp, hg⟩
noncomputable def p135 : List AV → Option AV := primOf (α := List Mv) (fun x => [.ps .unk (x.map Mv.row)]) (fun x => (x.length ≤ 12 ∧ ∀ y ∈ x, y.Good)) (fun x => .tup [.ps .unk ((shortM' x).map Mv.row), i64 0])
theorem pok135 : ∀ args v, p135 args = some v → ∀ lo H, CallOk NC lo 135 args H v H := by
  intro args v h
  obtain ⟨x, rfl, hp, rfl⟩ := primOf_inv h
  clear h
  revert x
  intro x hx; exact c135 x hx.1 hx.2
theorem pe135 (x : List Mv) (hp : (fun x => (x.length ≤ 12 ∧ ∀ y ∈ x, y.Good)) x) : p135 ((fun x => [.ps .unk (x.map Mv.row)]) x) = some ((fun x => .tup [.ps .unk ((shortM' x).map Mv.row), i64 0]) x) := primOf_enc (by intro x y h; (simp only [List.cons.injEq, AV.ps.injEq, mvs_iff, true_and, and_true] at h; exact h)) x hp
structure FewOk (m : List Mv) : Prop where
  ok : MapOk m
  few : mapR m = 0 → m.length ≤ 6
def shortP (m : List Mv) : List AV := if mapR m = 0 then [.ps .unk ((shortM' m).map Mv.row), i64 0] else [.ps .unk [], i64 (mapR m)]
def undoP (m : List Mv) : List AV := if mapR m = 0 then [.ps .unk ((undoM m).map Mv.row), i64 0] else [.ps .unk [], i64 (mapR m)]
def compPP (a b : List Mv) : List AV := if firstI [mapR a, mapR b] = 0 then [.ps .unk ((compM a b).map Mv.row), i64 0] else [.ps .unk [], i64 (firstI [mapR a, mapR b])]
noncomputable def PPF53 : FuncId → Option (List AV → Option AV) := addPrim 135 p135 (addPrim 49 p49 (fun _ => none))
theorem primsF53 : PrimsOk NC PPF53 := primsOk_add (primsOk_add (primsOk_none) (by kernel_rfl) (by kernel_rfl) pok49) (by kernel_rfl) (by kernel_rfl) pok135
theorem enF53_49 : En PPF53 49 p49 := enter_prim (by rfl) (by kernel_rfl)
theorem enF53_135 : En PPF53 135 p135 := enter_prim (by rfl) (by kernel_rfl)
attribute [go_sem ↓] enF53_49 enF53_135
theorem c53 (m : List Mv) (hp : FewOk m) : ∀ lo H, CallOk NC lo 53 [.ps .unk (m.map Mv.row)] H (.tup (shortP m)) H := by
  refine contract saneNC primsF53 (fn := Tryz.f53) (by kernel_rfl) Tryz.func53 rfl rfl (by rfl) (by unfold shortP; split <;> rfl) ?_
  have e49 := pe49 m hp.ok
  rw [map_same] at e49
  unfold shortP
  have h135 : mapR m = 0 → p135 [.ps .unk (m.map Mv.row)] = some (.tup [.ps .unk ((shortM' m).map Mv.row), i64 0]) := fun h => pe135 m ⟨by have := hp.few h; omega, fun x hx => map_good h hx⟩
  generalize mapR m = E at e49 h135 ⊢
  rcases Classical.propComplete (E = 0) with z | z
  · have h135 := h135 (of_eq_true z)
    simp only [go_sem, reduceIte, Nat.reduceEqDiff, Nat.reduceAdd, Nat.reduceMul, Nat.reduceSub, Nat.reduceLeDiff, Nat.reduceLT, Nat.reduceBEq, reduceCtorEq, e49, z, h135]
  · simp only [go_sem, reduceIte, Nat.reduceEqDiff, Nat.reduceAdd, Nat.reduceMul, Nat.reduceSub, Nat.reduceLeDiff, Nat.reduceLT, Nat.reduceBEq, reduceCtorEq, e49, z]
noncomputable def p53 : List AV → Option AV := primOf (α := (List Mv)) (fun x => [.ps .unk (x.map Mv.row)]) (fun x => FewOk x) (fun x => .tup (shortP x))
theorem pok53 : ∀ args v, p53 args = some v → ∀ lo H, CallOk NC lo 53 args H v H := by
  intro args v h
  obtain ⟨x, rfl, hp, rfl⟩ := primOf_inv h
  exact c53 x hp
theorem pe53 (m : List Mv) (hp : FewOk m) : p53 [.ps .unk (m.map Mv.row)] = some (.tup (shortP m)) := primOf_enc (α := (List Mv)) (enc := fun x => [.ps .unk (x.map Mv.row)]) (pre := fun x => FewOk x) (spec := fun x => .tup (shortP x)) (by intro x y h; (simp only [List.cons.injEq, AV.agg.injEq, AV.str.injEq, AV.int.injEq, AV.ps.injEq, AV.bool.injEq, Net.cells_iff, Ln.row_iff, Pc.row_iff, Mv.row_iff, lns_iff, pcs_iff, mvs_iff, true_and, and_true] at h; first | simpa only [Prod.ext_iff] using h | simpa only [Prod.ext_iff, and_assoc] using h)) m hp
noncomputable def PPF54 : FuncId → Option (List AV → Option AV) := addPrim 136 p136 (addPrim 135 p135 (addPrim 49 p49 (fun _ => none)))
theorem primsF54 : PrimsOk NC PPF54 := primsOk_add (primsOk_add (primsOk_add (primsOk_none) (by kernel_rfl) (by kernel_rfl) pok49) (by kernel_rfl) (by kernel_rfl) pok135) (by kernel_rfl) (by kernel_rfl) pok136
theorem enF54_49 : En PPF54 49 p49 := enter_prim (by rfl) (by kernel_rfl)
theorem enF54_135 : En PPF54 135 p135 := enter_prim (by rfl) (by kernel_rfl)
theorem enF54_136 : En PPF54 136 p136 := enter_prim (by rfl) (by kernel_rfl)
attribute [go_sem ↓] enF54_49 enF54_135 enF54_136
theorem c54 (m : List Mv) (hp : FewOk m) : ∀ lo H, CallOk NC lo 54 [.ps .unk (m.map Mv.row)] H (.tup (undoP m)) H := by
  refine contract saneNC primsF54 (fn := Tryz.f54) (by kernel_rfl) Tryz.func54 rfl rfl (by rfl) (by unfold undoP; split <;> rfl) ?_
  have e49 := pe49 m hp.ok
  rw [map_same] at e49
  have e136 := pe136 m hp.ok.few
  unfold undoP
  have h135 : mapR m = 0 → p135 [.ps .unk ((m.map undoMv).map Mv.row)] = some (.tup [.ps .unk ((undoM m).map Mv.row), i64 0]) := fun h => by
    have := pe135 (m.map undoMv) ⟨by rw [List.length_map]; have := hp.few h; omega, fun x hx => (fair_of h).undo.good x hx⟩
    exact this
  generalize mapR m = E at e49 h135 ⊢
  rcases Classical.propComplete (E = 0) with z | z
  · have h135 := h135 (of_eq_true z)
    simp only [go_sem, reduceIte, Nat.reduceEqDiff, Nat.reduceAdd, Nat.reduceMul, Nat.reduceSub, Nat.reduceLeDiff, Nat.reduceLT, Nat.reduceBEq, reduceCtorEq, e49, e136, z, h135]
  · simp only [go_sem, reduceIte, Nat.reduceEqDiff, Nat.reduceAdd, Nat.reduceMul, Nat.reduceSub, Nat.reduceLeDiff, Nat.reduceLT, Nat.reduceBEq, reduceCtorEq, e49, z]
noncomputable def p54 : List AV → Option AV := primOf (α := (List Mv)) (fun x => [.ps .unk (x.map Mv.row)]) (fun x => FewOk x) (fun x => .tup (undoP x))
theorem pok54 : ∀ args v, p54 args = some v → ∀ lo H, CallOk NC lo 54 args H v H := by
  intro args v h
  obtain ⟨x, rfl, hp, rfl⟩ := primOf_inv h
  exact c54 x hp
theorem pe54 (m : List Mv) (hp : FewOk m) : p54 [.ps .unk (m.map Mv.row)] = some (.tup (undoP m)) := primOf_enc (α := (List Mv)) (enc := fun x => [.ps .unk (x.map Mv.row)]) (pre := fun x => FewOk x) (spec := fun x => .tup (undoP x)) (by intro x y h; (simp only [List.cons.injEq, AV.agg.injEq, AV.str.injEq, AV.int.injEq, AV.ps.injEq, AV.bool.injEq, Net.cells_iff, Ln.row_iff, Pc.row_iff, Mv.row_iff, lns_iff, pcs_iff, mvs_iff, true_and, and_true] at h; first | simpa only [Prod.ext_iff] using h | simpa only [Prod.ext_iff, and_assoc] using h)) m hp
theorem compL_take {a b : List Mv} {k : Nat} {x : Mv} (h : a[k]? = some x) : compL (a.take (k + 1)) b = compL (a.take k) b ++ b.filterMap (compO x) := by
  unfold compL
  rw [List.take_add_one, h, List.flatMap_append]; simp
theorem filter_take {b : List Mv} {x : Mv} {k : Nat} {y : Mv} (h : b[k]? = some y) : (b.take (k + 1)).filterMap (compO x) = (b.take k).filterMap (compO x) ++ (compO x y).toList := by
  rw [List.take_add_one, h, List.filterMap_append]
  cases hc : compO x y <;> simp [hc]
noncomputable def PPF55 : FuncId → Option (List AV → Option AV) := addPrim 137 p137 (addPrim 135 p135 (addPrim 111 p111 (addPrim 49 p49 (fun _ => none))))
theorem primsF55 : PrimsOk NC PPF55 := primsOk_add (primsOk_add (primsOk_add (primsOk_add (primsOk_none) (by kernel_rfl) (by kernel_rfl) pok49) (by kernel_rfl) (by kernel_rfl) pok111) (by kernel_rfl) (by kernel_rfl) pok135) (by kernel_rfl) (by kernel_rfl) pok137
theorem enF55_49 : En PPF55 49 p49 := enter_prim (by rfl) (by kernel_rfl)
theorem enF55_111 : En PPF55 111 p111 := enter_prim (by rfl) (by kernel_rfl)
theorem enF55_135 : En PPF55 135 p135 := enter_prim (by rfl) (by kernel_rfl)
theorem enF55_137 : En PPF55 137 p137 := enter_prim (by rfl) (by kernel_rfl)
attribute [go_sem ↓] enF55_49 enF55_111 enF55_135 enF55_137
theorem c55 (a b : List Mv) (hp : FewOk a ∧ FewOk b) : ∀ lo H, CallOk NC lo 55 [.ps .unk (a.map Mv.row), .ps .unk (b.map Mv.row)] H (.tup (compPP a b)) H := by
  refine contract saneNC primsF55 (fn := Tryz.f55) (by kernel_rfl) Tryz.func55 rfl rfl (by rfl) (by unfold compPP; split <;> rfl) ?_
  have e49a := pe49 a hp.1.ok
  have e49b := pe49 b hp.2.ok
  rw [map_same] at e49a e49b
  unfold compPP
  have h135 : firstI [mapR a, mapR b] = 0 → a.length ≤ 6 ∧ b.length ≤ 6 ∧ p135 [.ps .unk ((compL a b).map Mv.row)] = some (.tup [.ps .unk ((compM a b).map Mv.row), i64 0]) := fun h => by
    have h0 := firstI_zero h
    have ha := h0 (mapR a) (by simp)
    have hb := h0 (mapR b) (by simp)
    have fa := fair_of ha
    have fb := fair_of hb
    have l1 := hp.1.few ha
    have l2 := hp.2.few hb
    have hl := compL_len fa fb
    exact ⟨l1, l2, pe135 (compL a b) ⟨by omega, compL_good fa fb⟩⟩
  generalize hE : firstI [mapR a, mapR b] = E at h135 ⊢
  rcases Classical.propComplete (E = 0) with z | z
  case inr =>
    simp only [go_sem, reduceIte, Nat.reduceEqDiff, Nat.reduceAdd, Nat.reduceMul, Nat.reduceSub, Nat.reduceLeDiff, Nat.reduceLT, Nat.reduceBEq, reduceCtorEq, e49a, e49b, e111_2, hE, z]
  obtain ⟨la, lb, h135⟩ := h135 (of_eq_true z)
  simp only [go_sem, reduceIte, Nat.reduceEqDiff, Nat.reduceAdd, Nat.reduceMul, Nat.reduceSub, Nat.reduceLeDiff, Nat.reduceLT, Nat.reduceBEq, reduceCtorEq, e49a, e49b, e111_2, hE, z]
  refine W_for (fun k T H M => M = [] ∧ getT T 1 = .ps .unk (b.map Mv.row) ∧ getT T 23 = .ps .unk (a.map Mv.row) ∧ getT T 24 = i64 (a.length : Nat) ∧ getT T 25 = i64 k ∧ ∃ t, getT T 7 = .ps t ((compL (a.take k) b).map Mv.row) ∧ App H t ((compL (a.take k) b).map Mv.row) 6 130) a.length ?_ ?_ ?_
  · simp only [go_sem, reduceIte, Nat.reduceEqDiff, Nat.reduceAdd, Nat.reduceMul, Nat.reduceSub, Nat.reduceLeDiff, Nat.reduceLT, Nat.reduceBEq, reduceCtorEq, List.length_map]; exact ⟨.nil, by simp [compL], .inl ⟨rfl, by simp [compL]⟩⟩
  · rintro k T H M hk ⟨rfl, g1, g23, g24, g25, t, g7, hA⟩
    obtain ⟨x, hx⟩ : ∃ p, a[k]? = some p := ⟨a[k], by simp⟩
    have hr := map_at (f := Mv.row) hx
    have hw := wrap_succ hk (by unfold maxRows; omega : a.length ≤ maxRows)
    have hct := compL_take (b := b) hx
    have hcl : (compL (a.take k) b).length ≤ 6 * 6 := by
      unfold compL
      have key : ∀ l : List Mv, (l.flatMap fun x => b.filterMap (compO x)).length ≤ l.length * 6 := by
        intro l
        induction l with
        | nil => simp
        | cons z r ih =>
          have := List.length_filterMap_le (compO z) b
          rw [List.flatMap_cons, List.length_append, List.length_cons]; omega
      have := key (a.take k)
      rw [List.length_take] at this
      omega
    obtain ⟨x1, x2, x3, x4, x5, x6⟩ := x
    simp only [Mv.row] at hr
    simp only [go_sem, reduceIte, Nat.reduceEqDiff, Nat.reduceAdd, Nat.reduceMul, Nat.reduceSub, Nat.reduceLeDiff, Nat.reduceLT, Nat.reduceBEq, reduceCtorEq, g1, g23, g24, g25, List.length_map, hk, hr]
    refine W_for (fun j T' H' M => M = [] ∧ getT T' 1 = .ps .unk (b.map Mv.row) ∧ getT T' 23 = .ps .unk (a.map Mv.row) ∧ getT T' 24 = i64 (a.length : Nat) ∧ getT T' 25 = i64 k ∧ getT T' 29 = .ps .unk (b.map Mv.row) ∧ getT T' 30 = i64 (b.length : Nat) ∧ getT T' 31 = i64 j ∧ getT T' 9 = .ptr H.n 0 ∧ H.n < H'.n ∧ H'.get H.n = .cells [.str x1, i64 x2, i64 x3, .str x4, i64 x5, .bool x6] 130 ∧ ∃ t, getT T' 7 = .ps t ((compL (a.take k) b ++ (b.take j).filterMap (compO ⟨x1, x2, x3, x4, x5, x6⟩)).map Mv.row) ∧ App H' t ((compL (a.take k) b ++ (b.take j).filterMap (compO ⟨x1, x2, x3, x4, x5, x6⟩)).map Mv.row) 6 130) b.length ?_ ?_ ?_
    · simp only [go_sem, reduceIte, Nat.reduceEqDiff, Nat.reduceAdd, Nat.reduceMul, Nat.reduceSub, Nat.reduceLeDiff, Nat.reduceLT, Nat.reduceBEq, reduceCtorEq, List.length_map, g1, g23, g24, g25, g7]
      exact ⟨t, by simp, by simpa using hA.fresh _ _ rfl⟩
    · rintro j T' H' M hj ⟨rfl, i1, i23, i24, i25, i29, i30, i31, i9, in_, ih, t', i7, iA⟩
      obtain ⟨y, hy⟩ : ∃ p, b[j]? = some p := ⟨b[j], by simp⟩
      have hry := map_at (f := Mv.row) hy
      have hwj := wrap_succ hj (by unfold maxRows; omega : b.length ≤ maxRows)
      have hft := filter_take (x := ⟨x1, x2, x3, x4, x5, x6⟩) hy
      have e137 := pe137 ⟨x1, x2, x3, x4, x5, x6⟩ y
      unfold compP at e137
      have hne : (H.n = H'.n) = False := by simp only [eq_iff_iff, iff_false]; omega
      have hne1 : (H.n = H'.n + 1) = False := by simp only [eq_iff_iff, iff_false]; omega
      cases hc : compB ⟨x1, x2, x3, x4, x5, x6⟩ y with
      | false =>
        have hco : compO ⟨x1, x2, x3, x4, x5, x6⟩ y = none := by unfold compO; rw [hc]; rfl
        rw [hc] at e137
        rw [hco] at hft
        simp only [Bool.false_eq_true, if_false, Option.toList_none, List.append_nil, zeroMv] at e137 hft
        rw [hft]
        obtain ⟨y1, y2, y3, y4, y5, y6⟩ := y
        simp only [Mv.row] at hry e137
        simp only [go_sem, reduceIte, Nat.reduceEqDiff, Nat.reduceAdd, Nat.reduceMul, Nat.reduceSub, Nat.reduceLeDiff, Nat.reduceLT, Nat.reduceBEq, reduceCtorEq, i1, i23, i24, i25, i29, i30, i31, i9, ih, i7, hne, hne1, List.length_map, hj, hry, hwj, e137]
        exact ⟨by omega, t', rfl, (iA.fresh _ _ rfl).fresh _ _ (by simp)⟩
      | true =>
        rw [hc] at e137
        simp only [if_true] at e137
        have hfl := List.length_filterMap_le (compO ⟨x1, x2, x3, x4, x5, x6⟩) (b.take j)
        rw [List.length_take] at hfl
        obtain ⟨z, hz⟩ : ∃ z, compMv ⟨x1, x2, x3, x4, x5, x6⟩ y = z := ⟨_, rfl⟩
        have hco : compO ⟨x1, x2, x3, x4, x5, x6⟩ y = some z := by unfold compO; rw [hc, hz]; rfl
        rw [hco] at hft
        simp only [Option.toList_some] at hft
        rw [hz] at e137
        have hl7 : (compL (a.take k) b ++ (b.take j).filterMap (compO ⟨x1, x2, x3, x4, x5, x6⟩)).length + 1 ≤ maxRows := by
          rw [List.length_append]; unfold maxRows; omega
        obtain ⟨t2, H2, ha, hB, hK, hcell⟩ := app_mv (H := (((H'.push (.cells [.str [], .int .i64 0, .int .i64 0, .str [], .int .i64 0, .bool false] 130)).set H'.n (.cells y.row 130)).push (.cells [.str [], .int .i64 0, .int .i64 0, .str [], .int .i64 0, .bool false] 130)).set (H'.n + 1) (.cells z.row 130)) ((iA.fresh _ _ rfl).fresh _ _ (by simp)) z hl7
        have hc9 := hcell H.n _ _ (by simp; omega) (by simp only [go_sem, reduceIte, Nat.reduceEqDiff, Nat.reduceAdd, Nat.reduceMul, Nat.reduceSub, Nat.reduceLeDiff, Nat.reduceLT, Nat.reduceBEq, reduceCtorEq, hne, hne1]; exact ih)
        have hn2 : H.n < H2.n := by have := hK.1; simp at this; omega
        have hft2 : compL (a.take k) b ++ (b.take (j + 1)).filterMap (compO ⟨x1, x2, x3, x4, x5, x6⟩) = (compL (a.take k) b ++ (b.take j).filterMap (compO ⟨x1, x2, x3, x4, x5, x6⟩)) ++ [z] := by
          rw [hft, List.append_assoc]
        rw [hft2]
        generalize compL (a.take k) b ++ (b.take j).filterMap (compO ⟨x1, x2, x3, x4, x5, x6⟩) = L at i7 ha hB
        clear hft hft2 hfl hcell hz hl7
        obtain ⟨y1, y2, y3, y4, y5, y6⟩ := y
        obtain ⟨z1, z2, z3, z4, z5, z6⟩ := z
        simp only [Mv.row] at hry e137 ha
        simp only [go_sem, reduceIte, Nat.reduceEqDiff, Nat.reduceAdd, Nat.reduceMul, Nat.reduceSub, Nat.reduceLeDiff, Nat.reduceLT, Nat.reduceBEq, reduceCtorEq, i1, i23, i24, i25, i29, i30, i31, i9, ih, i7, hne, hne1, List.length_map, hj, hry, hwj, e137, appO, ha]
        exact ⟨hn2, hc9, t2, rfl, hB⟩
    · rintro T' H' M ⟨rfl, i1, i23, i24, i25, i29, i30, i31, i9, in_, ih, t', i7, iA⟩
      rw [List.take_length, ← hct] at i7 iA
      simp only [go_sem, reduceIte, Nat.reduceEqDiff, Nat.reduceAdd, Nat.reduceMul, Nat.reduceSub, Nat.reduceLeDiff, Nat.reduceLT, Nat.reduceBEq, reduceCtorEq, i1, i23, i24, i25, i29, i30, i31, i9, i7, Nat.lt_irrefl, hw]
      exact ⟨t', rfl, iA⟩
  · rintro T H M ⟨rfl, g1, g23, g24, g25, t, g7, hA⟩
    rw [List.take_length] at g7
    simp only [go_sem, reduceIte, Nat.reduceEqDiff, Nat.reduceAdd, Nat.reduceMul, Nat.reduceSub, Nat.reduceLeDiff, Nat.reduceLT, Nat.reduceBEq, reduceCtorEq, g1, g23, g24, g25, g7, Nat.lt_irrefl, h135, z]
noncomputable def p55 : List AV → Option AV := primOf (α := (List Mv) × (List Mv)) (fun x => [.ps .unk (x.1.map Mv.row), .ps .unk (x.2.map Mv.row)]) (fun x => FewOk x.1 ∧ FewOk x.2) (fun x => .tup (compPP x.1 x.2))
theorem pok55 : ∀ args v, p55 args = some v → ∀ lo H, CallOk NC lo 55 args H v H := by
  intro args v h
  obtain ⟨x, rfl, hp, rfl⟩ := primOf_inv h
  exact c55 x.1 x.2 hp
theorem pe55 (a b : List Mv) (hp : FewOk a ∧ FewOk b) : p55 [.ps .unk (a.map Mv.row), .ps .unk (b.map Mv.row)] = some (.tup (compPP a b)) := primOf_enc (α := (List Mv) × (List Mv)) (enc := fun x => [.ps .unk (x.1.map Mv.row), .ps .unk (x.2.map Mv.row)]) (pre := fun x => FewOk x.1 ∧ FewOk x.2) (spec := fun x => .tup (compPP x.1 x.2)) (by intro x y h; (simp only [List.cons.injEq, AV.agg.injEq, AV.str.injEq, AV.int.injEq, AV.ps.injEq, AV.bool.injEq, Net.cells_iff, Ln.row_iff, Pc.row_iff, Mv.row_iff, lns_iff, pcs_iff, mvs_iff, true_and, and_true] at h; first | simpa only [Prod.ext_iff] using h | simpa only [Prod.ext_iff, and_assoc] using h)) (a, b) hp
/-! ### The law's own helpers -/
noncomputable def PPF61 : FuncId → Option (List AV → Option AV) := fun _ => none
theorem primsF61 : PrimsOk NC PPF61 := primsOk_none
theorem c61 (m : List Mv) (hp : m.length ≤ maxRows) : ∀ lo H, CallOk NC lo 61 [.ps .unk (m.map Mv.row)] H (.ps .unk (m.map Mv.row)) H := by
  refine contract saneNC primsF61 (fn := Tryz.f61) (by kernel_rfl) Tryz.func61 rfl rfl (by rfl) (by first | rfl | (split <;> first | rfl | (split <;> rfl))) ?_
  have hl := hp
  simp only [go_sem, reduceIte, Nat.reduceEqDiff, Nat.reduceAdd, Nat.reduceMul, Nat.reduceSub, Nat.reduceLeDiff, Nat.reduceLT, Nat.reduceBEq, reduceCtorEq]
  refine W_for (fun k T H M => M = [] ∧ getT T 6 = .ps .unk (m.map Mv.row) ∧ getT T 7 = i64 (m.length : Nat) ∧ getT T 8 = i64 k ∧ ∃ t, getT T 3 = .ps t ((m.take k).map Mv.row) ∧ App H t ((m.take k).map Mv.row) 6 128) m.length ?_ ?_ ?_
  · simp only [go_sem, reduceIte, Nat.reduceEqDiff, Nat.reduceAdd, Nat.reduceMul, Nat.reduceSub, Nat.reduceLeDiff, Nat.reduceLT, Nat.reduceBEq, reduceCtorEq, List.length_map]; exact ⟨.nil, by simp, .inl ⟨rfl, rfl⟩⟩
  · rintro k T H M hk ⟨rfl, g6, g7, g8, t, g3, hA⟩
    obtain ⟨x, hx⟩ : ∃ p, m[k]? = some p := ⟨m[k], by simp⟩
    have hr := map_at (f := Mv.row) hx
    have hw := wrap_succ hk hl
    have htk := take_map (f := Mv.row) hx
    obtain ⟨t', H1, ha, hB, hn1, hc1, _⟩ := app_any (H := (H.push (.cells [.str [], .int .i64 0, .int .i64 0, .str [], .int .i64 0, .bool false] 130)).set H.n (.cells x.row 130)) (hA.fresh _ _ rfl) (r := x.row) (by simp; omega) rfl (by decide) (rows_all Mv.row_len _)
    obtain ⟨a, b, c, d, e, f⟩ := x
    simp only [Mv.row] at hr ha
    simp only [go_sem, reduceIte, Nat.reduceEqDiff, Nat.reduceAdd, Nat.reduceMul, Nat.reduceSub, Nat.reduceLeDiff, Nat.reduceLT, Nat.reduceBEq, reduceCtorEq, g6, g7, g8, g3, List.length_map, hk, hr, hw, appO, ha]
    rw [htk]
    exact ⟨t', rfl, hB⟩
  · rintro T H M ⟨rfl, g6, g7, g8, t, g3, hA⟩
    simp only [go_sem, reduceIte, Nat.reduceEqDiff, Nat.reduceAdd, Nat.reduceMul, Nat.reduceSub, Nat.reduceLeDiff, Nat.reduceLT, Nat.reduceBEq, reduceCtorEq, g6, g7, g8, g3, List.take_length, Nat.lt_irrefl]
noncomputable def p61 : List AV → Option AV := primOf (α := (List Mv)) (fun x => [.ps .unk (x.map Mv.row)]) (fun x => x.length ≤ maxRows) (fun x => .ps .unk (x.map Mv.row))
theorem pok61 : ∀ args v, p61 args = some v → ∀ lo H, CallOk NC lo 61 args H v H := by
  intro args v h
  obtain ⟨x, rfl, hp, rfl⟩ := primOf_inv h
  exact c61 x hp
theorem pe61 (m : List Mv) (hp : m.length ≤ maxRows) : p61 [.ps .unk (m.map Mv.row)] = some (.ps .unk (m.map Mv.row)) := primOf_enc (α := (List Mv)) (enc := fun x => [.ps .unk (x.map Mv.row)]) (pre := fun x => x.length ≤ maxRows) (spec := fun x => .ps .unk (x.map Mv.row)) (by intro x y h; (simp only [List.cons.injEq, AV.agg.injEq, AV.str.injEq, AV.int.injEq, AV.ps.injEq, AV.bool.injEq, Net.cells_iff, Ln.row_iff, Pc.row_iff, Mv.row_iff, lns_iff, pcs_iff, mvs_iff, true_and, and_true] at h; first | simpa only [Prod.ext_iff] using h | simpa only [Prod.ext_iff, and_assoc] using h)) m hp
def mvB (a b : Mv) : Bool := beqL a.line b.line && (eqI a.fr b.fr && (eqI a.len b.len && (beqL a.other b.other && (eqI a.to b.to && (a.turned == b.turned)))))
theorem mvB_iff (a b : Mv) : mvB a b = true ↔ a = b := by
  obtain ⟨a1, a2, a3, a4, a5, a6⟩ := a
  obtain ⟨b1, b2, b3, b4, b5, b6⟩ := b
  unfold mvB
  simp only [Bool.and_eq_true, beqL_iff, eqI_iff, decide_eq_true_eq, beq_iff_eq, Mv.mk.injEq]
theorem aeq128' (a1 b1 : List Nat) (a2 b2 a3 b3 : Int) (a4 b4 : List Nat) (a5 b5 : Int) (a6 b6 : Bool) : aeqT NC.P 100 128 (.agg [.str a1, .int .i64 a2, .int .i64 a3, .str a4, .int .i64 a5, .bool a6]) (.agg [.str b1, .int .i64 b2, .int .i64 b3, .str b4, .int .i64 b5, .bool b6]) =
    (match some (beqL a1 b1) with
    | some true => (match some (eqI a2 b2) with
      | some true => (match some (eqI a3 b3) with
        | some true => (match some (beqL a4 b4) with
          | some true => (match some (eqI a5 b5) with
            | some true => (match some (a6 == b6) with
              | some true => some true
              | some false => some false
              | none => none)
            | some false => some false
            | none => none)
          | some false => some false
          | none => none)
        | some false => some false
        | none => none)
      | some false => some false
      | none => none)
    | some false => some false
    | none => none) := by kernel_rfl
theorem aeq128 (a b : Mv) : aeqT NC.P 100 128 (.agg a.row) (.agg b.row) = some (mvB a b) := by
  unfold Mv.row mvB
  rw [aeq128']
  cases beqL a.line b.line <;> cases eqI a.fr b.fr <;> cases eqI a.len b.len <;> cases beqL a.other b.other <;> cases eqI a.to b.to <;> cases (a.turned == b.turned) <;> rfl
theorem ety128 : eqType NC.P 100 128 = true := by kernel_rfl
noncomputable def PPF60 : FuncId → Option (List AV → Option AV) := fun _ => none
theorem primsF60 : PrimsOk NC PPF60 := primsOk_none
theorem c60 (a b : List Mv) (hp : a.length ≤ maxRows) : ∀ lo H, CallOk NC lo 60 [.ps .unk (a.map Mv.row), .ps .unk (b.map Mv.row)] H (.bool (listB mvB a b)) H := by
  refine contract saneNC primsF60 (fn := Tryz.f60) (by kernel_rfl) Tryz.func60 rfl rfl (by rfl) (by first | rfl | (split <;> first | rfl | (split <;> rfl))) ?_
  rcases Classical.propComplete (a.length = b.length) with q | q
  case inr =>
    have q' : a.length ≠ b.length := fun h => by rw [eq_true h] at q; simp at q
    rw [listB_len q']
    have q2 : ((a.length : Int) = (b.length : Int)) = False := by rw [len_eq]; exact q
    simp only [go_sem, reduceIte, Nat.reduceEqDiff, Nat.reduceAdd, Nat.reduceMul, Nat.reduceSub, Nat.reduceLeDiff, Nat.reduceLT, Nat.reduceBEq, reduceCtorEq, q2]
  have q' := of_eq_true q
  have q2 : ((a.length : Int) = (b.length : Int)) = True := by rw [len_eq]; exact q
  simp only [go_sem, reduceIte, Nat.reduceEqDiff, Nat.reduceAdd, Nat.reduceMul, Nat.reduceSub, Nat.reduceLeDiff, Nat.reduceLT, Nat.reduceBEq, reduceCtorEq, q2]
  refine W_for (fun k T H M => M = [] ∧ getT T 0 = .ps .unk (a.map Mv.row) ∧ getT T 1 = .ps .unk (b.map Mv.row) ∧ getT T 5 = i64 k ∧ ∀ (j : Nat) x y, j < k → a[j]? = some x → b[j]? = some y → mvB x y = true) a.length ?_ ?_ ?_
  · simp only [go_sem, reduceIte, Nat.reduceEqDiff, Nat.reduceAdd, Nat.reduceMul, Nat.reduceSub, Nat.reduceLeDiff, Nat.reduceLT, Nat.reduceBEq, reduceCtorEq]; exact fun j x y hj => absurd hj (by omega)
  · rintro k T H M hk ⟨rfl, g0, g1, g5, hall⟩
    have hkb : k < b.length := by omega
    obtain ⟨x, hx⟩ : ∃ p, a[k]? = some p := ⟨a[k], by simp⟩
    obtain ⟨y, hy⟩ : ∃ p, b[k]? = some p := ⟨b[k], by simp⟩
    have hrx := map_at (f := Mv.row) hx
    have hry := map_at (f := Mv.row) hy
    have hw := wrap_succ hk hp
    have ae := aeq128 x y
    cases hm : mvB x y with
    | true =>
      rw [hm] at ae
      obtain ⟨a1, a2, a3, a4, a5, a6⟩ := x
      obtain ⟨b1, b2, b3, b4, b5, b6⟩ := y
      simp only [Mv.row] at hrx hry ae
      simp only [go_sem, reduceIte, Nat.reduceEqDiff, Nat.reduceAdd, Nat.reduceMul, Nat.reduceSub, Nat.reduceLeDiff, Nat.reduceLT, Nat.reduceBEq, reduceCtorEq, g0, g1, g5, List.length_map, hk, hkb, hrx, hry, hw, ety128, ae]
      intro j x' y' hj hx' hy'
      by_cases e : j = k
      · subst e
        rw [hx] at hx'; rw [hy] at hy'
        cases hx'; cases hy'; exact hm
      · exact hall j x' y' (by omega) hx' hy'
    | false =>
      rw [hm] at ae
      have hno := listB_at (f := mvB) hx hy hm
      obtain ⟨a1, a2, a3, a4, a5, a6⟩ := x
      obtain ⟨b1, b2, b3, b4, b5, b6⟩ := y
      simp only [Mv.row] at hrx hry ae
      simp only [go_sem, reduceIte, Nat.reduceEqDiff, Nat.reduceAdd, Nat.reduceMul, Nat.reduceSub, Nat.reduceLeDiff, Nat.reduceLT, Nat.reduceBEq, reduceCtorEq, g0, g1, g5, List.length_map, hk, hkb, hrx, hry, hw, ety128, ae, hno]
  · rintro T H M ⟨rfl, g0, g1, g5, hall⟩
    simp only [go_sem, reduceIte, Nat.reduceEqDiff, Nat.reduceAdd, Nat.reduceMul, Nat.reduceSub, Nat.reduceLeDiff, Nat.reduceLT, Nat.reduceBEq, reduceCtorEq, g0, g1, g5, List.length_map, Nat.lt_irrefl]
    rw [listB_all q' fun k x y h1 h2 => hall k x y (List.getElem?_eq_some_iff.1 h1).1 h1 h2]
noncomputable def p60 : List AV → Option AV := primOf (α := (List Mv) × (List Mv)) (fun x => [.ps .unk (x.1.map Mv.row), .ps .unk (x.2.map Mv.row)]) (fun x => x.1.length ≤ maxRows) (fun x => .bool (listB mvB x.1 x.2))
theorem pok60 : ∀ args v, p60 args = some v → ∀ lo H, CallOk NC lo 60 args H v H := by
  intro args v h
  obtain ⟨x, rfl, hp, rfl⟩ := primOf_inv h
  exact c60 x.1 x.2 hp
theorem pe60 (a b : List Mv) (hp : a.length ≤ maxRows) : p60 [.ps .unk (a.map Mv.row), .ps .unk (b.map Mv.row)] = some (.bool (listB mvB a b)) := primOf_enc (α := (List Mv) × (List Mv)) (enc := fun x => [.ps .unk (x.1.map Mv.row), .ps .unk (x.2.map Mv.row)]) (pre := fun x => x.1.length ≤ maxRows) (spec := fun x => .bool (listB mvB x.1 x.2)) (by intro x y h; (simp only [List.cons.injEq, AV.agg.injEq, AV.str.injEq, AV.int.injEq, AV.ps.injEq, AV.bool.injEq, Net.cells_iff, Ln.row_iff, Pc.row_iff, Mv.row_iff, lns_iff, pcs_iff, mvs_iff, true_and, and_true] at h; first | simpa only [Prod.ext_iff] using h | simpa only [Prod.ext_iff, and_assoc] using h)) (a, b) hp
def lenW : List Mv → Int → Int
  | [], s => s
  | x :: r, s => lenW r (wrapq .i64 (Int.add s x.len))
def tinyB (m : List Mv) : Bool := shortM m && (decide (mapR m = 0) && (!decide ((6 : Int) < m.length) && !decide ((60 : Int) < lenW m 0)))
noncomputable def PPF52 : FuncId → Option (List AV → Option AV) := addPrim 44 p44 (addPrim 41 p41 (fun _ => none))
theorem primsF52 : PrimsOk NC PPF52 := primsOk_add (primsOk_add (primsOk_none) (by kernel_rfl) (by kernel_rfl) pok41) (by kernel_rfl) (by kernel_rfl) pok44
theorem enF52_41 : En PPF52 41 p41 := enter_prim (by rfl) (by kernel_rfl)
theorem enF52_44 : En PPF52 44 p44 := enter_prim (by rfl) (by kernel_rfl)
attribute [go_sem ↓] enF52_41 enF52_44
theorem c52 (m : List Mv) (hp : m.length ≤ 9223372036854775807) : ∀ lo H, CallOk NC lo 52 [.ps .unk (m.map Mv.row)] H (.bool (tinyB m)) H := by
  refine contract saneNC primsF52 (fn := Tryz.f52) (by kernel_rfl) Tryz.func52 rfl rfl (by rfl) (by first | rfl | (split <;> first | rfl | (split <;> rfl))) ?_
  have e41 := pe41 m hp
  have e44 := fun h => pe44 m h
  have hsm := fun h => (shortM_few (m := m) h).1
  unfold tinyB
  generalize shortM m = S at e41 hsm ⊢
  generalize mapR m = E at e44 ⊢
  cases S with
  | false => simp only [go_sem, reduceIte, Nat.reduceEqDiff, Nat.reduceAdd, Nat.reduceMul, Nat.reduceSub, Nat.reduceLeDiff, Nat.reduceLT, Nat.reduceBEq, reduceCtorEq, e41]
  | true =>
    have hp : m.length ≤ maxRows := by have := hsm rfl; unfold maxRows; omega
    have e44 := e44 hp
    rcases Classical.propComplete (E = 0) with z | z
    case inr => simp only [go_sem, reduceIte, Nat.reduceEqDiff, Nat.reduceAdd, Nat.reduceMul, Nat.reduceSub, Nat.reduceLeDiff, Nat.reduceLT, Nat.reduceBEq, reduceCtorEq, e41, e44, z]
    rcases Classical.propComplete ((6 : Int) < m.length) with q | q
    case inl => simp only [go_sem, reduceIte, Nat.reduceEqDiff, Nat.reduceAdd, Nat.reduceMul, Nat.reduceSub, Nat.reduceLeDiff, Nat.reduceLT, Nat.reduceBEq, reduceCtorEq, e41, e44, z, List.length_map, q]
    simp only [go_sem, reduceIte, Nat.reduceEqDiff, Nat.reduceAdd, Nat.reduceMul, Nat.reduceSub, Nat.reduceLeDiff, Nat.reduceLT, Nat.reduceBEq, reduceCtorEq, e41, e44, z, List.length_map, q]
    refine W_for (fun k T H M => M = [] ∧ getT T 0 = .ps .unk (m.map Mv.row) ∧ getT T 4 = i64 k ∧ ∃ s, getT T 3 = i64 s ∧ lenW m 0 = lenW (m.drop k) s) m.length ?_ ?_ ?_
    · simp only [go_sem, reduceIte, Nat.reduceEqDiff, Nat.reduceAdd, Nat.reduceMul, Nat.reduceSub, Nat.reduceLeDiff, Nat.reduceLT, Nat.reduceBEq, reduceCtorEq]; exact ⟨0, rfl, rfl⟩
    · rintro k T H M hk ⟨rfl, g0, g4, s, g3, hs⟩
      obtain ⟨x, hx⟩ : ∃ p, m[k]? = some p := ⟨m[k], by simp⟩
      have hr := map_at (f := Mv.row) hx
      have hw := wrap_succ hk hp
      rw [drop_at hx] at hs
      obtain ⟨a1, a2, a3, a4, a5, a6⟩ := x
      simp only [Mv.row] at hr
      simp only [go_sem, reduceIte, Nat.reduceEqDiff, Nat.reduceAdd, Nat.reduceMul, Nat.reduceSub, Nat.reduceLeDiff, Nat.reduceLT, Nat.reduceBEq, reduceCtorEq, g0, g4, g3, List.length_map, hk, hr, hw]
      exact ⟨_, rfl, hs⟩
    · rintro T H M ⟨rfl, g0, g4, s, g3, hs⟩
      rw [List.drop_length] at hs
      have hs : lenW m 0 = s := hs
      simp only [go_sem, reduceIte, Nat.reduceEqDiff, Nat.reduceAdd, Nat.reduceMul, Nat.reduceSub, Nat.reduceLeDiff, Nat.reduceLT, Nat.reduceBEq, reduceCtorEq, g0, g4, g3, List.length_map, Nat.lt_irrefl, hs, z, q]
noncomputable def p52 : List AV → Option AV := primOf (α := (List Mv)) (fun x => [.ps .unk (x.map Mv.row)]) (fun x => x.length ≤ 9223372036854775807) (fun x => .bool (tinyB x))
theorem pok52 : ∀ args v, p52 args = some v → ∀ lo H, CallOk NC lo 52 args H v H := by
  intro args v h
  obtain ⟨x, rfl, hp, rfl⟩ := primOf_inv h
  exact c52 x hp
theorem pe52 (m : List Mv) (hp : m.length ≤ 9223372036854775807) : p52 [.ps .unk (m.map Mv.row)] = some (.bool (tinyB m)) := primOf_enc (α := (List Mv)) (enc := fun x => [.ps .unk (x.map Mv.row)]) (pre := fun x => x.length ≤ 9223372036854775807) (spec := fun x => .bool (tinyB x)) (by intro x y h; (simp only [List.cons.injEq, AV.agg.injEq, AV.str.injEq, AV.int.injEq, AV.ps.injEq, AV.bool.injEq, Net.cells_iff, Ln.row_iff, Pc.row_iff, Mv.row_iff, lns_iff, pcs_iff, mvs_iff, true_and, and_true] at h; first | simpa only [Prod.ext_iff] using h | simpa only [Prod.ext_iff, and_assoc] using h)) m hp
end Go.Sim

/-
The plain law of maps that undo maps and of composed ones, as the statement asks it.
-/
namespace Go.Sim
open Go
/-! ### Words of valid maps are short -/
theorem sumL_cons (x : Mv) (r : List Mv) : sumL (x :: r) = x.len + sumL r := by unfold sumL; rw [List.map_cons, List.sum_cons]
theorem lenW_sum : ∀ {m : List Mv} {s : Int}, (∀ x ∈ m, x.Good) → 0 ≤ s → s + m.length * 800000 ≤ 9223372036854775807 → lenW m s = s + sumL m
  | [], s, _, _, _ => by simp [lenW, sumL]
  | x :: r, s, hg, h0, h1 => by
    have g := hg x (by simp)
    have := g.len; have := g.fr; have := g.frl
    have e : Int.add s x.len = s + x.len := rfl
    simp only [List.length_cons] at h1
    have hw : wrapq .i64 (Int.add s x.len) = s + x.len := by rw [e]; exact wrapq_i64 (by omega) (by omega)
    show lenW r (wrapq .i64 (Int.add s x.len)) = _
    rw [hw, lenW_sum (fun y hy => hg y (by simp [hy])) (by omega) (by omega), sumL_cons]; omega
structure Tny (m : List Mv) : Prop where
  valid : mapR m = 0
  few : m.length ≤ 6
  sum : sumL m ≤ 60
theorem tiny_of {m : List Mv} (h : tinyB m = true) : Tny m := by
  unfold tinyB at h
  simp only [Bool.and_eq_true, Bool.not_eq_true', decide_eq_true_eq, decide_eq_false_iff_not] at h
  obtain ⟨_, h1, h2, h3⟩ := h
  have hl : m.length ≤ 6 := by omega
  refine ⟨h1, hl, ?_⟩
  rw [lenW_sum (fun x hx => map_good h1 hx) (by omega) (by omega)] at h3
  omega
theorem Tny.fair {m : List Mv} (h : Tny m) : Fair m := fair_of h.valid
theorem Tny.len {m : List Mv} (h : Tny m) {x : Mv} (hx : x ∈ m) : 1 ≤ x.len ∧ x.len ≤ 60 := by
  have h1 := len_sum (fun y hy => by have := (map_good h.valid hy).len; omega) hx
  have := (map_good h.valid hx).len
  have := h.sum
  omega
/-! ### What the statement asks -/
theorem carO_mv {a : List Mv} (h : Fair a) {x : Mv} (hx : x ∈ a) {k : Nat} (hk : (k : Int) < x.len) : carO a (x.line, x.fr + k) = some (x.other, x.dst k) := by
  rw [carO_iff h]
  refine ⟨x, hx, rfl, by show x.fr ≤ x.fr + (k : Int); omega, by show x.fr + (k : Int) < _; omega, ?_⟩
  have : x.fr + (k : Int) - x.fr = k := by omega
  show _ = (x.other, x.dst (x.fr + (k : Int) - x.fr))
  rw [this]
structure Undo (a b : List Mv) : Prop where
  ua : mapR (undoM a) = 0
  sa : mapR (shortM' a) = 0
  ca : mapR (compM a b) = 0
  na : mapR (compM a (undoM a)) = 0
  ul : (undoM a).length ≤ 6
  sl : (shortM' a).length ≤ 6
  cl : (compM a b).length ≤ 12
  nl : (compM a (undoM a)).length ≤ 12
  twice : undoM (undoM a) = shortM' a
  us : sumL (undoM a) = sumL a
  ss : sumL (shortM' a) = sumL a
  cs : sumL (compM a b) ≤ 60
theorem undo_all {a b : List Mv} (ha : Tny a) (hb : Tny b) : Undo a b := by
  have fa := ha.fair
  have fb := hb.fair
  have la := ha.few
  have lb := hb.few
  have ul := undoM_len fa
  have sl := shortM_len fa.good
  have ua := undoM_valid fa (by omega)
  have fu := fair_of ua
  have cl := compM_len fa fb
  have nl := compM_len fa fu
  have cs := comp_sum fa fb (by omega)
  have := ha.sum
  exact ⟨ua, shortM_valid fa (by omega), compM_valid fa fb (by omega), compM_valid fa fu (by omega), by omega, by omega, by omega, by omega, undo_twice fa (by omega), undo_sum fa (by omega), short_sum fa (by omega), by omega⟩
end Go.Sim

/-
Pairs of places, by the reference: their order, their sorting.
-/
-- INJ Pr.row_iff prs_iff
namespace Go.Sim
open Go Go.Proofs
set_option maxRecDepth 100000
set_option maxHeartbeats 16000000
def Pr.row (p : Pr) : List AV := [.str p.a, i64 p.i, .str p.b, i64 p.j]
theorem Pr.row_len (p : Pr) : p.row.length = 4 := rfl
theorem Pr.row_inj (a b : Pr) (h : a.row = b.row) : a = b := by
  cases a; cases b; simp [Pr.row] at h; obtain ⟨rfl, rfl, rfl, rfl⟩ := h; rfl
theorem Pr.row_iff (a b : Pr) : a.row = b.row ↔ a = b := ⟨Pr.row_inj a b, fun h => by rw [h]⟩
theorem prs_iff (a b : List Pr) : a.map Pr.row = b.map Pr.row ↔ a = b := ⟨fun h => map_inj Pr.row_inj h, fun h => by rw [h]⟩
noncomputable def PPF201 : FuncId → Option (List AV → Option AV) := fun _ => none
theorem primsF201 : PrimsOk NC PPF201 := primsOk_none
theorem c201 (s : List Nat) (i : Int) (t : List Nat) (j : Int) : ∀ lo H, CallOk NC lo 201 [.agg [.str s, i64 i], .agg [.str t, i64 j]] H (.bool (plt s i t j)) H := by
  refine contract saneNC primsF201 (fn := Tryz.f201) (by kernel_rfl) Tryz.func201 rfl rfl (by rfl) (by first | rfl | (split <;> first | rfl | (split <;> rfl))) ?_
  unfold plt
  cases h1 : strLt s t <;> cases h2 : beqL s t <;> simp only [go_sem, reduceIte, Nat.reduceEqDiff, Nat.reduceAdd, Nat.reduceMul, Nat.reduceSub, Nat.reduceLeDiff, Nat.reduceLT, Nat.reduceBEq, reduceCtorEq, h1, h2]
noncomputable def p201 : List AV → Option AV := primOf (α := (List Nat) × (Int) × (List Nat) × (Int)) (fun x => [.agg [.str x.1, i64 x.2.1], .agg [.str x.2.2.1, i64 x.2.2.2]]) (fun x => True) (fun x => .bool (plt x.1 x.2.1 x.2.2.1 x.2.2.2))
theorem pok201 : ∀ args v, p201 args = some v → ∀ lo H, CallOk NC lo 201 args H v H := by
  intro args v h
  obtain ⟨x, rfl, hp, rfl⟩ := primOf_inv h
  exact c201 x.1 x.2.1 x.2.2.1 x.2.2.2
theorem pe201 (s : List Nat) (i : Int) (t : List Nat) (j : Int) : p201 [.agg [.str s, .int .i64 i], .agg [.str t, .int .i64 j]] = some (.bool (plt s i t j)) := primOf_enc (α := (List Nat) × (Int) × (List Nat) × (Int)) (enc := fun x => [.agg [.str x.1, i64 x.2.1], .agg [.str x.2.2.1, i64 x.2.2.2]]) (pre := fun x => True) (spec := fun x => .bool (plt x.1 x.2.1 x.2.2.1 x.2.2.2)) (by intro x y h; (simp only [List.cons.injEq, AV.agg.injEq, AV.str.injEq, AV.int.injEq, AV.ps.injEq, AV.bool.injEq, Net.cells_iff, Ln.row_iff, Pc.row_iff, Mv.row_iff, lns_iff, pcs_iff, mvs_iff, Pr.row_iff, prs_iff, true_and, and_true] at h; first | simpa only [Prod.ext_iff] using h | simpa only [Prod.ext_iff, and_assoc] using h)) (s, i, t, j) trivial
def nextI (p q : Pr) (s : Int) : Bool := beqL q.a p.a && decide (q.i = wrapq .i64 (Int.add p.i 1)) && (beqL q.b p.b && decide (q.j = wrapq .i64 (Int.add p.j s)))
theorem aeq28b (a a' : List Nat) (b b' : Int) : aeqT NC.P 100 28 (.agg [.str a, .int .i64 b]) (.agg [.str a', .int .i64 b']) = some (beqL a a' && decide (b = b')) := by
  rw [aeq28']
  have : eqI b b' = decide (b = b') := eqI_iff b b'
  rw [this]
  cases beqL a a' <;> cases decide (b = b') <;> rfl
noncomputable def PPF138 : FuncId → Option (List AV → Option AV) := fun _ => none
theorem primsF138 : PrimsOk NC PPF138 := primsOk_none
theorem c138 (p q : Pr) (s : Int) : ∀ lo H, CallOk NC lo 138 [.agg p.row, .agg q.row, i64 s] H (.bool (nextI p q s)) H := by
  refine contract saneNC primsF138 (fn := Tryz.f138) (by kernel_rfl) Tryz.func138 rfl rfl (by rfl) (by first | rfl | (split <;> first | rfl | (split <;> rfl))) ?_
  unfold nextI
  obtain ⟨a, i, b, j⟩ := p
  obtain ⟨a', i', b', j'⟩ := q
  generalize hX : wrapq .i64 (Int.add i 1) = X
  generalize hY : wrapq .i64 (Int.add j s) = Y
  have k1 := aeq28b a' a i' X
  have k2 := aeq28b b' b j' Y
  simp only
  generalize (beqL a' a && decide (i' = X)) = B1 at k1 ⊢
  generalize (beqL b' b && decide (j' = Y)) = B2 at k2 ⊢
  cases B1 <;> cases B2 <;> simp only [go_sem, reduceIte, Nat.reduceEqDiff, Nat.reduceAdd, Nat.reduceMul, Nat.reduceSub, Nat.reduceLeDiff, Nat.reduceLT, Nat.reduceBEq, reduceCtorEq, Pr.row, hX, hY, ety28, k1, k2]
noncomputable def p138 : List AV → Option AV := primOf (α := (Pr) × (Pr) × (Int)) (fun x => [.agg x.1.row, .agg x.2.1.row, i64 x.2.2]) (fun x => True) (fun x => .bool (nextI x.1 x.2.1 x.2.2))
theorem pok138 : ∀ args v, p138 args = some v → ∀ lo H, CallOk NC lo 138 args H v H := by
  intro args v h
  obtain ⟨x, rfl, hp, rfl⟩ := primOf_inv h
  exact c138 x.1 x.2.1 x.2.2
theorem pe138 (p q : Pr) (s : Int) : p138 [.agg p.row, .agg q.row, .int .i64 s] = some (.bool (nextI p q s)) := primOf_enc (α := (Pr) × (Pr) × (Int)) (enc := fun x => [.agg x.1.row, .agg x.2.1.row, i64 x.2.2]) (pre := fun x => True) (spec := fun x => .bool (nextI x.1 x.2.1 x.2.2)) (by intro x y h; (simp only [List.cons.injEq, AV.agg.injEq, AV.str.injEq, AV.int.injEq, AV.ps.injEq, AV.bool.injEq, Net.cells_iff, Ln.row_iff, Pc.row_iff, Mv.row_iff, lns_iff, pcs_iff, mvs_iff, Pr.row_iff, prs_iff, true_and, and_true] at h; first | simpa only [Prod.ext_iff] using h | simpa only [Prod.ext_iff, and_assoc] using h)) (p, q, s) trivial
theorem next_small {p q : Pr} (hp : p.ok) {s : Int} (hs : s = 1 ∨ s = -1) : nextI p q s = p.next q s := by
  obtain ⟨_, _, h1, h2, h3, h4⟩ := hp
  have e1 : Int.add p.i 1 = p.i + 1 := rfl
  have e2 : Int.add p.j s = p.j + s := rfl
  unfold nextI Pr.next
  rw [e1, e2, wrap_small (x := p.i + 1) (by omega) (by omega), wrap_small (x := p.j + s) (by omega) (by omega)]
/-! ### Cells of pairs -/
def prF (l : List Pr) : List AV := (l.map Pr.row).flatten
theorem pr_at {l : List Pr} {k : Nat} {p : Pr} (h : l[k]? = some p) : ∃ rest, (prF l).drop (k * 4) = .str p.a :: i64 p.i :: .str p.b :: i64 p.j :: rest ∧ (prF l).drop (k * 4 + 1) = i64 p.i :: .str p.b :: i64 p.j :: rest ∧ (prF l).drop (k * 4 + 2) = .str p.b :: i64 p.j :: rest ∧ (prF l).drop (k * 4 + 2 + 1) = i64 p.j :: rest ∧
    (k * 4 + 4 ≤ (prF l).length) = True ∧ (k * 4 + 2 ≤ (prF l).length) = True ∧ (k * 4 + 1 ≤ (prF l).length) = True ∧ (k * 4 + 1 + 1 ≤ (prF l).length) = True ∧ (k * 4 + 2 + 2 ≤ (prF l).length) = True ∧ (k * 4 + 2 + 1 ≤ (prF l).length) = True ∧ (k * 4 + 2 + 1 + 1 ≤ (prF l).length) = True := by
  obtain ⟨a, b, h1, h2, _⟩ := fl_split (Even.map Pr.row_len l) (map_at (f := Pr.row) h)
  have h1 : prF l = a ++ p.row ++ b := h1
  have hl : (prF l).length = k * 4 + 4 + b.length := by rw [h1, List.length_append, List.length_append, h2, Pr.row_len]
  have hd : ∀ n, (prF l).drop (k * 4 + n) = (p.row ++ b).drop n := by
    intro n
    rw [h1, List.append_assoc, ← h2, List.drop_append]
    simp
  refine ⟨b, ?_, ?_, ?_, ?_, ?_, ?_, ?_, ?_, ?_, ?_, ?_⟩
  · have := hd 0; rw [Nat.add_zero] at this; rw [this]; rfl
  · rw [hd 1]; rfl
  · rw [hd 2]; rfl
  · rw [Nat.add_assoc, hd 3]; rfl
  all_goals (simp only [eq_iff_iff, iff_true]; omega)
theorem pr_over {l : List Pr} {k : Nat} {p : Pr} (h : l[k]? = some p) (q : Pr) : over (prF l) (k * 4) q.row = prF (l.set k q) := by
  unfold prF
  rw [fl_over (Even.map Pr.row_len l) (map_at (f := Pr.row) h) (Pr.row_len q), List.map_set]
end Go.Sim

/-
Pairs sorted, by the reference.
-/
-- INJ Pr.row_iff prs_iff
namespace Go.Sim
open Go Go.Proofs
set_option maxRecDepth 100000
set_option maxHeartbeats 16000000
variable {P : FuncId → Option (List AV → Option AV)}
def RdP (H : Heap) (v : AV) (l : List Pr) : Prop := (∃ t, v = .ps t (l.map Pr.row)) ∨ ∃ id, v = .rs id 0 l.length 4 none ∧ l ≠ [] ∧ id < H.n ∧ H.get id = .row (prF l) 4 137
theorem RdP.rows {H : Heap} {v : AV} {l : List Pr} (h : RdP H v l) : rowsIn H 4 v = some (l.map Pr.row) := by
  rcases h with ⟨t, rfl⟩ | ⟨id, rfl, h2, h3, h4⟩
  · show (if (l.map Pr.row).all (fun r => decide (r.length = 4)) = true then some (l.map Pr.row) else none) = _
    rw [if_pos (rows_all Pr.row_len _)]
  · unfold rowsIn
    have hl : (prF l).length = l.length * 4 := by unfold prF; rw [fl_len (Even.map Pr.row_len l), List.length_map]
    have f1 : (0 + l.length * 4 ≤ (prF l).length) = True := by rw [hl]; simp
    have f2 : ((prF l).drop 0).take (l.length * 4) = prF l := by rw [List.drop_zero, ← hl, List.take_length]
    simp only [if_true, readCells, h4, blkCells, sub?, f1, f2]
    have := chunks_flat (Even.map Pr.row_len l)
    rw [List.length_map] at this
    exact this
theorem en201 (h : P 201 = some p201) {lo : Nat} {rec : Rec} {args : List AV} {H : Heap} {K : AV → Heap → Prop} : VO (aenter (NC.withPrims P) rec lo 201 args H) K = AO (p201 args) fun v => K v H := enter_prim (by rfl) (known h (by kernel_rfl))
theorem isort_one (l : List Pr) : isort prLt (l.take 1) ++ l.drop 1 = l := by
  cases l with
  | nil => rfl
  | cons a r => rfl
theorem r139 (h201 : P 201 = some p201) (l : List Pr) (hne : l ≠ []) (hl : l.length ≤ maxRows) (v : AV) (lo : Nat) (H : Heap) (hlo : lo ≤ H.n) (hv : RdP H v l) :
    ∃ v' H', R (NC.withPrims P) (.call lo 139 [v] H) = some (.ofVal v' H') ∧ v' = .rs H.n 0 l.length 4 none ∧ H'.get H.n = .row (prF (isort prLt l)) 4 137 ∧ H.n < H'.n ∧ ∀ i, i < H.n → H'.get i = H.get i := by
  refine R_of_body (C := NC.withPrims P) (f := 139) (lo := lo) (args := [v]) (H := H) (fn := Tryz.f139) (Q := fun v' H' => v' = .rs H.n 0 l.length 4 none ∧ H'.get H.n = .row (prF (isort prLt l)) 4 137 ∧ H.n < H'.n ∧ ∀ i, i < H.n → H'.get i = H.get i) (by kernel_rfl) Tryz.func139 rfl rfl ?_
  have hrows := hv.rows
  have hap : appR lo H 4 137 (.ps .exact []) (l.map Pr.row) = some (.rs H.n 0 l.length 4 none, H.push (.row (prF l) 4 137)) := by
    cases l with
    | nil => exact absurd rfl hne
    | cons x r =>
      unfold appR
      have h1 : ((x :: r).map Pr.row).all (fun r => r.all AV.one) = true := by
        rw [List.all_eq_true]
        intro y hy
        obtain ⟨z, _, rfl⟩ := List.mem_map.1 hy
        rfl
      have h2 : ([] : List (List AV)).length + ((x :: r).map Pr.row).length ≤ maxRows := by simpa using hl
      have h3 : ([] : List (List AV)).length + ((x :: r).map Pr.row).length = (x :: r).length := by simp
      simp only [List.map_cons] at h1 h2 h3 ⊢
      simp only [Tok.full, h1, h3, hl, decide_true, List.all_nil, Bool.and_true, if_true, List.nil_append, Bool.true_and]
      rfl
  simp only [go_sem, reduceIte, Nat.reduceEqDiff, Nat.reduceAdd, Nat.reduceMul, Nat.reduceSub, Nat.reduceLeDiff, Nat.reduceLT, Nat.reduceBEq, reduceCtorEq] at hrows
  have hpos : 0 < l.length := List.length_pos_iff.2 hne
  simp only [go_sem, reduceIte, Nat.reduceEqDiff, Nat.reduceAdd, Nat.reduceMul, Nat.reduceSub, Nat.reduceLeDiff, Nat.reduceLT, Nat.reduceBEq, reduceCtorEq, appO, hrows, hap]
  refine W_for (fun k T H' M => M = [] ∧ getT T 3 = .rs H.n 0 l.length 4 none ∧ getT T 4 = i64 ((k + 1 : Nat) : Int) ∧ H.n < H'.n ∧ (∀ i, i < H.n → H'.get i = H.get i) ∧ H'.get H.n = .row (prF (isort prLt (l.take (k + 1)) ++ l.drop (k + 1))) 4 137) (l.length - 1) ?_ ?_ ?_
  · simp only [go_sem, reduceIte, Nat.reduceEqDiff, Nat.reduceAdd, Nat.reduceMul, Nat.reduceSub, Nat.reduceLeDiff, Nat.reduceLT, Nat.reduceBEq, reduceCtorEq]
    refine ⟨rfl, fun i hi => if_neg (by omega), ?_⟩
    rw [isort_one]
  · rintro k T H1 M hk ⟨rfl, g3, g4, hn1, ho1, hs1⟩
    have hi : k + 1 < l.length := by omega
    obtain ⟨x, hx⟩ : ∃ p, l[k + 1]? = some p := ⟨l[k + 1], by simp⟩
    have hw := wrap_succ hi hl
    have hlen : (isort prLt (l.take (k + 1))).length = k + 1 := by rw [isort_length, List.length_take]; omega
    have hdone : ∀ pre suf, isort prLt (l.take (k + 1)) = pre ++ suf → (∀ y ∈ suf, prLt x y = true) → (pre = [] ∨ ∃ p y, pre = p ++ [y] ∧ prLt x y = false) → isort prLt (l.take (k + 1 + 1)) ++ l.drop (k + 1 + 1) = pre ++ x :: (suf ++ l.drop (k + 1 + 1)) := by
      intro pre suf h1 h2 h3
      rw [take_snoc hx, isort_snoc, h1, ins_at prLt h2 h3]; simp
    have hxat : (isort prLt (l.take (k + 1)) ++ l.drop (k + 1))[k + 1]? = some x := by
      rw [List.getElem?_append_right (by omega), hlen, List.getElem?_drop]
      simpa using hx
    obtain ⟨rest, d0, _, _, _, z4, _⟩ := pr_at hxat
    have hbn : (H.n = H1.n) = False := by simp only [eq_iff_iff, iff_false]; omega
    have hxr : x.row = [.str x.a, i64 x.i, .str x.b, i64 x.j] := rfl
    have hD : isort prLt (l.take (k + 1)) ++ l.drop (k + 1) = isort prLt (l.take (k + 1)) ++ x :: l.drop (k + 1 + 1) := by rw [drop_cons_at hx]
    have hlo1 : (lo ≤ H1.n) = True := by simp only [eq_iff_iff, iff_true]; omega
    simp only [go_sem, reduceIte, Nat.reduceEqDiff, Nat.reduceAdd, Nat.reduceMul, Nat.reduceSub, Nat.reduceLeDiff, Nat.reduceLT, Nat.reduceBEq, reduceCtorEq, g3, g4, hi, hs1, d0, z4, hlo1]
    refine W_for (fun m T H' M => M = [] ∧ getT T 3 = .rs H.n 0 l.length 4 none ∧ getT T 4 = i64 ((k + 1 : Nat) : Int) ∧ getT T 5 = .ptr H1.n 0 ∧ getT T 6 = i64 ((k + 1 - m : Nat) : Int) ∧ H1.n < H'.n ∧ H'.get H1.n = .cells x.row 137 ∧ (∀ i, i < H.n → H'.get i = H.get i) ∧ ∃ pre suf h, isort prLt (l.take (k + 1)) = pre ++ suf ∧ suf.length = m ∧ (∀ y ∈ suf, prLt x y = true) ∧ H'.get H.n = .row (prF (pre ++ h :: (suf ++ l.drop (k + 1 + 1)))) 4 137) (k + 1) ?_ ?_ ?_
    · simp only [go_sem, reduceIte, Nat.reduceEqDiff, Nat.reduceAdd, Nat.reduceMul, Nat.reduceSub, Nat.reduceLeDiff, Nat.reduceLT, Nat.reduceBEq, reduceCtorEq, g3, g4, Nat.sub_zero, hbn, hs1]
      refine ⟨hxr.symm ▸ rfl, fun i hi => ?_, _, [], x, (List.append_nil _).symm, rfl, fun y hy => (by cases hy), by rw [hD]; rfl⟩
      rw [if_neg (by omega), if_neg (by omega)]; exact ho1 i hi
    · rintro m T H2 M hm ⟨rfl, i3, i4, i5, i6, hn2, hx2, ho2, pre, suf, h, hp, hsl, hlt, hs2⟩
      have hpl : pre.length = k + 1 - m := by
        have := congrArg List.length hp
        rw [hlen, List.length_append] at this; omega
      obtain ⟨p, y, rfl⟩ : ∃ p y, pre = p ++ [y] := by
        have hne : pre ≠ [] := by intro e; rw [e] at hpl; simp at hpl; omega
        exact ⟨pre.dropLast, pre.getLast hne, (List.dropLast_concat_getLast hne).symm⟩
      have hq : k + 1 - m = p.length + 1 := by simp at hpl; omega
      have hq2 : k + 1 - (m + 1) = p.length := by omega
      rw [hq] at i6
      have e1 : p ++ [y] ++ h :: (suf ++ l.drop (k + 1 + 1)) = p ++ y :: h :: (suf ++ l.drop (k + 1 + 1)) := by simp
      rw [e1] at hs2
      obtain ⟨ry, y0, y1, y2, y3, yl4, yl2, _⟩ := pr_at (mid_at p y (h :: (suf ++ l.drop (k + 1 + 1))))
      obtain ⟨rh, _, _, _, _, hl4, _⟩ := pr_at (mid_at1 p y h (suf ++ l.drop (k + 1 + 1)))
      have oy := pr_over (mid_at1 p y h (suf ++ l.drop (k + 1 + 1))) y
      have ox := pr_over (mid_at1 p y h (suf ++ l.drop (k + 1 + 1))) x
      have set1 : ∀ z : Pr, (p ++ y :: h :: (suf ++ l.drop (k + 1 + 1))).set (p.length + 1) z = p ++ y :: z :: (suf ++ l.drop (k + 1 + 1)) := by
        intro z
        rw [List.set_append_right _ _ (by omega)]
        have : p.length + 1 - p.length = 1 := by omega
        rw [this]; rfl
      rw [set1] at oy ox
      have hnext := hdone (p ++ [y]) suf hp hlt
      have hjl : p.length + 1 < l.length := by omega
      have hj0 : p.length < l.length := by omega
      have hwp : wrapq .i64 (Int.sub ((p.length + 1 : Nat) : Int) 1) = ((p.length : Nat) : Int) := by
        have := wrap_pred (k := p.length + 1) (n := l.length) (by omega) (by omega) hl
        simpa using this
      have hpos : ((0 : Int) < ((p.length + 1 : Nat) : Int)) = True := by simp only [eq_iff_iff, iff_true]; omega
      have e201 : p201 [.agg [.str x.a, .int .i64 x.i], .agg [.str y.a, .int .i64 y.i]] = some (.bool (prLt x y)) := pe201 x.a x.i y.a y.i
      have hlob : (lo ≤ H.n) = True := by simp [hlo]
      have hb1 : (H.n = H1.n) = False := hbn
      have hb2 : (H1.n = H.n) = False := by simp only [eq_iff_iff, iff_false]; omega
      generalize prF (p ++ y :: h :: (suf ++ l.drop (k + 1 + 1))) = F at hs2 y0 y1 y2 y3 yl4 yl2 hl4 oy ox
      cases hB : prLt x y with
      | true =>
        rw [hB] at e201
        have hend : isort prLt (l.take (k + 1)) = p ++ y :: suf := by rw [hp]; simp
        obtain ⟨x1, x2, x3, x4⟩ := x
        obtain ⟨y1', y2', y3', y4'⟩ := y
        simp only [Pr.row] at oy hx2
        simp only [over, List.length_cons, List.length_nil, Nat.reduceAdd, Nat.zero_add] at oy
        simp only at y0 y1 y2 y3 e201
        simp only [go_sem, reduceIte, Nat.reduceEqDiff, Nat.reduceAdd, Nat.reduceMul, Nat.reduceSub, Nat.reduceLeDiff, Nat.reduceLT, Nat.reduceBEq, reduceCtorEq, i3, i4, i5, i6, hs2, hx2, hlob, hb1, hb2, en201 h201, e201, y0, yl4, yl2, hl4, oy, hjl, hj0, hwp, hpos]
        refine ⟨by rw [hq2], hn2, rfl, fun i hi => ?_, p, _ :: suf, _, hend, by simp [hsl], fun w hw => ?_, rfl⟩
        · rw [if_neg (by omega)]; exact ho2 i hi
        · rcases List.mem_cons.1 hw with rfl | hw
          · exact hB
          · exact hlt w hw
      | false =>
        rw [hB] at e201
        have hnx := hnext (.inr ⟨p, y, rfl, hB⟩)
        have e2 : p ++ [y] ++ x :: (suf ++ l.drop (k + 1 + 1)) = p ++ y :: x :: (suf ++ l.drop (k + 1 + 1)) := by simp
        rw [e2] at hnx
        rw [← hnx] at ox
        clear hnx hnext hdone hxat hD e2 set1
        obtain ⟨x1, x2, x3, x4⟩ := x
        obtain ⟨y1', y2', y3', y4'⟩ := y
        simp only [Pr.row] at ox hx2
        simp only [over, List.length_cons, List.length_nil, Nat.reduceAdd, Nat.zero_add] at ox
        simp only at y0 y1 y2 y3 e201
        simp only [go_sem, reduceIte, Nat.reduceEqDiff, Nat.reduceAdd, Nat.reduceMul, Nat.reduceSub, Nat.reduceLeDiff, Nat.reduceLT, Nat.reduceBEq, reduceCtorEq, i3, i4, i5, i6, hs2, hx2, hlob, hb1, hb2, en201 h201, e201, y0, yl4, yl2, hl4, ox, hjl, hj0, hwp, hpos, hw]
        refine ⟨by omega, fun i hi => ?_⟩
        rw [if_neg (by omega)]; exact ho2 i hi
    · rintro T H2 M ⟨rfl, i3, i4, i5, i6, hn2, hx2, ho2, pre, suf, h, hp, hsl, hlt, hs2⟩
      have hpl : pre = [] := by
        have := congrArg List.length hp
        rw [hlen, List.length_append] at this
        exact List.length_eq_zero_iff.1 (by omega)
      subst hpl
      have hnx := hdone [] suf hp hlt (.inl rfl)
      rw [List.nil_append] at hs2
      have h0 : (h :: (suf ++ l.drop (k + 1 + 1)))[0]? = some h := rfl
      obtain ⟨rh, _, _, _, _, hl4, _⟩ := pr_at h0
      have ox := pr_over h0 x
      have set0 : (h :: (suf ++ l.drop (k + 1 + 1))).set 0 x = x :: (suf ++ l.drop (k + 1 + 1)) := rfl
      rw [set0] at ox
      rw [List.nil_append] at hnx
      rw [← hnx] at ox
      rw [Nat.sub_self] at i6
      have i00 : ((0 : Int) < 0) = False := by simp
      have hlob : (lo ≤ H.n) = True := by simp [hlo]
      have hb2 : (H1.n = H.n) = False := by simp only [eq_iff_iff, iff_false]; omega
      have hj0 : 0 < l.length := hpos
      generalize prF (h :: (suf ++ l.drop (k + 1 + 1))) = F at hs2 hl4 ox
      clear hnx hdone hxat hD
      obtain ⟨x1, x2, x3, x4⟩ := x
      simp only [Pr.row] at ox hx2
      simp only [over, List.length_cons, List.length_nil, Nat.reduceAdd, Nat.zero_add, Nat.zero_mul] at ox hl4
      simp only [go_sem, reduceIte, Nat.reduceEqDiff, Nat.reduceAdd, Nat.reduceMul, Nat.reduceSub, Nat.reduceLeDiff, Nat.reduceLT, Nat.reduceBEq, reduceCtorEq, i3, i4, i5, i6, hs2, hx2, hlob, hb2, hl4, ox, hj0, i00, hw, Nat.zero_mul]
      refine ⟨by omega, fun i hi => ?_, ?_⟩
      · rw [if_neg (by omega)]; exact ho2 i hi
      · rw [← ox]; rfl
  · rintro T H1 M ⟨rfl, g3, g4, hn1, ho1, hs1⟩
    have hk : l.length - 1 + 1 = l.length := by omega
    rw [hk] at g4 hs1
    rw [List.take_length, List.drop_length, List.append_nil] at hs1
    simp only [go_sem, reduceIte, Nat.reduceEqDiff, Nat.reduceAdd, Nat.reduceMul, Nat.reduceSub, Nat.reduceLeDiff, Nat.reduceLT, Nat.reduceBEq, reduceCtorEq, g3, g4, Nat.lt_irrefl]
    exact ⟨hs1, hn1, ho1⟩
end Go.Sim

/-
Short forms, by the reference.
-/
-- INJ Pr.row_iff prs_iff
namespace Go.Sim
open Go Go.Proofs
set_option maxRecDepth 100000
set_option maxHeartbeats 16000000
variable {P : FuncId → Option (List AV → Option AV)}
theorem run_step (s : Int) : ∀ (p : Pr) (r : List Pr) (m : Nat), m < runLen s p r → ∃ a b, (p :: r)[m]? = some a ∧ (p :: r)[m + 1]? = some b ∧ a.next b s = true
  | p, [], m, h => by simp [runLen] at h
  | p, q :: r, m, h => by
    unfold runLen at h
    split at h
    · rename_i hq
      cases m with
      | zero => exact ⟨p, q, rfl, rfl, hq⟩
      | succ m =>
        obtain ⟨a, b, h1, h2, h3⟩ := run_step s q r m (by omega)
        exact ⟨a, b, by simpa using h1, by simpa using h2, h3⟩
    · omega
theorem run_stop (s : Int) : ∀ (p : Pr) (r : List Pr), ∃ a, (p :: r)[runLen s p r]? = some a ∧ ((p :: r)[runLen s p r + 1]? = none ∨ ∃ b, (p :: r)[runLen s p r + 1]? = some b ∧ a.next b s = false)
  | p, [] => ⟨p, rfl, .inl rfl⟩
  | p, q :: r => by
    unfold runLen
    split
    · obtain ⟨a, h1, h2⟩ := run_stop s q r
      refine ⟨a, by simpa using h1, ?_⟩
      rcases h2 with h2 | ⟨b, h2, h3⟩
      · exact .inl (by simpa using h2)
      · exact .inr ⟨b, by simpa using h2, h3⟩
    · rename_i hq
      exact ⟨p, rfl, .inr ⟨q, rfl, by simpa using hq⟩⟩
theorem greedy_le : ∀ (n : Nat) (l : List Pr), l.length ≤ n → (greedy l).length ≤ l.length
  | _, [], _ => by simp [greedy_nil]
  | 0, _ :: _, h => absurd h (by simp)
  | n + 1, p :: r, h => by
    have hd : (r.drop (runLen (signOf p r) p r)).length ≤ n := by
      rw [List.length_drop]; simp only [List.length_cons] at h; omega
    have := greedy_le n _ hd
    rw [greedy_cons, List.length_cons, List.length_cons]
    rw [List.length_drop] at this
    omega
def shortR (l : List Pr) : List AV := if (24 : Int) < ((greedy l).length : Nat) then [.ps .unk [], i64 5] else [.ps .unk ((greedy l).map Mv.row), i64 0]
theorem en138 (h : P 138 = some p138) {lo : Nat} {rec : Rec} {args : List AV} {H : Heap} {K : AV → Heap → Prop} : VO (aenter (NC.withPrims P) rec lo 138 args H) K = AO (p138 args) fun v => K v H := enter_prim (by rfl) (known h (by kernel_rfl))
theorem under_rs (n id off k sz : Nat) (cap : Option Nat) : (AV.rs id off k sz cap).under n = Nat.blt id n := by simp [AV.under]
theorem en56 {P : FuncId → Option (List AV → Option AV)} (hP : P 56 = none) {lo : Nat} {args : List AV} {H : Heap} {K : AV → Heap → Prop} : VO (aenter (NC.withPrims P) (R (NC.withPrims P)) lo 56 args H) K = AO (R (NC.withPrims P) (.call H.n 56 args H)) fun o => o.val.strip.pure = true ∧ K o.val.strip H := by
  refine enter_pure rfl ?_ (by kernel_rfl) (by kernel_rfl) (by kernel_rfl)
  show (match NC.prim 56 with | some p => some p | none => P 56) = none
  rw [hP]; kernel_rfl
theorem en139 {P : FuncId → Option (List AV → Option AV)} (hP : P 139 = none) {lo : Nat} {args : List AV} {H : Heap} {K : AV → Heap → Prop} : VO (aenter (NC.withPrims P) (R (NC.withPrims P)) lo 139 args H) K = AO (R (NC.withPrims P) (.call H.n 139 args H)) fun o => K o.val o.s.H := by
  refine enter_fresh rfl ?_ (by kernel_rfl) (by kernel_rfl) (by kernel_rfl)
  show (match NC.prim 139 with | some p => some p | none => P 139) = none
  rw [hP]; kernel_rfl
theorem en57 {P : FuncId → Option (List AV → Option AV)} (hP : P 57 = none) {lo : Nat} {args : List AV} {H : Heap} {K : AV → Heap → Prop} : VO (aenter (NC.withPrims P) (R (NC.withPrims P)) lo 57 args H) K = AO (R (NC.withPrims P) (.call H.n 57 args H)) fun o => K o.val o.s.H := by
  refine enter_fresh rfl ?_ (by kernel_rfl) (by kernel_rfl) (by kernel_rfl)
  show (match NC.prim 57 with | some p => some p | none => P 57) = none
  rw [hP]; kernel_rfl
theorem run_small {p : Pr} (hp : p.ok) {s : Int} (hs : s = 1 ∨ s = -1) {n : Nat} (hn : n ≤ maxRows) : (runMv p s n).row = [.str p.a, i64 p.i, i64 (n : Nat), .str p.b, i64 (if s < 0 then wrapq .i64 (Int.add (wrapq .i64 (Int.sub p.j (n : Nat))) 1) else p.j), .bool (decide (s < 0))] := by
  obtain ⟨_, _, h1, h2, h3, h4⟩ := hp
  unfold maxRows at hn
  have e1 : Int.sub p.j (n : Nat) = p.j - (n : Nat) := rfl
  have e2 : Int.add (p.j - (n : Nat)) 1 = p.j - (n : Nat) + 1 := rfl
  rw [e1, wrapq_i64 (x := p.j - (n : Nat)) (by omega) (by omega), e2, wrapq_i64 (x := p.j - (n : Nat) + 1) (by omega) (by omega)]
  rfl
theorem r56p (h138 : P 138 = some p138) (l : List Pr) (hl : l.length ≤ maxRows) (hok : ∀ p ∈ l, p.ok) (lo : Nat) (H : Heap) (hlo : lo ≤ H.n)  :
    ∃ v' H', R (NC.withPrims P) (.call lo 56 [(.ps .unk (l.map Pr.row))] H) = some (.ofVal v' H') ∧ v'.strip = .tup (shortR l) := by
  refine R_of_body (C := NC.withPrims P) (f := 56) (lo := lo) (args := [(.ps .unk (l.map Pr.row))]) (H := H) (fn := Tryz.f56) (Q := fun v' H' => v'.strip = .tup (shortR l)) (by kernel_rfl) Tryz.func56 rfl rfl ?_
  simp only [go_sem, reduceIte, Nat.reduceEqDiff, Nat.reduceAdd, Nat.reduceMul, Nat.reduceSub, Nat.reduceLeDiff, Nat.reduceLT, Nat.reduceBEq, reduceCtorEq]
  refine W_while (fun k T H' M => M = [] ∧ ∃ (i : Nat) (done : List Mv) (t : Tok), k = l.length - i ∧ i ≤ l.length ∧ getT T 0 = (.ps .unk (l.map Pr.row)) ∧ getT T 5 = i64 (i : Nat) ∧ getT T 4 = .ps t (done.map Mv.row) ∧ AppB H.n H' t (done.map Mv.row) 6 128 ∧ Old H.n H H' ∧ greedy l = done ++ greedy (l.drop i)) ?_ l.length _ _ _ ?_
  case refine_2 =>
    simp only [go_sem, reduceIte, Nat.reduceEqDiff, Nat.reduceAdd, Nat.reduceMul, Nat.reduceSub, Nat.reduceLeDiff, Nat.reduceLT, Nat.reduceBEq, reduceCtorEq]
    exact ⟨0, [], .nil, by omega, Nat.zero_le _, rfl, rfl, .inl ⟨rfl, rfl⟩, Old.refl H, by simp⟩
  case refine_1 =>
  rintro k T H1 M ⟨rfl, i, done, t, hk, hi, g0, g5, g4, hA, hO, hG⟩
  have hgl := greedy_le l.length l (Nat.le_refl _)
  rcases Nat.lt_or_ge i l.length with hil | hil
  case inr =>
    obtain rfl : i = l.length := by omega
    rw [List.drop_length, greedy_nil, List.append_nil] at hG
    subst hG
    unfold shortR
    rcases Classical.propComplete ((24 : Int) < ((greedy l).length : Nat)) with q | q <;> simp only [go_sem, reduceIte, Nat.reduceEqDiff, Nat.reduceAdd, Nat.reduceMul, Nat.reduceSub, Nat.reduceLeDiff, Nat.reduceLT, Nat.reduceBEq, reduceCtorEq, g0, g5, g4, List.length_map, Nat.lt_irrefl, q]
  obtain ⟨p, hp⟩ : ∃ p, l[i]? = some p := ⟨l[i], by simp⟩
  obtain ⟨rest, hrest⟩ : ∃ r, l.drop i = p :: r := ⟨_, drop_at hp⟩
  have hrest1 : rest = l.drop (i + 1) := by
    have := drop_at hp
    rw [hrest] at this
    exact (List.cons.inj this).2
  have hpok := hok p (List.mem_of_getElem? hp)
  rw [hrest, greedy_cons] at hG
  have hsg := sign_cases p rest
  have hNl := runLen_le (signOf p rest) p rest
  have hrl : rest.length + i + 1 = l.length := by
    have := congrArg List.length hrest
    rw [List.length_drop, List.length_cons] at this; omega
  have hat : ∀ m : Nat, (p :: rest)[m]? = l[i + m]? := fun m => by rw [← hrest, List.getElem?_drop]
  have hw1 : wrapq .i64 (Int.add (i : Int) 1) = ((i + 1 : Nat) : Int) := wrap_nat (n := i + 1) (by unfold maxRows at hl; omega)
  
  
  have inner : ∀ (s : Int), (s = 1 ∨ s = -1) → ∀ T, getT T 0 = (.ps .unk (l.map Pr.row)) → getT T 5 = i64 (i : Nat) → getT T 4 = .ps t (done.map Mv.row) → getT T 6 = i64 s → getT T 7 = i64 1 → W (NC.withPrims P) lo 56 false (.loop (digF [1,1,0,1,0,0,1,0,1,1,1,0,0,0] Tryz.f56)) T H1 [] (fun e T' H' M => e = .ext 2 ∧ M = [] ∧ H' = H1 ∧ getT T' 0 = (.ps .unk (l.map Pr.row)) ∧ getT T' 5 = i64 (i : Nat) ∧ getT T' 4 = .ps t (done.map Mv.row) ∧ getT T' 6 = i64 s ∧ getT T' 7 = i64 ((runLen s p rest + 1 : Nat) : Int)) := by
    intro s hs01 T a0 a5 a4 a6 a7
    refine W_for (fun m T' H' M => M = [] ∧ H' = H1 ∧ getT T' 0 = (.ps .unk (l.map Pr.row)) ∧ getT T' 5 = i64 (i : Nat) ∧ getT T' 4 = .ps t (done.map Mv.row) ∧ getT T' 6 = i64 s ∧ getT T' 7 = i64 ((m + 1 : Nat) : Int)) (runLen s p rest) ?_ ?_ ?_
    · exact ⟨rfl, rfl, a0, a5, a4, a6, a7⟩
    · rintro m T H' M hm ⟨rfl, rfl, g0, g5, g4, g6, g7⟩
      obtain ⟨a, b, ha, hb, hn⟩ := run_step s p rest m hm
      rw [hat] at ha hb
      have hNl' := runLen_le s p rest
      have x1 : i + m < l.length := by omega
      have x2 : i + (m + 1) < l.length := by omega
      have hwA : wrapq .i64 (Int.add (i : Int) ((m + 1 : Nat) : Int)) = ((i + (m + 1) : Nat) : Int) := wrap_nat (n := i + (m + 1)) (by unfold maxRows at hl; omega)
      have hwB : wrapq .i64 (Int.sub ((i + (m + 1) : Nat) : Int) 1) = ((i + m : Nat) : Int) := by
        have := wrap_pred (k := i + (m + 1)) (n := l.length) (by omega) (by omega) hl
        rw [this]; rfl
      have hwC : wrapq .i64 (Int.add ((m + 1 : Nat) : Int) 1) = ((m + 1 + 1 : Nat) : Int) := wrap_nat (n := m + 1 + 1) (by unfold maxRows at hl; omega)
      have e138 : p138 [.agg a.row, .agg b.row, .int .i64 s] = some (.bool true) := by rw [pe138, next_small (hok a (List.mem_of_getElem? ha)) hs01, hn]
      have ra := map_at (f := Pr.row) ha
      have rb := map_at (f := Pr.row) hb
      obtain ⟨a1, a2, a3, a4'⟩ := a
      obtain ⟨b1, b2, b3, b4⟩ := b
      simp only [Pr.row] at ra
      simp only [Pr.row] at rb
      simp only [Pr.row] at e138
      show W _ _ _ _ (Code.seq (Code.seq (Code.region 8 _ _) _) _) _ _ _ _
      simp only [go_sem, reduceIte, Nat.reduceEqDiff, Nat.reduceAdd, Nat.reduceMul, Nat.reduceSub, Nat.reduceLeDiff, Nat.reduceLT, Nat.reduceBEq, reduceCtorEq, g0, g5, g4, g6, g7, List.length_map, hwA, hwB, hwC, x1, x2, ra, rb, e138, en138 h138]
    · rintro T H' M ⟨rfl, rfl, g0, g5, g4, g6, g7⟩
      obtain ⟨a, ha, hstop⟩ := run_stop s p rest
      generalize runLen s p rest = m at ha hstop g7 ⊢
      rw [hat] at ha
      have x1 := (List.getElem?_eq_some_iff.1 ha).1
      have hwA : wrapq .i64 (Int.add (i : Int) ((m + 1 : Nat) : Int)) = ((i + (m + 1) : Nat) : Int) := wrap_nat (n := i + (m + 1)) (by unfold maxRows at hl; omega)
      rcases hstop with hb | ⟨b, hb, hn⟩
      · rw [hat] at hb
        have x2 : (i + (m + 1) < l.length) = False := by
          have := List.getElem?_eq_none_iff.1 hb
          simp only [eq_iff_iff, iff_false]; omega
        show W _ _ _ _ (Code.seq (Code.seq (Code.region 8 _ _) _) _) _ _ _ _
        simp only [go_sem, reduceIte, Nat.reduceEqDiff, Nat.reduceAdd, Nat.reduceMul, Nat.reduceSub, Nat.reduceLeDiff, Nat.reduceLT, Nat.reduceBEq, reduceCtorEq, g0, g5, g4, g6, g7, List.length_map, hwA, x2]
      · rw [hat] at hb
        have x2 := (List.getElem?_eq_some_iff.1 hb).1
        have hwB : wrapq .i64 (Int.sub ((i + (m + 1) : Nat) : Int) 1) = ((i + m : Nat) : Int) := by
          have := wrap_pred (k := i + (m + 1)) (n := l.length) (by omega) (by omega) hl
          rw [this]; rfl
        have x2 : i + (m + 1) < l.length := x2
        have e138 : p138 [.agg a.row, .agg b.row, .int .i64 s] = some (.bool false) := by rw [pe138, next_small (hok a (List.mem_of_getElem? ha)) hs01, hn]
        have ra := map_at (f := Pr.row) ha
        have rb := map_at (f := Pr.row) hb
        obtain ⟨a1, a2, a3, a4'⟩ := a
        obtain ⟨b1, b2, b3, b4⟩ := b
        simp only [Pr.row] at ra
        simp only [Pr.row] at rb
        simp only [Pr.row] at e138
        show W _ _ _ _ (Code.seq (Code.seq (Code.region 8 _ _) _) _) _ _ _ _
        simp only [go_sem, reduceIte, Nat.reduceEqDiff, Nat.reduceAdd, Nat.reduceMul, Nat.reduceSub, Nat.reduceLeDiff, Nat.reduceLT, Nat.reduceBEq, reduceCtorEq, g0, g5, g4, g6, g7, List.length_map, hwA, hwB, x1, x2, ra, rb, e138, en138 h138]
  have cont : ∀ (s : Int), (s = 1 ∨ s = -1) → s = signOf p rest → ∀ T, getT T 0 = (.ps .unk (l.map Pr.row)) → getT T 5 = i64 (i : Nat) → getT T 4 = .ps t (done.map Mv.row) → getT T 6 = i64 s → getT T 7 = i64 1 → W (NC.withPrims P) lo 56 false (digF [1,1,0,1,0,0,1,0,1,1,1] Tryz.f56) T H1 [] (fun e T H' M => e = .nrm ∧ ∃ m, m < k ∧ M = [] ∧ ∃ (i : Nat) (done : List Mv) (t : Tok), m = l.length - i ∧ i ≤ l.length ∧ getT T 0 = (.ps .unk (l.map Pr.row)) ∧ getT T 5 = i64 (i : Nat) ∧ getT T 4 = .ps t (done.map Mv.row) ∧ AppB H.n H' t (done.map Mv.row) 6 128 ∧ Old H.n H H' ∧ greedy l = done ++ greedy (l.drop i)) := by
    intro s hs01 hse T a0 a5 a4 a6 a7
    have hin := inner s hs01 T a0 a5 a4 a6 a7
    rw [← hse] at hG hNl
    generalize runLen s p rest = N at hin hG hNl
    have hrs := run_small hpok hs01 (n := N + 1) (by omega)
    have hdr : rest.drop N = l.drop (i + (N + 1)) := by rw [hrest1, List.drop_drop]; congr 1; omega
    rw [hdr] at hG
    have hdl : done.length + 1 ≤ l.length := by
      have := congrArg List.length hG
      rw [List.length_append, List.length_cons] at this; omega
    have hG2 : greedy l = (done ++ [runMv p s (N + 1)]) ++ greedy (l.drop (i + (N + 1))) := by rw [hG]; simp
    have hwE : wrapq .i64 (Int.add (i : Int) ((N + 1 : Nat) : Int)) = ((i + (N + 1) : Nat) : Int) := wrap_nat (n := i + (N + 1)) (by unfold maxRows at hl; omega)
    generalize runMv p s (N + 1) = x at hrs hG2
    have hap := fun H' (h : AppB H.n H' t (done.map Mv.row) 6 128) (hb : H.n ≤ H'.n) => app_b (lo := lo) h hb hlo (r := x.row) (by rw [List.length_map]; omega) (by rw [hrs]; rfl) (by decide) (rows_all Mv.row_len done)
    have hst : x.row.map AV.strip0 = x.row := rfl
    have hdm : done.map Mv.row ++ [x.row] = (done ++ [x]).map Mv.row := by simp
    rw [hst, hdm] at hap
    have hHn := hO.1
    have hlo1 : (lo ≤ H1.n) = True := by simp only [eq_iff_iff, iff_true]; omega
    have hxi : i < l.length := hil
    have rp := map_at (f := Pr.row) hp
    
    have hfin : l.length - (i + (N + 1)) < k := by omega
    have hle : i + (N + 1) ≤ l.length := by omega
    clear hG inner hdr hrest hrest1 hat hrl hsg
    obtain ⟨p1, p2, p3, p4⟩ := p
    simp only [Pr.row] at rp
    simp only at hrs
    show W _ _ _ _ (Code.seq (Code.block 2 _) _) _ _ _ _
    rw [W_seq, W_block]
    refine W_mono hin ?_
    rintro e T2 H2 M2 ⟨rfl, rfl, rfl, b0, b5, b4, b6, b7⟩
    rcases hs01 with rfl | rfl
    · have n1 : ((1 : Int) < 0) = False := by simp
      simp only [n1, if_false, decide_false, i64] at hrs
      obtain ⟨t2, H3, ha, hB, _, hO3, _⟩ := hap ((H2.push (.cells [.str [], .int .i64 0, .int .i64 0, .str [], .int .i64 0, .bool false] 128)).set H2.n (.cells x.row 128)) (hA.new _ _) (by rw [hn_set, hn_push]; omega)
      rw [hrs] at ha hO3
      simp only [go_sem, reduceIte, Nat.reduceEqDiff, Nat.reduceAdd, Nat.reduceMul, Nat.reduceSub, Nat.reduceLeDiff, Nat.reduceLT, Nat.reduceBEq, reduceCtorEq, b0, b5, b4, b6, b7, List.length_map, hlo1, hxi, rp, n1, hwE, appO, ha]
      exact ⟨_, hfin, i + (N + 1), done ++ [x], t2, rfl, hle, rfl, rfl, hB, (hO.new _ _).trans hO3, hG2⟩
    · have n1 : ((-1 : Int) < 0) = True := by simp
      simp only [n1, if_true, decide_true, i64] at hrs
      obtain ⟨t2, H3, ha, hB, _, hO3, _⟩ := hap (((H2.push (.cells [.str [], .int .i64 0, .int .i64 0, .str [], .int .i64 0, .bool false] 128)).set H2.n (.cells [.str p1, .int .i64 p2, .int .i64 ((N + 1 : Nat) : Int), .str p3, .int .i64 p4, .bool true] 128)).set H2.n (.cells x.row 128)) ((hA.new _ _).set _ (by rw [Heap.get_set, if_pos rfl]; simp)) (by rw [hn_set, hn_set, hn_push]; omega)
      rw [hrs] at ha hO3
      simp only [go_sem, reduceIte, Nat.reduceEqDiff, Nat.reduceAdd, Nat.reduceMul, Nat.reduceSub, Nat.reduceLeDiff, Nat.reduceLT, Nat.reduceBEq, reduceCtorEq, b0, b5, b4, b6, b7, List.length_map, hlo1, hxi, rp, n1, hwE, appO, ha]
      exact ⟨_, hfin, i + (N + 1), done ++ [x], t2, rfl, hle, rfl, rfl, hB, ((hO.new _ _).set hHn _).trans hO3, hG2⟩
  show W _ _ _ _ (Code.seq _ (Code.block 1 (Code.seq _ (Code.seq _ (Code.seq _ (digF [1,1,0,1,0,0,1,0,1,1,1] Tryz.f56)))))) _ _ _ _
  have hxi : i < l.length := hil
  clear inner hG
  generalize digF [1,1,0,1,0,0,1,0,1,1,1] Tryz.f56 = restc at cont ⊢
  cases rest with
  | nil =>
    have x2 : (i + 1 < l.length) = False := by simp only [List.length_nil] at hrl; simp only [eq_iff_iff, iff_false]; omega
    have c1 := cont 1 (.inl rfl) rfl
    clear cont
    simp only [go_sem, reduceIte, Nat.reduceEqDiff, Nat.reduceAdd, Nat.reduceMul, Nat.reduceSub, Nat.reduceLeDiff, Nat.reduceLT, Nat.reduceBEq, reduceCtorEq, g0, g5, g4, List.length_map, hxi, hw1, x2]
    refine W_mono (c1 _ (by simp only [go_sem, reduceIte, Nat.reduceEqDiff, Nat.reduceAdd, Nat.reduceMul, Nat.reduceSub, Nat.reduceLeDiff, Nat.reduceLT, Nat.reduceBEq, reduceCtorEq, g0]) (by simp only [go_sem, reduceIte, Nat.reduceEqDiff, Nat.reduceAdd, Nat.reduceMul, Nat.reduceSub, Nat.reduceLeDiff, Nat.reduceLT, Nat.reduceBEq, reduceCtorEq, g5]) (by simp only [go_sem, reduceIte, Nat.reduceEqDiff, Nat.reduceAdd, Nat.reduceMul, Nat.reduceSub, Nat.reduceLeDiff, Nat.reduceLT, Nat.reduceBEq, reduceCtorEq, g4]) (by simp only [go_sem, reduceIte, Nat.reduceEqDiff, Nat.reduceAdd, Nat.reduceMul, Nat.reduceSub, Nat.reduceLeDiff, Nat.reduceLT, Nat.reduceBEq, reduceCtorEq]) (by simp only [go_sem, reduceIte, Nat.reduceEqDiff, Nat.reduceAdd, Nat.reduceMul, Nat.reduceSub, Nat.reduceLeDiff, Nat.reduceLT, Nat.reduceBEq, reduceCtorEq])) ?_
    rintro e T2 H2 M2 ⟨rfl, h⟩
    exact h
  | cons q r' =>
    have x2 : i + 1 < l.length := by simp only [List.length_cons] at hrl; omega
    have hq : l[i + 1]? = some q := by rw [← hat 1]; rfl
    have e138 : p138 [.agg p.row, .agg q.row, .int .i64 (-1)] = some (.bool (p.next q (-1))) := by rw [pe138, next_small hpok (.inr rfl)]
    have hse : signOf p (q :: r') = if p.next q (-1) then -1 else 1 := rfl
    have rp := map_at (f := Pr.row) hp
    have rq := map_at (f := Pr.row) hq
    cases hB : p.next q (-1) with
    | true =>
      rw [hB] at e138
      have c1 := cont (-1) (.inr rfl) (by rw [hse, hB]; rfl)
      clear cont hse hB hat hrest hrest1
      obtain ⟨p1, p2, p3, p4⟩ := p
      obtain ⟨q1, q2, q3, q4⟩ := q
      simp only [Pr.row] at rp
      simp only [Pr.row] at rq
      simp only [Pr.row] at e138
      simp only [go_sem, reduceIte, Nat.reduceEqDiff, Nat.reduceAdd, Nat.reduceMul, Nat.reduceSub, Nat.reduceLeDiff, Nat.reduceLT, Nat.reduceBEq, reduceCtorEq, g0, g5, g4, List.length_map, hxi, hw1, x2, rp, rq, e138, en138 h138]
      refine W_mono (c1 _ (by simp only [go_sem, reduceIte, Nat.reduceEqDiff, Nat.reduceAdd, Nat.reduceMul, Nat.reduceSub, Nat.reduceLeDiff, Nat.reduceLT, Nat.reduceBEq, reduceCtorEq, g0]) (by simp only [go_sem, reduceIte, Nat.reduceEqDiff, Nat.reduceAdd, Nat.reduceMul, Nat.reduceSub, Nat.reduceLeDiff, Nat.reduceLT, Nat.reduceBEq, reduceCtorEq, g5]) (by simp only [go_sem, reduceIte, Nat.reduceEqDiff, Nat.reduceAdd, Nat.reduceMul, Nat.reduceSub, Nat.reduceLeDiff, Nat.reduceLT, Nat.reduceBEq, reduceCtorEq, g4]) (by simp only [go_sem, reduceIte, Nat.reduceEqDiff, Nat.reduceAdd, Nat.reduceMul, Nat.reduceSub, Nat.reduceLeDiff, Nat.reduceLT, Nat.reduceBEq, reduceCtorEq]) (by simp only [go_sem, reduceIte, Nat.reduceEqDiff, Nat.reduceAdd, Nat.reduceMul, Nat.reduceSub, Nat.reduceLeDiff, Nat.reduceLT, Nat.reduceBEq, reduceCtorEq])) ?_
      rintro e T2 H2 M2 ⟨rfl, h⟩
      exact h
    | false =>
      rw [hB] at e138
      have c1 := cont 1 (.inl rfl) (by rw [hse, hB]; rfl)
      clear cont hse hB hat hrest hrest1
      obtain ⟨p1, p2, p3, p4⟩ := p
      obtain ⟨q1, q2, q3, q4⟩ := q
      simp only [Pr.row] at rp
      simp only [Pr.row] at rq
      simp only [Pr.row] at e138
      simp only [go_sem, reduceIte, Nat.reduceEqDiff, Nat.reduceAdd, Nat.reduceMul, Nat.reduceSub, Nat.reduceLeDiff, Nat.reduceLT, Nat.reduceBEq, reduceCtorEq, g0, g5, g4, List.length_map, hxi, hw1, x2, rp, rq, e138, en138 h138]
      refine W_mono (c1 _ (by simp only [go_sem, reduceIte, Nat.reduceEqDiff, Nat.reduceAdd, Nat.reduceMul, Nat.reduceSub, Nat.reduceLeDiff, Nat.reduceLT, Nat.reduceBEq, reduceCtorEq, g0]) (by simp only [go_sem, reduceIte, Nat.reduceEqDiff, Nat.reduceAdd, Nat.reduceMul, Nat.reduceSub, Nat.reduceLeDiff, Nat.reduceLT, Nat.reduceBEq, reduceCtorEq, g5]) (by simp only [go_sem, reduceIte, Nat.reduceEqDiff, Nat.reduceAdd, Nat.reduceMul, Nat.reduceSub, Nat.reduceLeDiff, Nat.reduceLT, Nat.reduceBEq, reduceCtorEq, g4]) (by simp only [go_sem, reduceIte, Nat.reduceEqDiff, Nat.reduceAdd, Nat.reduceMul, Nat.reduceSub, Nat.reduceLeDiff, Nat.reduceLT, Nat.reduceBEq, reduceCtorEq]) (by simp only [go_sem, reduceIte, Nat.reduceEqDiff, Nat.reduceAdd, Nat.reduceMul, Nat.reduceSub, Nat.reduceLeDiff, Nat.reduceLT, Nat.reduceBEq, reduceCtorEq])) ?_
      rintro e T2 H2 M2 ⟨rfl, h⟩
      exact h
theorem r56r (h138 : P 138 = some p138) (l : List Pr) (hl : l.length ≤ maxRows) (hok : ∀ p ∈ l, p.ok) (lo : Nat) (H : Heap) (hlo : lo ≤ H.n) (id : Nat) (hid : id < H.n) (hs : H.get id = .row (prF l) 4 137) :
    ∃ v' H', R (NC.withPrims P) (.call lo 56 [(.rs id 0 l.length 4 none)] H) = some (.ofVal v' H') ∧ v'.strip = .tup (shortR l) := by
  refine R_of_body (C := NC.withPrims P) (f := 56) (lo := lo) (args := [(.rs id 0 l.length 4 none)]) (H := H) (fn := Tryz.f56) (Q := fun v' H' => v'.strip = .tup (shortR l)) (by kernel_rfl) Tryz.func56 rfl rfl ?_
  simp only [go_sem, reduceIte, Nat.reduceEqDiff, Nat.reduceAdd, Nat.reduceMul, Nat.reduceSub, Nat.reduceLeDiff, Nat.reduceLT, Nat.reduceBEq, reduceCtorEq]
  refine W_while (fun k T H' M => M = [] ∧ ∃ (i : Nat) (done : List Mv) (t : Tok), k = l.length - i ∧ i ≤ l.length ∧ getT T 0 = (.rs id 0 l.length 4 none) ∧ getT T 5 = i64 (i : Nat) ∧ getT T 4 = .ps t (done.map Mv.row) ∧ AppB H.n H' t (done.map Mv.row) 6 128 ∧ Old H.n H H' ∧ greedy l = done ++ greedy (l.drop i)) ?_ l.length _ _ _ ?_
  case refine_2 =>
    simp only [go_sem, reduceIte, Nat.reduceEqDiff, Nat.reduceAdd, Nat.reduceMul, Nat.reduceSub, Nat.reduceLeDiff, Nat.reduceLT, Nat.reduceBEq, reduceCtorEq]
    exact ⟨0, [], .nil, by omega, Nat.zero_le _, rfl, rfl, .inl ⟨rfl, rfl⟩, Old.refl H, by simp⟩
  case refine_1 =>
  rintro k T H1 M ⟨rfl, i, done, t, hk, hi, g0, g5, g4, hA, hO, hG⟩
  have hgl := greedy_le l.length l (Nat.le_refl _)
  rcases Nat.lt_or_ge i l.length with hil | hil
  case inr =>
    obtain rfl : i = l.length := by omega
    rw [List.drop_length, greedy_nil, List.append_nil] at hG
    subst hG
    unfold shortR
    rcases Classical.propComplete ((24 : Int) < ((greedy l).length : Nat)) with q | q <;> simp only [go_sem, reduceIte, Nat.reduceEqDiff, Nat.reduceAdd, Nat.reduceMul, Nat.reduceSub, Nat.reduceLeDiff, Nat.reduceLT, Nat.reduceBEq, reduceCtorEq, g0, g5, g4, List.length_map, Nat.lt_irrefl, q]
  obtain ⟨p, hp⟩ : ∃ p, l[i]? = some p := ⟨l[i], by simp⟩
  obtain ⟨rest, hrest⟩ : ∃ r, l.drop i = p :: r := ⟨_, drop_at hp⟩
  have hrest1 : rest = l.drop (i + 1) := by
    have := drop_at hp
    rw [hrest] at this
    exact (List.cons.inj this).2
  have hpok := hok p (List.mem_of_getElem? hp)
  rw [hrest, greedy_cons] at hG
  have hsg := sign_cases p rest
  have hNl := runLen_le (signOf p rest) p rest
  have hrl : rest.length + i + 1 = l.length := by
    have := congrArg List.length hrest
    rw [List.length_drop, List.length_cons] at this; omega
  have hat : ∀ m : Nat, (p :: rest)[m]? = l[i + m]? := fun m => by rw [← hrest, List.getElem?_drop]
  have hw1 : wrapq .i64 (Int.add (i : Int) 1) = ((i + 1 : Nat) : Int) := wrap_nat (n := i + 1) (by unfold maxRows at hl; omega)
  have hs1 : H1.get id = .row (prF l) 4 137 := by rw [hO.2 id hid]; exact hs
  have hidn : (id < H1.n) = True := by have := hO.1; simp only [eq_iff_iff, iff_true]; omega
  have inner : ∀ (s : Int), (s = 1 ∨ s = -1) → ∀ T, getT T 0 = (.rs id 0 l.length 4 none) → getT T 5 = i64 (i : Nat) → getT T 4 = .ps t (done.map Mv.row) → getT T 6 = i64 s → getT T 7 = i64 1 → W (NC.withPrims P) lo 56 false (.loop (digF [1,1,0,1,0,0,1,0,1,1,1,0,0,0] Tryz.f56)) T H1 [] (fun e T' H' M => e = .ext 2 ∧ M = [] ∧ H' = H1 ∧ getT T' 0 = (.rs id 0 l.length 4 none) ∧ getT T' 5 = i64 (i : Nat) ∧ getT T' 4 = .ps t (done.map Mv.row) ∧ getT T' 6 = i64 s ∧ getT T' 7 = i64 ((runLen s p rest + 1 : Nat) : Int)) := by
    intro s hs01 T a0 a5 a4 a6 a7
    refine W_for (fun m T' H' M => M = [] ∧ H' = H1 ∧ getT T' 0 = (.rs id 0 l.length 4 none) ∧ getT T' 5 = i64 (i : Nat) ∧ getT T' 4 = .ps t (done.map Mv.row) ∧ getT T' 6 = i64 s ∧ getT T' 7 = i64 ((m + 1 : Nat) : Int)) (runLen s p rest) ?_ ?_ ?_
    · exact ⟨rfl, rfl, a0, a5, a4, a6, a7⟩
    · rintro m T H' M hm ⟨rfl, rfl, g0, g5, g4, g6, g7⟩
      obtain ⟨a, b, ha, hb, hn⟩ := run_step s p rest m hm
      rw [hat] at ha hb
      have hNl' := runLen_le s p rest
      have x1 : i + m < l.length := by omega
      have x2 : i + (m + 1) < l.length := by omega
      have hwA : wrapq .i64 (Int.add (i : Int) ((m + 1 : Nat) : Int)) = ((i + (m + 1) : Nat) : Int) := wrap_nat (n := i + (m + 1)) (by unfold maxRows at hl; omega)
      have hwB : wrapq .i64 (Int.sub ((i + (m + 1) : Nat) : Int) 1) = ((i + m : Nat) : Int) := by
        have := wrap_pred (k := i + (m + 1)) (n := l.length) (by omega) (by omega) hl
        rw [this]; rfl
      have hwC : wrapq .i64 (Int.add ((m + 1 : Nat) : Int) 1) = ((m + 1 + 1 : Nat) : Int) := wrap_nat (n := m + 1 + 1) (by unfold maxRows at hl; omega)
      have e138 : p138 [.agg a.row, .agg b.row, .int .i64 s] = some (.bool true) := by rw [pe138, next_small (hok a (List.mem_of_getElem? ha)) hs01, hn]
      obtain ⟨wa, ua0, ua1, ua2, ua3, va4, va2, va1, va11, va22, va21, va211⟩ := pr_at ha
      obtain ⟨wb, ub0, ub1, ub2, ub3, vb4, vb2, vb1, vb11, vb22, vb21, vb211⟩ := pr_at hb
      obtain ⟨a1, a2, a3, a4'⟩ := a
      obtain ⟨b1, b2, b3, b4⟩ := b
      simp only at ua0 ua1 ua2 ua3
      simp only at ub0 ub1 ub2 ub3
      simp only [Pr.row] at e138
      show W _ _ _ _ (Code.seq (Code.seq (Code.region 8 _ _) _) _) _ _ _ _
      simp only [go_sem, reduceIte, Nat.reduceEqDiff, Nat.reduceAdd, Nat.reduceMul, Nat.reduceSub, Nat.reduceLeDiff, Nat.reduceLT, Nat.reduceBEq, reduceCtorEq, g0, g5, g4, g6, g7, List.length_map, hwA, hwB, hwC, x1, x2, ua0, ua1, ua2, ua3, va4, va2, va1, va11, va22, va21, va211, ub0, ub1, ub2, ub3, vb4, vb2, vb1, vb11, vb22, vb21, vb211, e138, en138 h138, hs1, under_rs, hidn]
    · rintro T H' M ⟨rfl, rfl, g0, g5, g4, g6, g7⟩
      obtain ⟨a, ha, hstop⟩ := run_stop s p rest
      generalize runLen s p rest = m at ha hstop g7 ⊢
      rw [hat] at ha
      have x1 := (List.getElem?_eq_some_iff.1 ha).1
      have hwA : wrapq .i64 (Int.add (i : Int) ((m + 1 : Nat) : Int)) = ((i + (m + 1) : Nat) : Int) := wrap_nat (n := i + (m + 1)) (by unfold maxRows at hl; omega)
      rcases hstop with hb | ⟨b, hb, hn⟩
      · rw [hat] at hb
        have x2 : (i + (m + 1) < l.length) = False := by
          have := List.getElem?_eq_none_iff.1 hb
          simp only [eq_iff_iff, iff_false]; omega
        show W _ _ _ _ (Code.seq (Code.seq (Code.region 8 _ _) _) _) _ _ _ _
        simp only [go_sem, reduceIte, Nat.reduceEqDiff, Nat.reduceAdd, Nat.reduceMul, Nat.reduceSub, Nat.reduceLeDiff, Nat.reduceLT, Nat.reduceBEq, reduceCtorEq, g0, g5, g4, g6, g7, List.length_map, hwA, x2, hs1, under_rs, hidn]
      · rw [hat] at hb
        have x2 := (List.getElem?_eq_some_iff.1 hb).1
        have hwB : wrapq .i64 (Int.sub ((i + (m + 1) : Nat) : Int) 1) = ((i + m : Nat) : Int) := by
          have := wrap_pred (k := i + (m + 1)) (n := l.length) (by omega) (by omega) hl
          rw [this]; rfl
        have x2 : i + (m + 1) < l.length := x2
        have e138 : p138 [.agg a.row, .agg b.row, .int .i64 s] = some (.bool false) := by rw [pe138, next_small (hok a (List.mem_of_getElem? ha)) hs01, hn]
        obtain ⟨wa, ua0, ua1, ua2, ua3, va4, va2, va1, va11, va22, va21, va211⟩ := pr_at ha
        obtain ⟨wb, ub0, ub1, ub2, ub3, vb4, vb2, vb1, vb11, vb22, vb21, vb211⟩ := pr_at hb
        obtain ⟨a1, a2, a3, a4'⟩ := a
        obtain ⟨b1, b2, b3, b4⟩ := b
        simp only at ua0 ua1 ua2 ua3
        simp only at ub0 ub1 ub2 ub3
        simp only [Pr.row] at e138
        show W _ _ _ _ (Code.seq (Code.seq (Code.region 8 _ _) _) _) _ _ _ _
        simp only [go_sem, reduceIte, Nat.reduceEqDiff, Nat.reduceAdd, Nat.reduceMul, Nat.reduceSub, Nat.reduceLeDiff, Nat.reduceLT, Nat.reduceBEq, reduceCtorEq, g0, g5, g4, g6, g7, List.length_map, hwA, hwB, x1, x2, ua0, ua1, ua2, ua3, va4, va2, va1, va11, va22, va21, va211, ub0, ub1, ub2, ub3, vb4, vb2, vb1, vb11, vb22, vb21, vb211, e138, en138 h138, hs1, under_rs, hidn]
  have cont : ∀ (s : Int), (s = 1 ∨ s = -1) → s = signOf p rest → ∀ T, getT T 0 = (.rs id 0 l.length 4 none) → getT T 5 = i64 (i : Nat) → getT T 4 = .ps t (done.map Mv.row) → getT T 6 = i64 s → getT T 7 = i64 1 → W (NC.withPrims P) lo 56 false (digF [1,1,0,1,0,0,1,0,1,1,1] Tryz.f56) T H1 [] (fun e T H' M => e = .nrm ∧ ∃ m, m < k ∧ M = [] ∧ ∃ (i : Nat) (done : List Mv) (t : Tok), m = l.length - i ∧ i ≤ l.length ∧ getT T 0 = (.rs id 0 l.length 4 none) ∧ getT T 5 = i64 (i : Nat) ∧ getT T 4 = .ps t (done.map Mv.row) ∧ AppB H.n H' t (done.map Mv.row) 6 128 ∧ Old H.n H H' ∧ greedy l = done ++ greedy (l.drop i)) := by
    intro s hs01 hse T a0 a5 a4 a6 a7
    have hin := inner s hs01 T a0 a5 a4 a6 a7
    rw [← hse] at hG hNl
    generalize runLen s p rest = N at hin hG hNl
    have hrs := run_small hpok hs01 (n := N + 1) (by omega)
    have hdr : rest.drop N = l.drop (i + (N + 1)) := by rw [hrest1, List.drop_drop]; congr 1; omega
    rw [hdr] at hG
    have hdl : done.length + 1 ≤ l.length := by
      have := congrArg List.length hG
      rw [List.length_append, List.length_cons] at this; omega
    have hG2 : greedy l = (done ++ [runMv p s (N + 1)]) ++ greedy (l.drop (i + (N + 1))) := by rw [hG]; simp
    have hwE : wrapq .i64 (Int.add (i : Int) ((N + 1 : Nat) : Int)) = ((i + (N + 1) : Nat) : Int) := wrap_nat (n := i + (N + 1)) (by unfold maxRows at hl; omega)
    generalize runMv p s (N + 1) = x at hrs hG2
    have hap := fun H' (h : AppB H.n H' t (done.map Mv.row) 6 128) (hb : H.n ≤ H'.n) => app_b (lo := lo) h hb hlo (r := x.row) (by rw [List.length_map]; omega) (by rw [hrs]; rfl) (by decide) (rows_all Mv.row_len done)
    have hst : x.row.map AV.strip0 = x.row := rfl
    have hdm : done.map Mv.row ++ [x.row] = (done ++ [x]).map Mv.row := by simp
    rw [hst, hdm] at hap
    have hHn := hO.1
    have hlo1 : (lo ≤ H1.n) = True := by simp only [eq_iff_iff, iff_true]; omega
    have hxi : i < l.length := hil
    obtain ⟨wp, up0, up1, up2, up3, vp4, vp2, vp1, vp11, vp22, vp21, vp211⟩ := pr_at hp
    have hne : (id = H1.n) = False := by have := of_eq_true hidn; simp only [eq_iff_iff, iff_false]; omega
    have hfin : l.length - (i + (N + 1)) < k := by omega
    have hle : i + (N + 1) ≤ l.length := by omega
    clear hG inner hdr hrest hrest1 hat hrl hsg
    obtain ⟨p1, p2, p3, p4⟩ := p
    simp only at up0 up1 up2 up3
    simp only at hrs
    show W _ _ _ _ (Code.seq (Code.block 2 _) _) _ _ _ _
    rw [W_seq, W_block]
    refine W_mono hin ?_
    rintro e T2 H2 M2 ⟨rfl, rfl, rfl, b0, b5, b4, b6, b7⟩
    rcases hs01 with rfl | rfl
    · have n1 : ((1 : Int) < 0) = False := by simp
      simp only [n1, if_false, decide_false, i64] at hrs
      obtain ⟨t2, H3, ha, hB, _, hO3, _⟩ := hap ((H2.push (.cells [.str [], .int .i64 0, .int .i64 0, .str [], .int .i64 0, .bool false] 128)).set H2.n (.cells x.row 128)) (hA.new _ _) (by rw [hn_set, hn_push]; omega)
      rw [hrs] at ha hO3
      simp only [go_sem, reduceIte, Nat.reduceEqDiff, Nat.reduceAdd, Nat.reduceMul, Nat.reduceSub, Nat.reduceLeDiff, Nat.reduceLT, Nat.reduceBEq, reduceCtorEq, b0, b5, b4, b6, b7, List.length_map, hlo1, hxi, up0, up1, up2, up3, vp4, vp2, vp1, vp11, vp22, vp21, vp211, n1, hwE, appO, ha, hs1, under_rs, hidn, hne]
      exact ⟨_, hfin, i + (N + 1), done ++ [x], t2, rfl, hle, rfl, rfl, hB, (hO.new _ _).trans hO3, hG2⟩
    · have n1 : ((-1 : Int) < 0) = True := by simp
      simp only [n1, if_true, decide_true, i64] at hrs
      obtain ⟨t2, H3, ha, hB, _, hO3, _⟩ := hap (((H2.push (.cells [.str [], .int .i64 0, .int .i64 0, .str [], .int .i64 0, .bool false] 128)).set H2.n (.cells [.str p1, .int .i64 p2, .int .i64 ((N + 1 : Nat) : Int), .str p3, .int .i64 p4, .bool true] 128)).set H2.n (.cells x.row 128)) ((hA.new _ _).set _ (by rw [Heap.get_set, if_pos rfl]; simp)) (by rw [hn_set, hn_set, hn_push]; omega)
      rw [hrs] at ha hO3
      simp only [go_sem, reduceIte, Nat.reduceEqDiff, Nat.reduceAdd, Nat.reduceMul, Nat.reduceSub, Nat.reduceLeDiff, Nat.reduceLT, Nat.reduceBEq, reduceCtorEq, b0, b5, b4, b6, b7, List.length_map, hlo1, hxi, up0, up1, up2, up3, vp4, vp2, vp1, vp11, vp22, vp21, vp211, n1, hwE, appO, ha, hs1, under_rs, hidn, hne]
      exact ⟨_, hfin, i + (N + 1), done ++ [x], t2, rfl, hle, rfl, rfl, hB, ((hO.new _ _).set hHn _).trans hO3, hG2⟩
  show W _ _ _ _ (Code.seq _ (Code.block 1 (Code.seq _ (Code.seq _ (Code.seq _ (digF [1,1,0,1,0,0,1,0,1,1,1] Tryz.f56)))))) _ _ _ _
  have hxi : i < l.length := hil
  clear inner hG
  generalize digF [1,1,0,1,0,0,1,0,1,1,1] Tryz.f56 = restc at cont ⊢
  cases rest with
  | nil =>
    have x2 : (i + 1 < l.length) = False := by simp only [List.length_nil] at hrl; simp only [eq_iff_iff, iff_false]; omega
    have c1 := cont 1 (.inl rfl) rfl
    clear cont
    simp only [go_sem, reduceIte, Nat.reduceEqDiff, Nat.reduceAdd, Nat.reduceMul, Nat.reduceSub, Nat.reduceLeDiff, Nat.reduceLT, Nat.reduceBEq, reduceCtorEq, g0, g5, g4, List.length_map, hxi, hw1, x2, hs1, under_rs, hidn]
    refine W_mono (c1 _ (by simp only [go_sem, reduceIte, Nat.reduceEqDiff, Nat.reduceAdd, Nat.reduceMul, Nat.reduceSub, Nat.reduceLeDiff, Nat.reduceLT, Nat.reduceBEq, reduceCtorEq, g0]) (by simp only [go_sem, reduceIte, Nat.reduceEqDiff, Nat.reduceAdd, Nat.reduceMul, Nat.reduceSub, Nat.reduceLeDiff, Nat.reduceLT, Nat.reduceBEq, reduceCtorEq, g5]) (by simp only [go_sem, reduceIte, Nat.reduceEqDiff, Nat.reduceAdd, Nat.reduceMul, Nat.reduceSub, Nat.reduceLeDiff, Nat.reduceLT, Nat.reduceBEq, reduceCtorEq, g4]) (by simp only [go_sem, reduceIte, Nat.reduceEqDiff, Nat.reduceAdd, Nat.reduceMul, Nat.reduceSub, Nat.reduceLeDiff, Nat.reduceLT, Nat.reduceBEq, reduceCtorEq]) (by simp only [go_sem, reduceIte, Nat.reduceEqDiff, Nat.reduceAdd, Nat.reduceMul, Nat.reduceSub, Nat.reduceLeDiff, Nat.reduceLT, Nat.reduceBEq, reduceCtorEq])) ?_
    rintro e T2 H2 M2 ⟨rfl, h⟩
    exact h
  | cons q r' =>
    have x2 : i + 1 < l.length := by simp only [List.length_cons] at hrl; omega
    have hq : l[i + 1]? = some q := by rw [← hat 1]; rfl
    have e138 : p138 [.agg p.row, .agg q.row, .int .i64 (-1)] = some (.bool (p.next q (-1))) := by rw [pe138, next_small hpok (.inr rfl)]
    have hse : signOf p (q :: r') = if p.next q (-1) then -1 else 1 := rfl
    obtain ⟨wp, up0, up1, up2, up3, vp4, vp2, vp1, vp11, vp22, vp21, vp211⟩ := pr_at hp
    obtain ⟨wq, uq0, uq1, uq2, uq3, vq4, vq2, vq1, vq11, vq22, vq21, vq211⟩ := pr_at hq
    cases hB : p.next q (-1) with
    | true =>
      rw [hB] at e138
      have c1 := cont (-1) (.inr rfl) (by rw [hse, hB]; rfl)
      clear cont hse hB hat hrest hrest1
      obtain ⟨p1, p2, p3, p4⟩ := p
      obtain ⟨q1, q2, q3, q4⟩ := q
      simp only at up0 up1 up2 up3
      simp only at uq0 uq1 uq2 uq3
      simp only [Pr.row] at e138
      simp only [go_sem, reduceIte, Nat.reduceEqDiff, Nat.reduceAdd, Nat.reduceMul, Nat.reduceSub, Nat.reduceLeDiff, Nat.reduceLT, Nat.reduceBEq, reduceCtorEq, g0, g5, g4, List.length_map, hxi, hw1, x2, up0, up1, up2, up3, vp4, vp2, vp1, vp11, vp22, vp21, vp211, uq0, uq1, uq2, uq3, vq4, vq2, vq1, vq11, vq22, vq21, vq211, e138, en138 h138, hs1, under_rs, hidn]
      refine W_mono (c1 _ (by simp only [go_sem, reduceIte, Nat.reduceEqDiff, Nat.reduceAdd, Nat.reduceMul, Nat.reduceSub, Nat.reduceLeDiff, Nat.reduceLT, Nat.reduceBEq, reduceCtorEq, g0]) (by simp only [go_sem, reduceIte, Nat.reduceEqDiff, Nat.reduceAdd, Nat.reduceMul, Nat.reduceSub, Nat.reduceLeDiff, Nat.reduceLT, Nat.reduceBEq, reduceCtorEq, g5]) (by simp only [go_sem, reduceIte, Nat.reduceEqDiff, Nat.reduceAdd, Nat.reduceMul, Nat.reduceSub, Nat.reduceLeDiff, Nat.reduceLT, Nat.reduceBEq, reduceCtorEq, g4]) (by simp only [go_sem, reduceIte, Nat.reduceEqDiff, Nat.reduceAdd, Nat.reduceMul, Nat.reduceSub, Nat.reduceLeDiff, Nat.reduceLT, Nat.reduceBEq, reduceCtorEq]) (by simp only [go_sem, reduceIte, Nat.reduceEqDiff, Nat.reduceAdd, Nat.reduceMul, Nat.reduceSub, Nat.reduceLeDiff, Nat.reduceLT, Nat.reduceBEq, reduceCtorEq])) ?_
      rintro e T2 H2 M2 ⟨rfl, h⟩
      exact h
    | false =>
      rw [hB] at e138
      have c1 := cont 1 (.inl rfl) (by rw [hse, hB]; rfl)
      clear cont hse hB hat hrest hrest1
      obtain ⟨p1, p2, p3, p4⟩ := p
      obtain ⟨q1, q2, q3, q4⟩ := q
      simp only at up0 up1 up2 up3
      simp only at uq0 uq1 uq2 uq3
      simp only [Pr.row] at e138
      simp only [go_sem, reduceIte, Nat.reduceEqDiff, Nat.reduceAdd, Nat.reduceMul, Nat.reduceSub, Nat.reduceLeDiff, Nat.reduceLT, Nat.reduceBEq, reduceCtorEq, g0, g5, g4, List.length_map, hxi, hw1, x2, up0, up1, up2, up3, vp4, vp2, vp1, vp11, vp22, vp21, vp211, uq0, uq1, uq2, uq3, vq4, vq2, vq1, vq11, vq22, vq21, vq211, e138, en138 h138, hs1, under_rs, hidn]
      refine W_mono (c1 _ (by simp only [go_sem, reduceIte, Nat.reduceEqDiff, Nat.reduceAdd, Nat.reduceMul, Nat.reduceSub, Nat.reduceLeDiff, Nat.reduceLT, Nat.reduceBEq, reduceCtorEq, g0]) (by simp only [go_sem, reduceIte, Nat.reduceEqDiff, Nat.reduceAdd, Nat.reduceMul, Nat.reduceSub, Nat.reduceLeDiff, Nat.reduceLT, Nat.reduceBEq, reduceCtorEq, g5]) (by simp only [go_sem, reduceIte, Nat.reduceEqDiff, Nat.reduceAdd, Nat.reduceMul, Nat.reduceSub, Nat.reduceLeDiff, Nat.reduceLT, Nat.reduceBEq, reduceCtorEq, g4]) (by simp only [go_sem, reduceIte, Nat.reduceEqDiff, Nat.reduceAdd, Nat.reduceMul, Nat.reduceSub, Nat.reduceLeDiff, Nat.reduceLT, Nat.reduceBEq, reduceCtorEq]) (by simp only [go_sem, reduceIte, Nat.reduceEqDiff, Nat.reduceAdd, Nat.reduceMul, Nat.reduceSub, Nat.reduceLeDiff, Nat.reduceLT, Nat.reduceBEq, reduceCtorEq])) ?_
      rintro e T2 H2 M2 ⟨rfl, h⟩
      exact h
end Go.Sim

/-
Pairs of places of a map, and the reference's forms.
-/
-- INJ Pr.row_iff prs_iff
namespace Go.Sim
open Go Go.Proofs
set_option maxRecDepth 100000
set_option maxHeartbeats 16000000
variable {P : FuncId → Option (List AV → Option AV)}
noncomputable def PPF56 : FuncId → Option (List AV → Option AV) := addPrim 138 p138 (fun _ => none)
theorem primsF56 : PrimsOk NC PPF56 := primsOk_add (primsOk_none) (by kernel_rfl) (by kernel_rfl) pok138
theorem enF56_138 : En PPF56 138 p138 := enter_prim (by rfl) (by kernel_rfl)
attribute [go_sem ↓] enF56_138
theorem shortR_pure (l : List Pr) : (AV.tup (shortR l)).pure = true := by unfold shortR; split <;> rfl
theorem pairs_pure (l : List Pr) : pureAll [.ps .unk (l.map Pr.row)] = true := rfl
theorem c56 (l : List Pr) (hl : l.length ≤ maxRows) (hok : ∀ p ∈ l, p.ok) : ∀ lo H, CallOk NC lo 56 [.ps .unk (l.map Pr.row)] H (.tup (shortR l)) H := by
  intro lo H
  obtain ⟨v', H', h1, h2⟩ := r56p (P := PPF56) rfl l hl hok 0 .empty (Nat.zero_le _)
  have := call_ok0 (saneNC.withPrims primsF56) h1 (pairs_pure l) (by rw [h2]; exact shortR_pure l) lo H
  rw [h2] at this
  exact (callOk_prims primsF56).1 this
noncomputable def p56 : List AV → Option AV := primOf (α := List Pr) (fun x => [.ps .unk (x.map Pr.row)]) (fun x => (x.length ≤ maxRows ∧ ∀ y ∈ x, y.ok)) (fun x => .tup (shortR x))
theorem pok56 : ∀ args v, p56 args = some v → ∀ lo H, CallOk NC lo 56 args H v H := by
  intro args v h
  obtain ⟨x, rfl, hp, rfl⟩ := primOf_inv h
  clear h
  revert x
  intro x hx; exact c56 x hx.1 hx.2
theorem pe56 (x : List Pr) (hp : (fun x => (x.length ≤ maxRows ∧ ∀ y ∈ x, y.ok)) x) : p56 ((fun x => [.ps .unk (x.map Pr.row)]) x) = some ((fun x => .tup (shortR x)) x) := primOf_enc (by intro x y h; (simp only [List.cons.injEq, AV.ps.injEq, prs_iff, true_and, and_true] at h; exact h)) x hp
/-! ### Pairs -/
theorem carR_O {m : List Mv} (h : mapR m = 0) (s : List Nat) {q : Int} (h0 : 0 ≤ q) (h1 : q ≤ 800000) : carR m s q = match carO m (s, q) with
    | none => [noPlace, .bool false]
    | some p => [.agg [.str p.1, i64 p.2], .bool true] := by
  rw [← car_same h s h0 h1]
  unfold carP carO
  cases m.find? (hitMv s q) with
  | none => rfl
  | some x => rfl
theorem en47 (h : P 47 = some p47) {lo : Nat} {rec : Rec} {args : List AV} {H : Heap} {K : AV → Heap → Prop} : VO (aenter (NC.withPrims P) rec lo 47 args H) K = AO (p47 args) fun v => K v H := enter_prim (by rfl) (known h (by kernel_rfl))
theorem r139_nil (lo : Nat) (H : Heap) : ∃ v' H', R (NC.withPrims P) (.call lo 139 [.ps .unk []] H) = some (.ofVal v' H') ∧ v' = .ps .exact [] ∧ H' = H := by
  refine R_of_body (C := NC.withPrims P) (f := 139) (lo := lo) (args := [.ps .unk []]) (H := H) (fn := Tryz.f139) (Q := fun v' H' => v' = .ps .exact [] ∧ H' = H) (by kernel_rfl) Tryz.func139 rfl rfl ?_
  have hap : appR lo H 4 137 (.ps .exact []) [] = some (.ps .exact [], H) := rfl
  have i10 : ((1 : Int) < 0) = False := by simp
  simp only [go_sem, reduceIte, Nat.reduceEqDiff, Nat.reduceAdd, Nat.reduceMul, Nat.reduceSub, Nat.reduceLeDiff, Nat.reduceLT, Nat.reduceBEq, reduceCtorEq, W_loop, appO, hap, cast0, i10]
def Res (H H' : Heap) (v : AV) (L : List Pr) : Prop := Old H.n H H' ∧ ((L = [] ∧ v = .ps .exact []) ∨ (L ≠ [] ∧ ∃ id, H.n ≤ id ∧ id < H'.n ∧ v = .rs id 0 L.length 4 none ∧ H'.get id = .row (prF L) 4 137))
theorem sorted_res (h201 : P 201 = some p201) (l : List Pr) (hl : l.length ≤ maxRows) (v : AV) (hv0 : l = [] → v = .ps .unk []) (lo : Nat) (H : Heap) (hlo : lo ≤ H.n) (hv : RdP H v l) :
    ∃ v' H', R (NC.withPrims P) (.call lo 139 [v] H) = some (.ofVal v' H') ∧ Res H H' v' (isort prLt l) := by
  by_cases hne : l = []
  · obtain ⟨v', H', h1, rfl, rfl⟩ := r139_nil (P := P) lo H
    rw [hv0 hne]
    exact ⟨_, _, h1, Old.refl _, .inl ⟨by rw [hne]; rfl, rfl⟩⟩
  · obtain ⟨v', H', h1, rfl, h2, h3, h4⟩ := r139 h201 l hne hl v lo H hlo hv
    refine ⟨_, H', h1, ⟨by omega, h4⟩, .inr ⟨fun h => hne ?_, H.n, Nat.le_refl _, h3, by rw [isort_length], h2⟩⟩
    have := isort_length prLt l
    rw [h] at this
    exact List.length_eq_zero_iff.1 this.symm
theorem r57 (h47 : P 47 = some p47) (h201 : P 201 = some p201) (h139 : P 139 = none) (m : List Mv) (hm : mapR m = 0) (hl : (flat m).length ≤ 60) (hml : m.length ≤ 25) (lo : Nat) (H : Heap) (hlo : lo ≤ H.n) :
    ∃ v' H', R (NC.withPrims P) (.call lo 57 [.ps .unk (m.map Mv.row)] H) = some (.ofVal v' H') ∧ Res H H' v' (pairsOf m) := by
  refine R_of_body (C := NC.withPrims P) (f := 57) (lo := lo) (args := [.ps .unk (m.map Mv.row)]) (H := H) (fn := Tryz.f57) (Q := fun v' H' => Res H H' v' (pairsOf m)) (by kernel_rfl) Tryz.func57 rfl rfl ?_
  have fm := fair_of hm
  have hmx : m.length ≤ maxRows := by unfold maxRows; omega
  simp only [go_sem, reduceIte, Nat.reduceEqDiff, Nat.reduceAdd, Nat.reduceMul, Nat.reduceSub, Nat.reduceLeDiff, Nat.reduceLT, Nat.reduceBEq, reduceCtorEq]
  refine W_for (fun i T H' M => M = [] ∧ getT T 0 = .ps .unk (m.map Mv.row) ∧ getT T 4 = i64 (i : Nat) ∧ Old H.n H H' ∧ ∃ t, getT T 3 = .ps t ((flat (m.take i)).map Pr.row) ∧ AppB H.n H' t ((flat (m.take i)).map Pr.row) 4 137) m.length ?_ ?_ ?_
  · simp only [go_sem, reduceIte, Nat.reduceEqDiff, Nat.reduceAdd, Nat.reduceMul, Nat.reduceSub, Nat.reduceLeDiff, Nat.reduceLT, Nat.reduceBEq, reduceCtorEq]
    exact ⟨Old.refl H, .nil, rfl, .inl ⟨rfl, rfl⟩⟩
  · rintro i T H1 M hi ⟨rfl, g0, g4, hO, t, g3, hA⟩
    obtain ⟨x, hx⟩ : ∃ p, m[i]? = some p := ⟨m[i], by simp⟩
    have hr := map_at (f := Mv.row) hx
    have hw := wrap_succ hi hmx
    have hxm := List.mem_of_getElem? hx
    have g := map_good hm hxm
    obtain ⟨nx, hnx⟩ : ∃ n : Nat, x.len = n := ⟨x.len.toNat, by have := g.len; omega⟩
    have hft : flat (m.take (i + 1)) = flat (m.take i) ++ (List.range nx).map x.pr := by
      rw [List.take_add_one, hx, Option.toList_some, flat_append, flat_cons, flat_nil, List.append_nil]
      unfold Mv.prs
      rw [hnx, Int.toNat_natCast]
    have hfl : (flat (m.take i)).length + nx ≤ 60 := by
      have h1 : flat m = flat (m.take (i + 1)) ++ flat (m.drop (i + 1)) := by rw [← flat_append, List.take_append_drop]
      have := congrArg List.length h1
      rw [List.length_append, hft, List.length_append, List.length_map, List.length_range] at this
      omega
    have hmet : ∀ k : Nat, k < nx → p47 [.ps .unk (m.map Mv.row), .agg [.str x.line, .int .i64 (x.fr + k)]] = some (.tup [.agg [.str x.other, i64 (x.dst k)], .bool true]) ∧ wrapq .i64 (Int.add x.fr (k : Int)) = x.fr + k := by
      intro k hk
      have := g.fr; have := g.frl
      have h1 := carO_mv fm hxm (k := k) (by omega)
      have h2 := pe47 m x.line (x.fr + k) hmx
      rw [carR_O hm x.line (by omega) (by omega), h1] at h2
      refine ⟨h2, ?_⟩
      have e : Int.add x.fr (k : Int) = x.fr + k := rfl
      rw [e]; exact wrapq_i64 (by omega) (by omega)
    have hpr : ∀ k : Nat, (x.pr k).row = [.str x.line, .int .i64 (x.fr + k), .str x.other, .int .i64 (x.dst k)] := fun k => rfl
    rw [hft]
    generalize flat (m.take i) = F at g3 hA hfl ⊢
    generalize hD : x.dst = D at hmet hpr
    generalize hX : x.pr = X at hpr hft ⊢
    have hrng : ∀ k, (List.range (k + 1)).map X = (List.range k).map X ++ [X k] := fun k => by rw [List.range_succ, List.map_append]; rfl
    clear hft g hxm hX hD
    obtain ⟨x1, x2, x3, x4, x5, x6⟩ := x
    simp only at hnx hmet hpr
    subst hnx
    simp only [Mv.row] at hr
    simp only [go_sem, reduceIte, Nat.reduceEqDiff, Nat.reduceAdd, Nat.reduceMul, Nat.reduceSub, Nat.reduceLeDiff, Nat.reduceLT, Nat.reduceBEq, reduceCtorEq, g0, g4, g3, List.length_map, hi]
    refine W_for (fun k T' H' M => M = [] ∧ getT T' 0 = .ps .unk (m.map Mv.row) ∧ getT T' 4 = i64 (i : Nat) ∧ getT T' 5 = i64 (k : Nat) ∧ Old H.n H H' ∧ ∃ t, getT T' 3 = .ps t ((F ++ (List.range k).map X).map Pr.row) ∧ AppB H.n H' t ((F ++ (List.range k).map X).map Pr.row) 4 137) nx ?_ ?_ ?_
    · simp only [go_sem, reduceIte, Nat.reduceEqDiff, Nat.reduceAdd, Nat.reduceMul, Nat.reduceSub, Nat.reduceLeDiff, Nat.reduceLT, Nat.reduceBEq, reduceCtorEq, g0, g4]
      exact ⟨hO, t, by rw [g3]; simp, by simpa using hA⟩
    · rintro k T' H' M hk ⟨rfl, i0, i4, i5, jO, t', i3, jA⟩
      obtain ⟨q1, q2⟩ := hmet k hk
      have hwk : wrapq .i64 (Int.add (k : Int) 1) = ((k + 1 : Nat) : Int) := wrap_nat (n := k + 1) (by omega)
      have hrk := hpr k
      have hng := hrng k
      rw [hng, ← List.append_assoc]
      have hll : (F ++ (List.range k).map X).length + 1 ≤ maxRows := by rw [List.length_append, List.length_map, List.length_range]; unfold maxRows; omega
      generalize F ++ (List.range k).map X = G at i3 jA hll ⊢
      generalize X k = Y at hrk
      have hb := jO.1
      have hlo1 : (lo ≤ H'.n) = True := by simp only [eq_iff_iff, iff_true]; omega
      have hlo2 : (lo ≤ H'.n + 1) = True := by simp only [eq_iff_iff, iff_true]; omega
      obtain ⟨t2, H3, ha, hB, _, hO3, _⟩ := app_b (lo := lo) (H := ((H'.push (.cells [.str [], .int .i64 0] 28)).set H'.n (.cells [.str x1, .int .i64 (x2 + k)] 28)).push (.cells [.str [], .int .i64 0] 28) |>.set (H'.n + 1) (.cells [.str x4, .int .i64 (D k)] 28)) ((jA.new _ _).new _ _) (by simp; omega) hlo (r := Y.row) (by rw [List.length_map]; exact hll) (by rw [hrk]; rfl) (by decide) (rows_all Pr.row_len G)
      have hst : Y.row.map AV.strip0 = Y.row := rfl
      have hgm : G.map Pr.row ++ [Y.row] = (G ++ [Y]).map Pr.row := by simp
      rw [hst, hgm, hrk] at ha
      rw [hst, hgm] at hB
      have hOf := ((jO.new (.cells [.str [], .int .i64 0] 28) (.cells [.str x1, .int .i64 (x2 + k)] 28)).new (.cells [.str [], .int .i64 0] 28) (.cells [.str x4, .int .i64 (D k)] 28)).trans hO3
      clear hmet hpr hrng
      simp only [i64] at q1
      simp only [go_sem, reduceIte, Nat.reduceEqDiff, Nat.reduceAdd, Nat.reduceMul, Nat.reduceSub, Nat.reduceLeDiff, Nat.reduceLT, Nat.reduceBEq, reduceCtorEq, i0, i4, i5, i3, List.length_map, hi, hr, hk, hlo1, hlo2, q2, q1, en47 h47, hwk, appO, ha]
      exact ⟨hOf, t2, rfl, hB⟩
    · rintro T' H' M ⟨rfl, i0, i4, i5, jO, t', i3, jA⟩
      simp only [go_sem, reduceIte, Nat.reduceEqDiff, Nat.reduceAdd, Nat.reduceMul, Nat.reduceSub, Nat.reduceLeDiff, Nat.reduceLT, Nat.reduceBEq, reduceCtorEq, i0, i4, i5, i3, List.length_map, hi, hr, Nat.lt_irrefl, hw]
      exact ⟨jO, t', rfl, jA⟩
  · rintro T H1 M ⟨rfl, g0, g4, hO, t, g3, hA⟩
    rw [List.take_length] at g3 hA
    have hHn := hO.1
    obtain ⟨v', H', h1, h2, h3⟩ := sorted_res h201 (flat m) (by unfold maxRows; omega) (.ps .unk ((flat m).map Pr.row)) (fun h => by rw [h]; rfl) H1.n H1 (Nat.le_refl _) (.inl ⟨_, rfl⟩)
    simp only [go_sem, reduceIte, Nat.reduceEqDiff, Nat.reduceAdd, Nat.reduceMul, Nat.reduceSub, Nat.reduceLeDiff, Nat.reduceLT, Nat.reduceBEq, reduceCtorEq, g0, g4, g3, Nat.lt_irrefl, en139 h139, h1, ofVal_v, ofVal_H]
    refine ⟨hO.trans ⟨by have := h2.1; omega, fun i hi => h2.2 i (by omega)⟩, ?_⟩
    rcases h3 with h3 | ⟨h3, id, a1, a2, a3, a4⟩
    · exact .inl h3
    · exact .inr ⟨h3, id, by omega, a2, a3, a4⟩
end Go.Sim

/-
The reference's Undone and Composed.
-/
-- INJ Pr.row_iff prs_iff
namespace Go.Sim
open Go Go.Proofs
set_option maxRecDepth 100000
set_option maxHeartbeats 16000000
structure Shrt (m : List Mv) : Prop where
  valid : mapR m = 0
  few : m.length ≤ 25
  sum : (flat m).length ≤ 60
theorem Shrt.pairs {m : List Mv} (h : Shrt m) : (pairsOf m).length ≤ 60 ∧ ∀ p ∈ pairsOf m, p.ok := by
  refine ⟨?_, (fairP_of (fair_of h.valid)).ok⟩
  unfold pairsOf
  rw [isort_length]; exact h.sum
theorem pok_swap {p : Pr} (h : p.ok) : p.swap.ok := ⟨h.2.1, h.1, h.2.2.2.2.1, h.2.2.2.2.2, h.2.2.1, h.2.2.2.1⟩
theorem mem_isort {l : List Pr} {p : Pr} (h : p ∈ isort prLt l) : p ∈ l := (isort_perm prLt l).mem_iff.1 h
theorem strip_pair {v : AV} {rows : List (List AV)} {k : IntKind} {n : Int} (h : v.strip = .tup [.ps .unk rows, .int k n]) : ∃ t, v = .tup [.ps t rows, .int k n] := by
  cases v with
  | tup vs =>
    simp only [AV.strip, AV.tup.injEq] at h
    rcases vs with _ | ⟨a, _ | ⟨b, _ | ⟨c, r⟩⟩⟩
    · simp at h
    · simp at h
    · simp only [List.map_cons, List.map_nil, List.cons.injEq, and_true] at h
      obtain ⟨h1, h2⟩ := h
      cases a <;> simp only [AV.strip0, reduceCtorEq, AV.ps.injEq] at h1
      cases b <;> simp only [AV.strip0, reduceCtorEq, AV.int.injEq] at h2
      obtain ⟨_, rfl⟩ := h1
      obtain ⟨rfl, rfl⟩ := h2
      exact ⟨_, rfl⟩
    · simp at h
  | _ => simp [AV.strip] at h
theorem shortR_pair (l : List Pr) : ∃ rows n, shortR l = [.ps .unk rows, .int .i64 n] := by unfold shortR; split <;> exact ⟨_, _, rfl⟩
noncomputable def PPF58 : FuncId → Option (List AV → Option AV) := addPrim 138 p138 (addPrim 201 p201 (addPrim 47 p47 (fun _ => none)))
theorem primsF58 : PrimsOk NC PPF58 := primsOk_add (primsOk_add (primsOk_add (primsOk_none) (by kernel_rfl) (by kernel_rfl) pok47) (by kernel_rfl) (by kernel_rfl) pok201) (by kernel_rfl) (by kernel_rfl) pok138
theorem enF58_47 : En PPF58 47 p47 := enter_prim (by rfl) (by kernel_rfl)
theorem enF58_201 : En PPF58 201 p201 := enter_prim (by rfl) (by kernel_rfl)
theorem enF58_138 : En PPF58 138 p138 := enter_prim (by rfl) (by kernel_rfl)
attribute [go_sem ↓] enF58_47 enF58_201 enF58_138
theorem c58 (m : List Mv) (hp : Shrt m) : ∀ lo H, CallOk NC lo 58 [.ps .unk (m.map Mv.row)] H (.tup (shortR (isort prLt ((pairsOf m).map Pr.swap)))) H := by
  refine contract saneNC primsF58 (fn := Tryz.f58) (by kernel_rfl) Tryz.func58 rfl rfl (by rfl) (shortR_pure _) ?_
  obtain ⟨hl, hok⟩ := hp.pairs
  have hsok : ∀ p ∈ isort prLt ((pairsOf m).map Pr.swap), p.ok := fun p h => by
    obtain ⟨q, hq, rfl⟩ := List.mem_map.1 (mem_isort h)
    exact pok_swap (hok q hq)
  obtain ⟨v1, H1, h1, hO1, h2⟩ := r57 (P := PPF58) rfl rfl rfl m hp.valid hp.sum hp.few 0 .empty (Nat.zero_le _)
  rw [empty_n] at hO1 h2
  generalize pairsOf m = L at hl hok hsok h2 ⊢
  rcases h2 with ⟨rfl, rfl⟩ | ⟨hne, id, -, hid, rfl, hs⟩
  · have q0 : ((0 : Int) < 0) = False := by simp
    obtain ⟨v2, H2, h3, rfl, rfl⟩ := r139_nil (P := PPF58) H1.n H1
    obtain ⟨v3, H3, h4, h5⟩ := r56p (P := PPF58) rfl [] (Nat.zero_le _) (fun p hp => (by cases hp)) H2.n H2 (Nat.le_refl _)
    have hsr : shortR [] = [.ps .unk [], i64 0] := rfl
    have hsr2 : isort prLt (([] : List Pr).map Pr.swap) = [] := rfl
    rw [hsr] at h5
    rw [hsr2, hsr]
    obtain ⟨tk, rfl⟩ := strip_pair h5
    simp only [List.map_nil] at h4
    simp only [go_sem, reduceIte, Nat.reduceEqDiff, Nat.reduceAdd, Nat.reduceMul, Nat.reduceSub, Nat.reduceLeDiff, Nat.reduceLT, Nat.reduceBEq, reduceCtorEq, W_loop, en57 (show PPF58 57 = none from rfl), h1, ofVal_v, ofVal_H, cast0, q0, en139 (show PPF58 139 = none from rfl), h3, en56 (show PPF58 56 = none from rfl), h4]
    rfl
  · have hlx : L.length ≤ maxRows := by unfold maxRows; omega
    simp only [go_sem, reduceIte, Nat.reduceEqDiff, Nat.reduceAdd, Nat.reduceMul, Nat.reduceSub, Nat.reduceLeDiff, Nat.reduceLT, Nat.reduceBEq, reduceCtorEq, en57 (show PPF58 57 = none from rfl), h1, ofVal_v, ofVal_H]
    refine W_for (fun i T H M => M = [] ∧ getT T 4 = .rs id 0 L.length 4 none ∧ getT T 5 = i64 (i : Nat) ∧ id < H.n ∧ H.get id = .row (prF ((L.take i).map Pr.swap ++ L.drop i)) 4 137) L.length ?_ ?_ ?_
    · simp only [go_sem, reduceIte, Nat.reduceEqDiff, Nat.reduceAdd, Nat.reduceMul, Nat.reduceSub, Nat.reduceLeDiff, Nat.reduceLT, Nat.reduceBEq, reduceCtorEq]
      exact ⟨hid, hs⟩
    · rintro i T H M hi ⟨rfl, g4, g5, gid, gs⟩
      obtain ⟨x, hx⟩ : ∃ p, L[i]? = some p := ⟨L[i], by simp⟩
      have hw := wrap_succ hi hlx
      have hle : ((L.take i).map Pr.swap).length = i := by rw [List.length_map, List.length_take]; omega
      have hxat : ((L.take i).map Pr.swap ++ L.drop i)[i]? = some x := by
        rw [List.getElem?_append_right (by omega), hle, List.getElem?_drop]
        simpa using hx
      obtain ⟨w, u0, u1, u2, u3, v4, v2, v1, v11, v22, v21, v211⟩ := pr_at hxat
      have ov := pr_over hxat x.swap
      have hset : ((L.take i).map Pr.swap ++ L.drop i).set i x.swap = (L.take (i + 1)).map Pr.swap ++ L.drop (i + 1) := by
        rw [List.set_append_right _ _ (by omega), hle, Nat.sub_self, drop_cons_at hx, List.set_cons_zero, take_snoc hx, List.map_append, List.append_assoc]; rfl
      rw [hset] at ov
      generalize prF ((L.take (i + 1)).map Pr.swap ++ L.drop (i + 1)) = F2 at ov ⊢
      generalize prF ((L.take i).map Pr.swap ++ L.drop i) = F at gs u0 u1 u2 u3 v4 v2 v1 v11 v22 v21 v211 ov
      clear hset hxat
      obtain ⟨x1, x2, x3, x4⟩ := x
      simp only [Pr.swap, Pr.row] at ov
      simp only [over, List.length_cons, List.length_nil, Nat.reduceAdd, Nat.zero_add] at ov
      simp only at u0 u1 u2 u3
      have hbid : Nat.blt id H.n = true := by rw [Nat.blt_eq]; exact gid
      simp only [go_sem, reduceIte, Nat.reduceEqDiff, Nat.reduceAdd, Nat.reduceMul, Nat.reduceSub, Nat.reduceLeDiff, Nat.reduceLT, Nat.reduceBEq, reduceCtorEq, g4, g5, gs, hi, u0, u1, u2, u3, v4, v2, v1, v11, v22, v21, v211, hw, ov, under_rs, gid, ab137]
    · rintro T H M ⟨rfl, g4, g5, gid, gs⟩
      rw [List.take_length, List.drop_length, List.append_nil] at gs
      have hsl : (L.map Pr.swap).length = L.length := List.length_map _
      have hsne : L.map Pr.swap ≠ [] := fun h => hne (List.map_eq_nil_iff.1 h)
      obtain ⟨v2, H2, h3, h4, h5, h6, h7⟩ := r139 (P := PPF58) rfl (L.map Pr.swap) hsne (by rw [hsl]; exact hlx) (.rs id 0 L.length 4 none) H.n H (Nat.le_refl _) (.inr ⟨id, by rw [hsl], hsne, gid, gs⟩)
      rw [hsl] at h4
      subst h4
      have hil : (isort prLt (L.map Pr.swap)).length = L.length := by rw [isort_length, hsl]
      obtain ⟨v3, H3, h8, h9⟩ := r56r (P := PPF58) rfl (isort prLt (L.map Pr.swap)) (by rw [hil]; exact hlx) hsok H2.n H2 (Nat.le_refl _) H.n h6 h5
      rw [hil] at h8
      obtain ⟨rows, n, hr12⟩ := shortR_pair (isort prLt (L.map Pr.swap))
      rw [hr12] at h9 ⊢
      obtain ⟨tk, rfl⟩ := strip_pair h9
      simp only [go_sem, reduceIte, Nat.reduceEqDiff, Nat.reduceAdd, Nat.reduceMul, Nat.reduceSub, Nat.reduceLeDiff, Nat.reduceLT, Nat.reduceBEq, reduceCtorEq, g4, g5, Nat.lt_irrefl, en139 (show PPF58 139 = none from rfl), h3, ofVal_v, ofVal_H, en56 (show PPF58 56 = none from rfl), h8]
      rfl
noncomputable def p58 : List AV → Option AV := primOf (α := (List Mv)) (fun x => [.ps .unk (x.map Mv.row)]) (fun x => Shrt x) (fun x => .tup (shortR (isort prLt ((pairsOf x).map Pr.swap))))
theorem pok58 : ∀ args v, p58 args = some v → ∀ lo H, CallOk NC lo 58 args H v H := by
  intro args v h
  obtain ⟨x, rfl, hp, rfl⟩ := primOf_inv h
  exact c58 x hp
theorem pe58 (m : List Mv) (hp : Shrt m) : p58 [.ps .unk (m.map Mv.row)] = some (.tup (shortR (isort prLt ((pairsOf m).map Pr.swap)))) := primOf_enc (α := (List Mv)) (enc := fun x => [.ps .unk (x.map Mv.row)]) (pre := fun x => Shrt x) (spec := fun x => .tup (shortR (isort prLt ((pairsOf x).map Pr.swap)))) (by intro x y h; (simp only [List.cons.injEq, AV.agg.injEq, AV.str.injEq, AV.int.injEq, AV.ps.injEq, AV.bool.injEq, Net.cells_iff, Ln.row_iff, Pc.row_iff, Mv.row_iff, lns_iff, pcs_iff, mvs_iff, Pr.row_iff, prs_iff, true_and, and_true] at h; first | simpa only [Prod.ext_iff] using h | simpa only [Prod.ext_iff, and_assoc] using h)) m hp
noncomputable def PPF59 : FuncId → Option (List AV → Option AV) := addPrim 56 p56 (addPrim 138 p138 (addPrim 201 p201 (addPrim 47 p47 (fun _ => none))))
theorem primsF59 : PrimsOk NC PPF59 := primsOk_add (primsOk_add (primsOk_add (primsOk_add (primsOk_none) (by kernel_rfl) (by kernel_rfl) pok47) (by kernel_rfl) (by kernel_rfl) pok201) (by kernel_rfl) (by kernel_rfl) pok138) (by kernel_rfl) (by kernel_rfl) pok56
theorem enF59_47 : En PPF59 47 p47 := enter_prim (by rfl) (by kernel_rfl)
theorem enF59_201 : En PPF59 201 p201 := enter_prim (by rfl) (by kernel_rfl)
theorem enF59_138 : En PPF59 138 p138 := enter_prim (by rfl) (by kernel_rfl)
theorem enF59_56 : En PPF59 56 p56 := enter_prim (by rfl) (by kernel_rfl)
attribute [go_sem ↓] enF59_47 enF59_201 enF59_138 enF59_56
theorem c59 (a b : List Mv) (hp : Shrt a ∧ Shrt b) : ∀ lo H, CallOk NC lo 59 [.ps .unk (a.map Mv.row), .ps .unk (b.map Mv.row)] H (.tup (shortR ((pairsOf a).filterMap (thenP b)))) H := by
  refine contract saneNC primsF59 (fn := Tryz.f59) (by kernel_rfl) Tryz.func59 rfl rfl (by rfl) (shortR_pure _) ?_
  obtain ⟨hl, hok⟩ := hp.1.pairs
  have fb := fair_of hp.2.valid
  have hbx : b.length ≤ maxRows := by have := hp.2.few; unfold maxRows; omega
  have hcar : ∀ p ∈ pairsOf a, p47 [.ps .unk (b.map Mv.row), .agg [.str p.b, .int .i64 p.j]] = some (.tup (match carO b (p.b, p.j) with
      | none => [noPlace, .bool false]
      | some q => [.agg [.str q.1, i64 q.2], .bool true])) := fun p h => by
    obtain ⟨_, _, _, _, o1, o2⟩ := hok p h
    have := pe47 b p.b p.j hbx
    rw [carR_O hp.2.valid p.b o1 (by omega)] at this
    exact this
  have hsok : ∀ p ∈ (pairsOf a).filterMap (thenP b), p.ok := (thenP_fair (fairP_of (fair_of hp.1.valid)) fb).ok
  obtain ⟨v1, H1, h1, hO1, h2⟩ := r57 (P := PPF59) rfl rfl rfl a hp.1.valid hp.1.sum hp.1.few 0 .empty (Nat.zero_le _)
  rw [empty_n] at hO1 h2
  generalize pairsOf a = L at hl hok hsok h2 hcar ⊢
  have hll := List.length_filterMap_le (thenP b) L
  have e56 := pe56 (L.filterMap (thenP b)) ⟨by unfold maxRows; omega, hsok⟩
  obtain ⟨rows, n, hr12⟩ := shortR_pair (L.filterMap (thenP b))
  have e56 : p56 [.ps .unk ((L.filterMap (thenP b)).map Pr.row)] = some (.tup [.ps .unk rows, .int .i64 n]) := by rw [← hr12]; exact e56
  rw [hr12]
  clear hr12 hsok
  rcases h2 with ⟨rfl, rfl⟩ | ⟨hne, id, -, hid, rfl, hs⟩
  · have q0 : ((0 : Int) < 0) = False := by simp
    simp only [List.filterMap_nil, List.map_nil] at e56
    simp only [go_sem, reduceIte, Nat.reduceEqDiff, Nat.reduceAdd, Nat.reduceMul, Nat.reduceSub, Nat.reduceLeDiff, Nat.reduceLT, Nat.reduceBEq, reduceCtorEq, W_loop, en57 (show PPF59 57 = none from rfl), h1, ofVal_v, ofVal_H, cast0, q0, e56]
  · have hlx : L.length ≤ maxRows := by unfold maxRows; omega
    simp only [go_sem, reduceIte, Nat.reduceEqDiff, Nat.reduceAdd, Nat.reduceMul, Nat.reduceSub, Nat.reduceLeDiff, Nat.reduceLT, Nat.reduceBEq, reduceCtorEq, en57 (show PPF59 57 = none from rfl), h1, ofVal_v, ofVal_H]
    refine W_for (fun i T H M => M = [] ∧ getT T 1 = .ps .unk (b.map Mv.row) ∧ getT T 6 = .rs id 0 L.length 4 none ∧ getT T 8 = i64 (i : Nat) ∧ Old H1.n H1 H ∧ ∃ t, getT T 7 = .ps t (((L.take i).filterMap (thenP b)).map Pr.row) ∧ AppB H1.n H t (((L.take i).filterMap (thenP b)).map Pr.row) 4 137) L.length ?_ ?_ ?_
    · simp only [go_sem, reduceIte, Nat.reduceEqDiff, Nat.reduceAdd, Nat.reduceMul, Nat.reduceSub, Nat.reduceLeDiff, Nat.reduceLT, Nat.reduceBEq, reduceCtorEq]
      exact ⟨Old.refl H1, .nil, rfl, .inl ⟨rfl, rfl⟩⟩
    · rintro i T H M hi ⟨rfl, g1, g6, g8, gO, t, g7, gA⟩
      obtain ⟨x, hx⟩ : ∃ p, L[i]? = some p := ⟨L[i], by simp⟩
      have hw := wrap_succ hi hlx
      have hgs : H.get id = .row (prF L) 4 137 := by rw [gO.2 id hid]; exact hs
      have hHn := gO.1
      have gid : (id < H.n) = True := by simp only [eq_iff_iff, iff_true]; omega
      have gid1 : (id = H.n) = False := by simp only [eq_iff_iff, iff_false]; omega
      have gid2 : (id < H.n + 1) = True := by simp only [eq_iff_iff, iff_true]; omega
      obtain ⟨w, u0, u1, u2, u3, v4, v2, v1, v11, v22, v21, v211⟩ := pr_at hx
      have e47 := hcar x (List.mem_of_getElem? hx)
      have hft : (L.take (i + 1)).filterMap (thenP b) = (L.take i).filterMap (thenP b) ++ (thenP b x).toList := by
        rw [take_snoc hx, List.filterMap_append]
        cases hc : thenP b x <;> simp [hc]
      have hth : thenP b x = (carO b (x.b, x.j)).map fun q => ⟨x.a, x.i, q.1, q.2⟩ := rfl
      rw [hft]
      have hfl := List.length_filterMap_le (thenP b) (L.take i)
      rw [List.length_take] at hfl
      generalize (L.take i).filterMap (thenP b) = F at g7 gA hfl ⊢
      generalize carO b (x.b, x.j) = c at e47 hth
      rw [hth]
      clear hft hth hcar e56
      cases c with
      | none =>
        obtain ⟨x1, x2, x3, x4⟩ := x
        simp only [noPlace, i64] at e47
        simp only at u0 u1 u2 u3
        simp only [Option.map_none, Option.toList_none, List.append_nil]
        simp only [go_sem, reduceIte, Nat.reduceEqDiff, Nat.reduceAdd, Nat.reduceMul, Nat.reduceSub, Nat.reduceLeDiff, Nat.reduceLT, Nat.reduceBEq, reduceCtorEq, g1, g6, g8, g7, hgs, hi, u0, u1, u2, u3, v4, v2, v1, v11, v22, v21, v211, hw, under_rs, gid, gid1, gid2, e47, en47 (show PPF59 47 = some p47 from rfl)]
        exact ⟨gO.new _ _, t, rfl, gA.new _ _⟩
      | some q =>
        obtain ⟨q1, q2⟩ := q
        obtain ⟨x1, x2, x3, x4⟩ := x
        simp only [i64] at e47
        simp only at u0 u1 u2 u3
        simp only [Option.map_some, Option.toList_some]
        obtain ⟨t2, H3, ha, hB, _, hO3, _⟩ := app_b (lo := 0) (H := (H.push (.cells [.str [], .int .i64 0] 28)).set H.n (.cells [.str q1, .int .i64 q2] 28)) (gA.new _ _) (by simp; omega) (Nat.zero_le _) (r := (⟨x1, x2, q1, q2⟩ : Pr).row) (by rw [List.length_map]; unfold maxRows; omega) (by rfl) (by decide) (rows_all Pr.row_len F)
        have hst : (⟨x1, x2, q1, q2⟩ : Pr).row.map AV.strip0 = (⟨x1, x2, q1, q2⟩ : Pr).row := rfl
        have hgm : F.map Pr.row ++ [(⟨x1, x2, q1, q2⟩ : Pr).row] = (F ++ [(⟨x1, x2, q1, q2⟩ : Pr)]).map Pr.row := by simp
        rw [hst, hgm] at ha hB
        have hOf := (gO.new (.cells [.str [], .int .i64 0] 28) (.cells [.str q1, .int .i64 q2] 28)).trans hO3
        simp only [Pr.row, i64] at ha
        simp only [go_sem, reduceIte, Nat.reduceEqDiff, Nat.reduceAdd, Nat.reduceMul, Nat.reduceSub, Nat.reduceLeDiff, Nat.reduceLT, Nat.reduceBEq, reduceCtorEq, g1, g6, g8, g7, hgs, hi, u0, u1, u2, u3, v4, v2, v1, v11, v22, v21, v211, hw, under_rs, gid, gid1, gid2, e47, en47 (show PPF59 47 = some p47 from rfl), appO, ha, ab137]
        exact ⟨hOf, t2, rfl, hB⟩
    · rintro T H M ⟨rfl, g1, g6, g8, gO, t, g7, gA⟩
      rw [List.take_length] at g7
      simp only [go_sem, reduceIte, Nat.reduceEqDiff, Nat.reduceAdd, Nat.reduceMul, Nat.reduceSub, Nat.reduceLeDiff, Nat.reduceLT, Nat.reduceBEq, reduceCtorEq, g1, g6, g8, g7, Nat.lt_irrefl, e56]
noncomputable def p59 : List AV → Option AV := primOf (α := (List Mv) × (List Mv)) (fun x => [.ps .unk (x.1.map Mv.row), .ps .unk (x.2.map Mv.row)]) (fun x => Shrt x.1 ∧ Shrt x.2) (fun x => .tup (shortR ((pairsOf x.1).filterMap (thenP x.2))))
theorem pok59 : ∀ args v, p59 args = some v → ∀ lo H, CallOk NC lo 59 args H v H := by
  intro args v h
  obtain ⟨x, rfl, hp, rfl⟩ := primOf_inv h
  exact c59 x.1 x.2 hp
theorem pe59 (a b : List Mv) (hp : Shrt a ∧ Shrt b) : p59 [.ps .unk (a.map Mv.row), .ps .unk (b.map Mv.row)] = some (.tup (shortR ((pairsOf a).filterMap (thenP b)))) := primOf_enc (α := (List Mv) × (List Mv)) (enc := fun x => [.ps .unk (x.1.map Mv.row), .ps .unk (x.2.map Mv.row)]) (pre := fun x => Shrt x.1 ∧ Shrt x.2) (spec := fun x => .tup (shortR ((pairsOf x.1).filterMap (thenP x.2)))) (by intro x y h; (simp only [List.cons.injEq, AV.agg.injEq, AV.str.injEq, AV.int.injEq, AV.ps.injEq, AV.bool.injEq, Net.cells_iff, Ln.row_iff, Pc.row_iff, Mv.row_iff, lns_iff, pcs_iff, mvs_iff, Pr.row_iff, prs_iff, true_and, and_true] at h; first | simpa only [Prod.ext_iff] using h | simpa only [Prod.ext_iff, and_assoc] using h)) (a, b) hp
end Go.Sim

/-
The law: NetworkForms returns true.
-/
-- INJ Pr.row_iff prs_iff
namespace Go.Sim
open Go Go.Proofs
set_option maxRecDepth 100000
set_option maxHeartbeats 64000000
theorem tny_shrt {m : List Mv} (h : Tny m) : Shrt m := by
  refine ⟨h.valid, by have := h.few; omega, ?_⟩
  have := flat_len (m := m) fun x hx => by have := (map_good h.valid hx).len; omega
  have := h.sum
  omega
theorem shortR_few {l : List Pr} {g : List Mv} (h : greedy l = g) (hl : g.length ≤ 24) : shortR l = [.ps .unk (g.map Mv.row), i64 0] := by
  unfold shortR
  rw [h, if_neg (by omega)]
theorem greedy_pairs {a : List Mv} (ha : Fair a) : greedy (pairsOf a) = shortM' a := by
  unfold shortM' pairsOf
  rw [flat_sort (fun x hx => (ha.good x hx).len) ha.src]
theorem greedy_swap {a : List Mv} (ha : Fair a) : greedy (isort prLt ((pairsOf a).map Pr.swap)) = undoM a := by
  unfold undoM pairsOf
  rw [undo_sort ha]
theorem greedy_comp {a b : List Mv} (ha : Fair a) (hb : Fair b) : greedy ((pairsOf a).filterMap (thenP b)) = compM a b := by
  unfold compM pairsOf
  rw [comp_sort ha hb]
noncomputable def PPF7 : FuncId → Option (List AV → Option AV) := addPrim 138 p138 (addPrim 201 p201 (addPrim 47 p47 (addPrim 60 p60 (addPrim 61 p61 (addPrim 59 p59 (addPrim 58 p58 (addPrim 34 p34 (addPrim 55 p55 (addPrim 54 p54 (addPrim 53 p53 (addPrim 43 p43 (addPrim 52 p52 (addPrim 44 p44 (addPrim 41 p41 (addPrim 16 p16 (fun _ => none))))))))))))))))
theorem primsF7 : PrimsOk NC PPF7 := primsOk_add (primsOk_add (primsOk_add (primsOk_add (primsOk_add (primsOk_add (primsOk_add (primsOk_add (primsOk_add (primsOk_add (primsOk_add (primsOk_add (primsOk_add (primsOk_add (primsOk_add (primsOk_add (primsOk_none) (by kernel_rfl) (by kernel_rfl) pok16) (by kernel_rfl) (by kernel_rfl) pok41) (by kernel_rfl) (by kernel_rfl) pok44) (by kernel_rfl) (by kernel_rfl) pok52) (by kernel_rfl) (by kernel_rfl) pok43) (by kernel_rfl) (by kernel_rfl) pok53) (by kernel_rfl) (by kernel_rfl) pok54) (by kernel_rfl) (by kernel_rfl) pok55) (by kernel_rfl) (by kernel_rfl) pok34) (by kernel_rfl) (by kernel_rfl) pok58) (by kernel_rfl) (by kernel_rfl) pok59) (by kernel_rfl) (by kernel_rfl) pok61) (by kernel_rfl) (by kernel_rfl) pok60) (by kernel_rfl) (by kernel_rfl) pok47) (by kernel_rfl) (by kernel_rfl) pok201) (by kernel_rfl) (by kernel_rfl) pok138
theorem enF7_16 : En PPF7 16 p16 := enter_prim (by rfl) (by kernel_rfl)
theorem enF7_41 : En PPF7 41 p41 := enter_prim (by rfl) (by kernel_rfl)
theorem enF7_44 : En PPF7 44 p44 := enter_prim (by rfl) (by kernel_rfl)
theorem enF7_52 : En PPF7 52 p52 := enter_prim (by rfl) (by kernel_rfl)
theorem enF7_43 : En PPF7 43 p43 := enter_prim (by rfl) (by kernel_rfl)
theorem enF7_53 : En PPF7 53 p53 := enter_prim (by rfl) (by kernel_rfl)
theorem enF7_54 : En PPF7 54 p54 := enter_prim (by rfl) (by kernel_rfl)
theorem enF7_55 : En PPF7 55 p55 := enter_prim (by rfl) (by kernel_rfl)
theorem enF7_34 : En PPF7 34 p34 := enter_prim (by rfl) (by kernel_rfl)
theorem enF7_58 : En PPF7 58 p58 := enter_prim (by rfl) (by kernel_rfl)
theorem enF7_59 : En PPF7 59 p59 := enter_prim (by rfl) (by kernel_rfl)
theorem enF7_61 : En PPF7 61 p61 := enter_prim (by rfl) (by kernel_rfl)
theorem enF7_60 : En PPF7 60 p60 := enter_prim (by rfl) (by kernel_rfl)
theorem enF7_47 : En PPF7 47 p47 := enter_prim (by rfl) (by kernel_rfl)
theorem enF7_201 : En PPF7 201 p201 := enter_prim (by rfl) (by kernel_rfl)
theorem enF7_138 : En PPF7 138 p138 := enter_prim (by rfl) (by kernel_rfl)
attribute [go_sem ↓] enF7_16 enF7_41 enF7_44 enF7_52 enF7_43 enF7_53 enF7_54 enF7_55 enF7_34 enF7_58 enF7_59 enF7_61 enF7_60 enF7_47 enF7_201 enF7_138
theorem c7 (a b : List Mv) (hla : a.length ≤ 9223372036854775807) (hlb : b.length ≤ 9223372036854775807) : ∀ lo H, CallOk NC lo 7 [.ps .unk (a.map Mv.row), .ps .unk (b.map Mv.row)] H (.bool true) H := by
  refine contract saneNC primsF7 (fn := Tryz.f7) (by kernel_rfl) Tryz.func7 rfl rfl (by rfl) (by rfl) ?_
  have e41a := pe41 a hla
  have e41b := pe41 b hlb
  have e52a := pe52 a hla
  have e52b := pe52 b hlb
  cases hA : shortM a with
  | false =>
    rw [hA] at e41a
    simp only [go_sem, reduceIte, Nat.reduceEqDiff, Nat.reduceAdd, Nat.reduceMul, Nat.reduceSub, Nat.reduceLeDiff, Nat.reduceLT, Nat.reduceBEq, reduceCtorEq, e16, e41a]
  | true =>
  cases hB : shortM b with
  | false =>
    rw [hA] at e41a
    rw [hB] at e41b
    simp only [go_sem, reduceIte, Nat.reduceEqDiff, Nat.reduceAdd, Nat.reduceMul, Nat.reduceSub, Nat.reduceLeDiff, Nat.reduceLT, Nat.reduceBEq, reduceCtorEq, e16, e41a, e41b]
  | true =>
  rw [hA] at e41a
  rw [hB] at e41b
  have oka := shortM_ok hA
  have okb := shortM_ok hB
  have l25a := (shortM_few hA).1
  have l25b := (shortM_few hB).1
  have e44a := pe44 a oka.few
  have e44b := pe44 b okb.few
  have e43a := pe43 a oka.few
  have e43b := pe43 b okb.few
  have tna := fun h => tiny_of (m := a) h
  have tnb := fun h => tiny_of (m := b) h
  have many : ∀ n : Nat, n ≤ 25 → n ≤ maxRows := fun n h => by unfold maxRows; omega
  have hfa : FewOk a ∨ ¬ FewOk a := Classical.em _
  have e61 : ∀ m : List Mv, m.length ≤ 25 → p61 [.ps .unk (m.map Mv.row)] = some (.ps .unk (m.map Mv.row)) := fun m h => pe61 m (many _ h)
  have e60 : ∀ m : List Mv, m.length ≤ 25 → p60 [.ps .unk (m.map Mv.row), .ps .unk (m.map Mv.row)] = some (.bool true) := fun m h => by
    rw [pe60 _ _ (many _ h), (listB_iff mvB_iff).2 rfl]
  have e61n : p61 [.ps .unk []] = some (.ps .unk []) := e61 [] (by simp)
  have e60n : p60 [.ps .unk [], .ps .unk []] = some (.bool true) := e60 [] (by simp)
  have self : ∀ x : Int, (x = x) = True := fun x => by simp
  -- what the program and the reference answer
  have prog : ∀ m : List Mv, MapOk m → (mapR m = 0 → Tny m) → FewOk m := fun m h1 h2 => ⟨h1, fun h => (h2 h).few⟩
  rcases Classical.propComplete (mapR a = 0) with za | za <;> rcases Classical.propComplete (mapR b = 0) with zb | zb
  · -- both valid
    have za' := of_eq_true za
    have zb' := of_eq_true zb
    rw [za'] at e44a
    rw [zb'] at e44b
    cases tA : tinyB a with
    | false =>
      rw [tA] at e52a
      simp only [go_sem, reduceIte, Nat.reduceEqDiff, Nat.reduceAdd, Nat.reduceMul, Nat.reduceSub, Nat.reduceLeDiff, Nat.reduceLT, Nat.reduceBEq, reduceCtorEq, e16, e41a, e41b, e44a, e44b, e52a, self]
    | true =>
    cases tB : tinyB b with
    | false =>
      rw [tA] at e52a
      rw [tB] at e52b
      simp only [go_sem, reduceIte, Nat.reduceEqDiff, Nat.reduceAdd, Nat.reduceMul, Nat.reduceSub, Nat.reduceLeDiff, Nat.reduceLT, Nat.reduceBEq, reduceCtorEq, e16, e41a, e41b, e44a, e44b, e52a, e52b, self]
    | true =>
    rw [tA] at e52a
    rw [tB] at e52b
    have Ta := tiny_of tA
    have Tb := tiny_of tB
    have fa := Ta.fair
    have fb := Tb.fair
    have U := undo_all Ta Tb
    have e53 := pe53 a (prog a oka fun _ => Ta)
    have e54 := pe54 a (prog a oka fun _ => Ta)
    have e55 := pe55 a b ⟨prog a oka fun _ => Ta, prog b okb fun _ => Tb⟩
    have e58 := pe58 a (tny_shrt Ta)
    have e59 := pe59 a b ⟨tny_shrt Ta, tny_shrt Tb⟩
    have h3 : shortP a = [.ps .unk ((shortM' a).map Mv.row), i64 0] := by unfold shortP; rw [if_pos za']
    have h4 : undoP a = [.ps .unk ((undoM a).map Mv.row), i64 0] := by unfold undoP; rw [if_pos za']
    have h5 : compPP a b = [.ps .unk ((compM a b).map Mv.row), i64 0] := by unfold compPP; rw [za', zb']; rfl
    have h8 := shortR_few (greedy_swap fa) (by have := U.ul; omega)
    have h9 := shortR_few (greedy_comp fa fb) (by have := U.cl; omega)
    have h6 := shortR_few (greedy_pairs fa) (by have := U.sl; omega)
    rw [h3] at e53
    rw [h4] at e54
    rw [h5] at e55
    rw [h8] at e58
    rw [h9] at e59
    have pp := (tny_shrt Ta).pairs
    obtain ⟨v1, H1, r1, hO1, r2⟩ := r57 (P := PPF7) rfl rfl rfl a Ta.valid (tny_shrt Ta).sum l25a 0 .empty (Nat.zero_le _)
    rw [empty_n] at hO1 r2
    have hsl := U.sl
    have e61s := e61 (shortM' a) (by have := U.sl; omega)
    have e61u := e61 (undoM a) (by have := U.ul; omega)
    have e61c := e61 (compM a b) (by have := U.cl; omega)
    have e60s := e60 (shortM' a) (by have := U.sl; omega)
    have e60u := e60 (undoM a) (by have := U.ul; omega)
    have e60c := e60 (compM a b) (by have := U.cl; omega)
    have e34 : p34 [.ps .unk [[.int .i64 0], [.int .i64 0]]] = some (.int .i64 0) := e34_2 0 0
    rcases r2 with ⟨e, rfl⟩ | ⟨hne, id, -, hid, rfl, hs⟩
    · obtain ⟨v2, H2, r3, r4⟩ := r56p (P := PPF7) rfl [] (Nat.zero_le _) (fun p hp => (by cases hp)) H1.n H1 (Nat.le_refl _)
      rw [← e, h6] at r4
      obtain ⟨tk, rfl⟩ := strip_pair r4
      simp only [List.map_nil] at r3
      clear r4 h3 h4 h5 h6 h8 h9 Ta Tb fa fb U
      simp only [go_sem, reduceIte, Nat.reduceEqDiff, Nat.reduceAdd, Nat.reduceMul, Nat.reduceSub, Nat.reduceLeDiff, Nat.reduceLT, Nat.reduceBEq, reduceCtorEq, e16, e41a, e41b, e44a, e44b, e52a, e52b, self, e43a, e43b, e53, e54, e55, e34, en57 (show PPF7 57 = none from rfl), r1, ofVal_v, ofVal_H, en56 (show PPF7 56 = none from rfl), r3, e58, e59, e61s, e61u, e61c, e60s, e60u, e60c]
      rfl
    · obtain ⟨v2, H2, r3, r4⟩ := r56r (P := PPF7) rfl (pairsOf a) (by unfold maxRows; omega) pp.2 H1.n H1 (Nat.le_refl _) id hid hs
      rw [h6] at r4
      obtain ⟨tk, rfl⟩ := strip_pair r4
      clear r4 h3 h4 h5 h6 h8 h9 Ta Tb fa fb U
      simp only [go_sem, reduceIte, Nat.reduceEqDiff, Nat.reduceAdd, Nat.reduceMul, Nat.reduceSub, Nat.reduceLeDiff, Nat.reduceLT, Nat.reduceBEq, reduceCtorEq, e16, e41a, e41b, e44a, e44b, e52a, e52b, self, e43a, e43b, e53, e54, e55, e34, en57 (show PPF7 57 = none from rfl), r1, ofVal_v, ofVal_H, en56 (show PPF7 56 = none from rfl), r3, e58, e59, e61s, e61u, e61c, e60s, e60u, e60c]
      rfl
  all_goals
    have e53 := fun h => pe53 a (prog a oka h)
    have e54 := fun h => pe54 a (prog a oka h)
    have e55 := fun h k => pe55 a b ⟨prog a oka h, prog b okb k⟩
  · -- the first one valid
    have za' := of_eq_true za
    have zb' : mapR b ≠ 0 := fun h => by rw [eq_true h] at zb; simp at zb
    rw [za'] at e44a
    have e58 := fun h => pe58 a (tny_shrt h)
    cases tA : tinyB a with
    | false =>
      rw [tA] at e52a
      simp only [go_sem, reduceIte, Nat.reduceEqDiff, Nat.reduceAdd, Nat.reduceMul, Nat.reduceSub, Nat.reduceLeDiff, Nat.reduceLT, Nat.reduceBEq, reduceCtorEq, e16, e41a, e41b, e44a, e44b, e52a, self]
    | true =>
    rw [tA] at e52a
    have Ta := tiny_of tA
    have fa := Ta.fair
    have e53 := e53 fun _ => Ta
    have e54 := e54 fun _ => Ta
    have e55 := e55 (fun _ => Ta) fun h => absurd h zb'
    have e58 := e58 Ta
    have U := undo_all Ta Ta
    have h3 : shortP a = [.ps .unk ((shortM' a).map Mv.row), i64 0] := by unfold shortP; rw [if_pos za']
    have h4 : undoP a = [.ps .unk ((undoM a).map Mv.row), i64 0] := by unfold undoP; rw [if_pos za']
    have h5 : compPP a b = [.ps .unk [], i64 (mapR b)] := by
      unfold compPP
      have : firstI [mapR a, mapR b] = mapR b := by rw [firstI_two, if_pos za']
      rw [this, if_neg zb']
    have h8 := shortR_few (greedy_swap fa) (by have := U.ul; omega)
    have h6 := shortR_few (greedy_pairs fa) (by have := U.sl; omega)
    rw [h3] at e53
    rw [h4] at e54
    rw [h5] at e55
    rw [h8] at e58
    have pp := (tny_shrt Ta).pairs
    obtain ⟨v1, H1, r1, hO1, r2⟩ := r57 (P := PPF7) rfl rfl rfl a Ta.valid (tny_shrt Ta).sum l25a 0 .empty (Nat.zero_le _)
    rw [empty_n] at hO1 r2
    have e61s := e61 (shortM' a) (by have := U.sl; omega)
    have e61u := e61 (undoM a) (by have := U.ul; omega)
    have e60s := e60 (shortM' a) (by have := U.sl; omega)
    have e60u := e60 (undoM a) (by have := U.ul; omega)
    have e34 : p34 [.ps .unk [[.int .i64 0], [.int .i64 (mapR b)]]] = some (.int .i64 (mapR b)) := by rw [e34_2, firstI_two, if_pos rfl]
    generalize mapR b = B at e44b e55 e34 zb
    rcases r2 with ⟨e, rfl⟩ | ⟨hne, id, -, hid, rfl, hs⟩
    · obtain ⟨v2, H2, r3, r4⟩ := r56p (P := PPF7) rfl [] (Nat.zero_le _) (fun p hp => (by cases hp)) H1.n H1 (Nat.le_refl _)
      rw [← e, h6] at r4
      obtain ⟨tk, rfl⟩ := strip_pair r4
      simp only [List.map_nil] at r3
      clear r4 h3 h4 h5 h6 h8 Ta fa U
      simp only [go_sem, reduceIte, Nat.reduceEqDiff, Nat.reduceAdd, Nat.reduceMul, Nat.reduceSub, Nat.reduceLeDiff, Nat.reduceLT, Nat.reduceBEq, reduceCtorEq, e16, e41a, e41b, e44a, e44b, e52a, e52b, self, e43a, e43b, e53, e54, e55, e34, en57 (show PPF7 57 = none from rfl), r1, ofVal_v, ofVal_H, en56 (show PPF7 56 = none from rfl), r3, e58, e61s, e61u, e60s, e60u, zb, e61n, e60n]
      rfl
    · obtain ⟨v2, H2, r3, r4⟩ := r56r (P := PPF7) rfl (pairsOf a) (by unfold maxRows; omega) pp.2 H1.n H1 (Nat.le_refl _) id hid hs
      rw [h6] at r4
      obtain ⟨tk, rfl⟩ := strip_pair r4
      clear r4 h3 h4 h5 h6 h8 Ta fa U
      simp only [go_sem, reduceIte, Nat.reduceEqDiff, Nat.reduceAdd, Nat.reduceMul, Nat.reduceSub, Nat.reduceLeDiff, Nat.reduceLT, Nat.reduceBEq, reduceCtorEq, e16, e41a, e41b, e44a, e44b, e52a, e52b, self, e43a, e43b, e53, e54, e55, e34, en57 (show PPF7 57 = none from rfl), r1, ofVal_v, ofVal_H, en56 (show PPF7 56 = none from rfl), r3, e58, e61s, e61u, e60s, e60u, zb, e61n, e60n]
      rfl
  · -- the first one has an error
    have za' : mapR a ≠ 0 := fun h => by rw [eq_true h] at za; simp at za
    have zb' := of_eq_true zb
    rw [zb'] at e44b
    cases tB : tinyB b with
    | false =>
      rw [tB] at e52b
      simp only [go_sem, reduceIte, Nat.reduceEqDiff, Nat.reduceAdd, Nat.reduceMul, Nat.reduceSub, Nat.reduceLeDiff, Nat.reduceLT, Nat.reduceBEq, reduceCtorEq, e16, e41a, e41b, e44a, e44b, e52b, self, za]
    | true =>
    rw [tB] at e52b
    have Tb := tiny_of tB
    have e53 := e53 fun h => absurd h za'
    have e54 := e54 fun h => absurd h za'
    have e55 := e55 (fun h => absurd h za') fun _ => Tb
    have h3 : shortP a = [.ps .unk [], i64 (mapR a)] := by unfold shortP; rw [if_neg za']
    have h4 : undoP a = [.ps .unk [], i64 (mapR a)] := by unfold undoP; rw [if_neg za']
    have h5 : compPP a b = [.ps .unk [], i64 (mapR a)] := by
      unfold compPP
      have : firstI [mapR a, mapR b] = mapR a := by rw [firstI_two, if_neg za']
      rw [this, if_neg za']
    rw [h3] at e53
    rw [h4] at e54
    rw [h5] at e55
    have e34 : p34 [.ps .unk [[.int .i64 (mapR a)], [.int .i64 0]]] = some (.int .i64 (mapR a)) := by rw [e34_2, firstI_two, if_neg za']
    generalize mapR a = A at e44a e53 e54 e55 e34 za
    simp only [go_sem, reduceIte, Nat.reduceEqDiff, Nat.reduceAdd, Nat.reduceMul, Nat.reduceSub, Nat.reduceLeDiff, Nat.reduceLT, Nat.reduceBEq, reduceCtorEq, e16, e41a, e41b, e44a, e44b, e52b, self, e43a, e43b, e53, e54, e55, e34, za, e61n, e60n]
  · -- both have errors
    have za' : mapR a ≠ 0 := fun h => by rw [eq_true h] at za; simp at za
    have zb' : mapR b ≠ 0 := fun h => by rw [eq_true h] at zb; simp at zb
    have e53 := e53 fun h => absurd h za'
    have e54 := e54 fun h => absurd h za'
    have e55 := e55 (fun h => absurd h za') fun h => absurd h zb'
    have h3 : shortP a = [.ps .unk [], i64 (mapR a)] := by unfold shortP; rw [if_neg za']
    have h4 : undoP a = [.ps .unk [], i64 (mapR a)] := by unfold undoP; rw [if_neg za']
    have h5 : compPP a b = [.ps .unk [], i64 (mapR a)] := by
      unfold compPP
      have : firstI [mapR a, mapR b] = mapR a := by rw [firstI_two, if_neg za']
      rw [this, if_neg za']
    rw [h3] at e53
    rw [h4] at e54
    rw [h5] at e55
    have e34 : p34 [.ps .unk [[.int .i64 (mapR a)], [.int .i64 (mapR b)]]] = some (.int .i64 (mapR a)) := by rw [e34_2, firstI_two, if_neg za']
    generalize mapR a = A at e44a e53 e54 e55 e34 za
    generalize mapR b = B at e44b e34 zb
    simp only [go_sem, reduceIte, Nat.reduceEqDiff, Nat.reduceAdd, Nat.reduceMul, Nat.reduceSub, Nat.reduceLeDiff, Nat.reduceLT, Nat.reduceBEq, reduceCtorEq, e16, e41a, e41b, e44a, e44b, self, e43a, e43b, e53, e54, e55, e34, za, zb, e61n, e60n]
end Go.Sim
