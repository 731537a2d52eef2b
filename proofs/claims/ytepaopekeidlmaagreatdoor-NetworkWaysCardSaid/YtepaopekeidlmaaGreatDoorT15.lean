/-
The parts NetV4, NetV5, NetV6, NetV7, NetV8, NetV9, NetV10, NetV11, NetV12, NetW4, NetV13, NetX2, NetX3, NetX4, NetX5, NetV14 of one proof, joined: each begins with a remark that says what it shows.
-/
import Derived.Test.YtepaopekeidlmaaGreatDoorT14
set_option linter.unusedSimpArgs false
set_option linter.unusedVariables false
open Nat (reduceEqDiff reduceAdd reduceMul reduceSub reduceLeDiff reduceLT)

/-
Ways: routes with a further leg; how routes compare, by the program.
-/
-- INJ Leg.row_iff lgs_iff
namespace Go.Sim
open Go Go.Proofs
set_option maxRecDepth 100000
set_option maxHeartbeats 16000000
variable {P : FuncId → Option (List AV → Option AV)}
theorem r243 (h245 : P 245 = some p245) (h119 : P 119 = some p119) (h241 : P 241 = some p241L) (h244 : P 244 = none) (n : Net) (hn : n.lines.length ≤ maxRows) (a b : List Leg) (ha : a.length ≤ maxRows) (hb : b.length ≤ maxRows) (lo c : Nat) (H : Heap) (hlo : lo ≤ H.n) (hc : c < H.n) (hs : H.get c = .cells n.cells 40) :
    ∃ H', R (NC.withPrims P) (.call lo 243 [.ps .unk (a.map Leg.row), .ps .unk (b.map Leg.row), .fn 244 [] [.ptr c 0]] H) = some (.ofVal (i64 (cmpLegs n a b)) H') := by
  obtain ⟨v, H', h1, h2⟩ := R_of_body (C := NC.withPrims P) (f := 243) (lo := lo) (args := [.ps .unk (a.map Leg.row), .ps .unk (b.map Leg.row), .fn 244 [] [.ptr c 0]]) (H := H) (fn := Tryz.f243) (Q := fun v H' => v = i64 (cmpLegs n a b)) (by kernel_rfl) Tryz.func243 rfl rfl (by
    simp only [go_sem, reduceIte, reduceEqDiff, reduceAdd, reduceMul, reduceSub, reduceLeDiff, reduceLT, Nat.reduceBEq, reduceCtorEq]
    refine W_for (fun k T H' M => M = [] ∧ getT T 0 = .ps .unk (a.map Leg.row) ∧ getT T 1 = .ps .unk (b.map Leg.row) ∧ getT T 2 = .fn 244 [] [.ptr c 0] ∧ getT T 11 = .ps .unk (a.map Leg.row) ∧ getT T 12 = i64 (a.length : Nat) ∧ getT T 13 = i64 k ∧ lo ≤ H'.n ∧ c < H'.n ∧ H'.get c = .cells n.cells 40 ∧ cmpLegs n a b = cmpLegs n (a.drop k) (b.drop k)) a.length ?_ ?_ ?_
    · simp only [go_sem, reduceIte, reduceEqDiff, reduceAdd, reduceMul, reduceSub, reduceLeDiff, reduceLT, Nat.reduceBEq, reduceCtorEq, List.length_map]; exact ⟨hlo, hc, hs⟩
    · rintro k T H1 M hk ⟨rfl, g0, g1, g2, g11, g12, g13, gl, gc, gs, hf⟩
      have hl1 : (lo ≤ H1.n) = True := by simp [gl]
      have hl2 : (lo ≤ H1.n + 1) = True := by simp only [eq_iff_iff, iff_true]; omega
      obtain ⟨x, hx⟩ : ∃ p, a[k]? = some p := ⟨a[k], by simp⟩
      have hrx := map_at (f := Leg.row) hx
      have hw := wrap_succ hk ha
      have hcn : (c = H1.n) = False := by simp; omega
      have hcn1 : (c = H1.n + 1) = False := by simp; omega
      rw [drop_at hx] at hf
      rcases Nat.lt_or_ge k b.length with hkb | hkb
      · obtain ⟨y, hy⟩ : ∃ p, b[k]? = some p := ⟨b[k], by simp⟩
        have hry := map_at (f := Leg.row) hy
        rw [drop_at hy] at hf
        obtain ⟨H2, hcall⟩ := r244 h245 h119 h241 n hn x y (((H1.push (.cells [.str [], .int .i64 0, .int .i64 0] 157)).set H1.n (.cells x.row 157)).push (.cells [.str [], .int .i64 0, .int .i64 0] 157) |>.set (H1.n + 1) (.cells y.row 157)).n c (((H1.push (.cells [.str [], .int .i64 0, .int .i64 0] 157)).set H1.n (.cells x.row 157)).push (.cells [.str [], .int .i64 0, .int .i64 0] 157) |>.set (H1.n + 1) (.cells y.row 157)) (by simp; omega) (by simp only [go_sem, reduceIte, reduceEqDiff, reduceAdd, reduceMul, reduceSub, reduceLeDiff, reduceLT, Nat.reduceBEq, reduceCtorEq, hcn, hcn1]; exact gs)
        have hcl : cmpLegs n (x :: a.drop (k + 1)) (y :: b.drop (k + 1)) = if cmpLeg n x y = 0 then cmpLegs n (a.drop (k + 1)) (b.drop (k + 1)) else cmpLeg n x y := rfl
        rw [hcl] at hf
        generalize cmpLeg n x y = C at hcall hf
        simp only [hn_set, hn_push] at hcall
        obtain ⟨x1, x2, x3⟩ := x
        obtain ⟨y1, y2, y3⟩ := y
        simp only [Leg.row] at hrx hry hcall
        rcases Classical.propComplete (C = 0) with z | z
        · rw [if_pos (of_eq_true z)] at hf
          simp only [go_sem, reduceIte, reduceEqDiff, reduceAdd, reduceMul, reduceSub, reduceLeDiff, reduceLT, Nat.reduceBEq, reduceCtorEq, g0, g1, g2, g11, g12, g13, List.length_map, hk, hkb, hrx, hry, hw, en244 h244, hcall, ofVal_v, ofVal_H, z, hcn, hcn1, hl1, hl2]
          exact ⟨by omega, by omega, gs, hf⟩
        · rw [if_neg (of_eq_false z)] at hf
          simp only [go_sem, reduceIte, reduceEqDiff, reduceAdd, reduceMul, reduceSub, reduceLeDiff, reduceLT, Nat.reduceBEq, reduceCtorEq, g0, g1, g2, g11, g12, g13, List.length_map, hk, hkb, hrx, hry, hw, en244 h244, hcall, ofVal_v, ofVal_H, z, hcn, hcn1, hl1, hl2]
          rw [hf]
      · have hkb' : (k < b.length) = False := by simp only [eq_iff_iff, iff_false]; omega
        rw [List.drop_of_length_le hkb] at hf
        have hcl : cmpLegs n (x :: a.drop (k + 1)) [] = 1 := rfl
        rw [hcl] at hf
        obtain ⟨x1, x2, x3⟩ := x
        simp only [Leg.row] at hrx
        simp only [go_sem, reduceIte, reduceEqDiff, reduceAdd, reduceMul, reduceSub, reduceLeDiff, reduceLT, Nat.reduceBEq, reduceCtorEq, g0, g1, g2, g11, g12, g13, List.length_map, hk, hkb', hrx, hf, hl1]
    · rintro T H1 M ⟨rfl, g0, g1, g2, g11, g12, g13, gl, gc, gs, hf⟩
      rw [List.drop_length] at hf
      rcases Nat.lt_or_ge a.length b.length with hab | hab
      · have : cmpLegs n [] (b.drop a.length) = -1 := by
          cases hd : b.drop a.length with
          | nil => have := congrArg List.length hd; simp at this; omega
          | cons y r => rfl
        rw [this] at hf
        simp only [go_sem, reduceIte, reduceEqDiff, reduceAdd, reduceMul, reduceSub, reduceLeDiff, reduceLT, Nat.reduceBEq, reduceCtorEq, g0, g1, g2, g11, g12, g13, List.length_map, Nat.lt_irrefl, hab, hf]
      · have hab' : (a.length < b.length) = False := by simp only [eq_iff_iff, iff_false]; omega
        rw [List.drop_of_length_le hab] at hf
        have : cmpLegs n [] [] = 0 := rfl
        rw [this] at hf
        simp only [go_sem, reduceIte, reduceEqDiff, reduceAdd, reduceMul, reduceSub, reduceLeDiff, reduceLT, Nat.reduceBEq, reduceCtorEq, g0, g1, g2, g11, g12, g13, List.length_map, Nat.lt_irrefl, hab', hf])
  exact ⟨H', by rw [h1, h2]⟩
def cmpRt (n : Net) (a : List Leg) (d : Int) (b : List Leg) (e : Int) : Int := orL [cmpI d e, cmpI (a.length : Nat) (b.length : Nat), cmpLegs n a b]
noncomputable def PPF203 : FuncId → Option (List AV → Option AV) := addPrim 241 p241L (addPrim 119 p119 (addPrim 245 p245 (fun _ => none)))
theorem primsF203 : PrimsOk NC PPF203 := primsOk_add (primsOk_add (primsOk_add (primsOk_none) (by kernel_rfl) (by kernel_rfl) pok245) (by kernel_rfl) (by kernel_rfl) pok119) (by kernel_rfl) (by kernel_rfl) pok241L
theorem enF203_245 : En PPF203 245 p245 := enter_prim (by rfl) (by kernel_rfl)
theorem enF203_119 : En PPF203 119 p119 := enter_prim (by rfl) (by kernel_rfl)
theorem enF203_241 {rec : Rec} {lo : Nat} {args : List AV} {H : Heap} {K : AV → Heap → Prop} : VO (aenter (NC.withPrims PPF203) rec lo 241 args H) K = AO (p241L args) fun v => K v H := enter_prim (by rfl) (by kernel_rfl)
attribute [go_sem ↓] enF203_245 enF203_119 enF203_241
theorem c203 (n : Net) (a : List Leg) (d : Int) (b : List Leg) (e : Int) (hp : n.lines.length ≤ maxRows ∧ a.length ≤ maxRows ∧ b.length ≤ maxRows) : ∀ lo H, CallOk NC lo 203 [.agg n.cells, .agg [.ps .unk (a.map Leg.row), i64 d], .agg [.ps .unk (b.map Leg.row), i64 e]] H (i64 (cmpRt n a d b e)) H := by
  refine contract saneNC primsF203 (fn := Tryz.f203) (by kernel_rfl) Tryz.func203 rfl rfl (by rfl) (by first | rfl | (split <;> first | rfl | (split <;> rfl))) ?_
  obtain ⟨hn, ha, hb⟩ := hp
  have e119 : ∀ a b, p119 [.int .i64 a, .int .i64 b] = some (.int .i64 (cmpI a b)) := fun a b => pe119 a b
  obtain ⟨H', hr⟩ := r243 (P := PPF203) rfl rfl rfl rfl n hn a b ha hb 3 0 (((Heap.empty.push (.cells n.cells 40)).push (.cells [.ps .unk (a.map Leg.row), .int .i64 d] 246)).push (.cells [.ps .unk (b.map Leg.row), .int .i64 e] 246)) (by rw [hn_push, hn_push, hn_push]; exact Nat.le_refl 3) (by rw [hn_push, hn_push, hn_push]; exact Nat.succ_pos _) (by rfl)
  unfold cmpRt
  generalize cmpLegs n a b = C at hr ⊢
  simp only [Net.cells] at hr
  simp only [go_sem, reduceIte, reduceEqDiff, reduceAdd, reduceMul, reduceSub, reduceLeDiff, reduceLT, Nat.reduceBEq, reduceCtorEq, Net.cells, List.length_map, e119, en243 (show PPF203 243 = none from rfl), hr, ofVal_v, ofVal_H, e241L3]
noncomputable def p203 : List AV → Option AV := primOf (α := (Net) × (List Leg) × (Int) × (List Leg) × (Int)) (fun x => [.agg x.1.cells, .agg [.ps .unk (x.2.1.map Leg.row), i64 x.2.2.1], .agg [.ps .unk (x.2.2.2.1.map Leg.row), i64 x.2.2.2.2]]) (fun x => x.1.lines.length ≤ maxRows ∧ x.2.1.length ≤ maxRows ∧ x.2.2.2.1.length ≤ maxRows) (fun x => i64 (cmpRt x.1 x.2.1 x.2.2.1 x.2.2.2.1 x.2.2.2.2))
theorem pok203 : ∀ args v, p203 args = some v → ∀ lo H, CallOk NC lo 203 args H v H := by
  intro args v h
  obtain ⟨x, rfl, hp, rfl⟩ := primOf_inv h
  exact c203 x.1 x.2.1 x.2.2.1 x.2.2.2.1 x.2.2.2.2 hp
theorem pe203 (n : Net) (a : List Leg) (d : Int) (b : List Leg) (e : Int) (hp : n.lines.length ≤ maxRows ∧ a.length ≤ maxRows ∧ b.length ≤ maxRows) : p203 [.agg n.cells, .agg [.ps .unk (a.map Leg.row), .int .i64 d], .agg [.ps .unk (b.map Leg.row), .int .i64 e]] = some (.int .i64 (cmpRt n a d b e)) := primOf_enc (α := (Net) × (List Leg) × (Int) × (List Leg) × (Int)) (enc := fun x => [.agg x.1.cells, .agg [.ps .unk (x.2.1.map Leg.row), i64 x.2.2.1], .agg [.ps .unk (x.2.2.2.1.map Leg.row), i64 x.2.2.2.2]]) (pre := fun x => x.1.lines.length ≤ maxRows ∧ x.2.1.length ≤ maxRows ∧ x.2.2.2.1.length ≤ maxRows) (spec := fun x => i64 (cmpRt x.1 x.2.1 x.2.2.1 x.2.2.2.1 x.2.2.2.2)) (by intro x y h; (simp only [List.cons.injEq, AV.agg.injEq, AV.str.injEq, AV.int.injEq, AV.ps.injEq, AV.bool.injEq, Net.cells_iff, Ln.row_iff, Pc.row_iff, Mv.row_iff, lns_iff, pcs_iff, mvs_iff, Leg.row_iff, lgs_iff, true_and, and_true] at h; first | simpa only [Prod.ext_iff] using h | simpa only [Prod.ext_iff, and_assoc] using h)) (n, a, d, b, e) hp
/-! ### A further leg -/
theorem r246 (x : Leg) (r : List Leg) (hl : (x :: r).length ≤ maxRows) (lo : Nat) (H : Heap) :
    ∃ v H', R (NC.withPrims P) (.call lo 246 [.ps .unk ((x :: r).map Leg.row)] H) = some (.ofVal v H') ∧ v = .ps (.tok H.n) ((x :: r).map Leg.row) ∧ H' = H.push (.row [] 3 157) := by
  refine R_of_body (C := NC.withPrims P) (f := 246) (lo := lo) (args := [.ps .unk ((x :: r).map Leg.row)]) (H := H) (fn := Tryz.f246) (Q := fun v H' => v = .ps (.tok H.n) ((x :: r).map Leg.row) ∧ H' = H.push (.row [] 3 157)) (by kernel_rfl) Tryz.func246 rfl rfl ?_
  have hap : ∀ lo, appP lo H 3 157 (.ps .exact []) ((x :: r).map Leg.row) = some (.ps (.tok H.n) ((x :: r).map Leg.row), H.push (.row [] 3 157)) := by
    intro lo
    unfold appP
    have h1 : ([] : List (List AV)).length + ((x :: r).map Leg.row).length ≤ maxRows := by simpa using hl
    have h2 : ((x :: r).map Leg.row).all pureRow = true := by
      rw [List.all_eq_true]
      intro w hw
      obtain ⟨q, _, rfl⟩ := List.mem_map.1 hw
      rfl
    have h4 : ((x :: r).map Leg.row).map (List.map AV.strip0) = (x :: r).map Leg.row := by
      rw [List.map_map]
      exact List.map_congr_left fun q _ => rfl
    simp only [List.map_cons] at h1 h2 h4 ⊢
    simp only [h1, h2, h4, decide_true, Bool.and_self, Bool.true_and, if_true, List.all_nil]
    rfl
  have hri : rowsIn H 3 (.ps .unk ((x :: r).map Leg.row)) = some ((x :: r).map Leg.row) := by
    show (if ((x :: r).map Leg.row).all (fun r => decide (r.length = 3)) = true then some ((x :: r).map Leg.row) else none) = _
    rw [if_pos (rows_all Leg.row_len _)]
  simp only [List.map_cons] at hap hri
  have hnb : isNilB .unk (x.row :: r.map Leg.row) = some false := rfl
  have hra := rows_all Leg.row_len (x :: r)
  simp only [List.map_cons, List.all_cons] at hra
  simp only [go_sem, reduceIte, reduceEqDiff, reduceAdd, reduceMul, reduceSub, reduceLeDiff, reduceLT, Nat.reduceBEq, reduceCtorEq, hnb, appO, hra, hap, List.map_cons]
theorem en246 (hP : P 246 = none) {lo : Nat} {args : List AV} {H : Heap} {K : AV → Heap → Prop} (hm : mayBeNil args = false) :
    VO (aenter (NC.withPrims P) (R (NC.withPrims P)) lo 246 args H) K = AO (R (NC.withPrims P) (.call H.n 246 args H)) fun o => K o.val o.s.H := by
  have h1 : (NC.withPrims P).memo 246 args = none := rfl
  have h2 : (NC.withPrims P).prim 246 = none := by
    show (match NC.prim 246 with | some p => some p | none => P 246) = none
    rw [hP]; kernel_rfl
  have h3 : (NC.withPrims P).hprim 246 = none := by kernel_rfl
  have h4 : (NC.withPrims P).mode 246 = .fresh := by kernel_rfl
  unfold aenter
  simp only [h1, h2, h3, h4, hm, Bool.and_false, Bool.false_eq_true, if_false]
  cases R (NC.withPrims P) (.call H.n 246 args H) <;> rfl
theorem en246n (hP : P 246 = none) {lo : Nat} {H : Heap} {K : AV → Heap → Prop} :
    VO (aenter (NC.withPrims P) (R (NC.withPrims P)) lo 246 [.ps .unk []] H) K = K (.ps .exact []) H := by
  have h1 : (NC.withPrims P).memo 246 [.ps .unk []] = none := rfl
  have h2 : (NC.withPrims P).prim 246 = none := by
    show (match NC.prim 246 with | some p => some p | none => P 246) = none
    rw [hP]; kernel_rfl
  have h3 : (NC.withPrims P).hprim 246 = none := by kernel_rfl
  have h4 : (NC.withPrims P).twice 246 = true := by kernel_rfl
  have h5 : mayBeNil [.ps .unk []] = true := rfl
  obtain ⟨v1, H1, r1, rfl⟩ : ∃ v H', R (NC.withPrims P) (.call H.n 246 [.ps .nil []] H) = some (.ofVal v H') ∧ v = .ps .nil [] := by
    refine R_of_body (C := NC.withPrims P) (f := 246) (lo := H.n) (args := [.ps .nil []]) (H := H) (fn := Tryz.f246) (Q := fun v H' => v = .ps .nil []) (by kernel_rfl) Tryz.func246 rfl rfl ?_
    have hnb : isNilB .nil [] = some true := rfl
    simp only [go_sem, reduceIte, reduceEqDiff, reduceAdd, reduceMul, reduceSub, reduceLeDiff, reduceLT, Nat.reduceBEq, reduceCtorEq, hnb]
  obtain ⟨v2, H2, r2, rfl⟩ : ∃ v H', R (NC.withPrims P) (.call H.n 246 [.ps .nn []] H) = some (.ofVal v H') ∧ v = .ps .exact [] := by
    refine R_of_body (C := NC.withPrims P) (f := 246) (lo := H.n) (args := [.ps .nn []]) (H := H) (fn := Tryz.f246) (Q := fun v H' => v = .ps .exact []) (by kernel_rfl) Tryz.func246 rfl rfl ?_
    have hnb : isNilB .nn [] = some false := rfl
    have hap : ∀ lo, appP lo H 3 157 (.ps .exact []) [] = some (.ps .exact [], H) := fun lo => rfl
    simp only [go_sem, reduceIte, reduceEqDiff, reduceAdd, reduceMul, reduceSub, reduceLeDiff, reduceLT, Nat.reduceBEq, reduceCtorEq, hnb, appO, hap]
  unfold aenter
  simp only [h1, h2, h3, h4, h5, Bool.and_self, if_true, r1, r2, ofVal_v]
  rfl
noncomputable def PPF204 : FuncId → Option (List AV → Option AV) := addPrim 146 p146 (fun _ => none)
theorem primsF204 : PrimsOk NC PPF204 := primsOk_add (primsOk_none) (by kernel_rfl) (by kernel_rfl) pok146
theorem enF204_146 : En PPF204 146 p146 := enter_prim (by rfl) (by kernel_rfl)
attribute [go_sem ↓] enF204_146
theorem c204 (w : List Leg) (d : Int) (l : Leg) (hp : w.length + 1 ≤ maxRows) : ∀ lo H, CallOk NC lo 204 [.agg [.ps .unk (w.map Leg.row), i64 d], .agg l.row] H (.agg [.ps .unk ((w ++ [l]).map Leg.row), i64 (wrapq .i64 (Int.add d (legW l)))]) H := by
  refine contract saneNC primsF204 (fn := Tryz.f204) (by kernel_rfl) Tryz.func204 rfl rfl (by rfl) rfl ?_
  have e146 := pe146 l
  generalize legW l = D at e146 ⊢
  cases w with
  | nil =>
    have hap : ∀ H : Heap, appP 0 H 3 157 (.ps .exact []) [l.row] = some (.ps (.tok H.n) [l.row], H.push (.row [] 3 157)) := fun H => rfl
    obtain ⟨l1, l2, l3⟩ := l
    simp only [Leg.row] at e146 hap
    simp only [go_sem, reduceIte, reduceEqDiff, reduceAdd, reduceMul, reduceSub, reduceLeDiff, reduceLT, Nat.reduceBEq, reduceCtorEq, Leg.row, en246n (show PPF204 246 = none from rfl), e146, appO, hap]
  | cons x r =>
    have hap : ∀ (H : Heap) (k : Nat), H.get k = .row [] 3 157 → appP 0 H 3 157 (.ps (.tok k) ((x :: r).map Leg.row)) [l.row] = some (.ps (.tok H.n) (((x :: r) ++ [l]).map Leg.row), (H.set k .dead).push (.row [] 3 157)) := fun H k hk => by
      rw [app_next (by simp) (by simpa using hp) (by rfl) (by decide) (rows_all Leg.row_len _) hk (Nat.zero_le _) (by simp)]
      rw [List.map_append]; rfl
    have hm : mayBeNil [.ps .unk ((x :: r).map Leg.row)] = false := rfl
    obtain ⟨v1, H1, h1, rfl, rfl⟩ := r246 (P := PPF204) x r (by simp at hp ⊢; omega) 3 (((Heap.empty.push (.cells [.ps .unk ((x :: r).map Leg.row), .int .i64 d] 246)).push (.cells l.row 157)).push (.cells [.ps .nil [], .int .i64 0] 246))
    have hap2 := hap ((((Heap.empty.push (.cells [.ps .unk ((x :: r).map Leg.row), .int .i64 d] 246)).push (.cells l.row 157)).push (.cells [.ps .nil [], .int .i64 0] 246)).push (.row [] 3 157)) 3 (by rw [Heap.get_push, if_pos (by simp only [hn_push, empty_n])])
    generalize hL : ((x :: r) ++ [l]).map Leg.row = L at hap2
    generalize (x :: r).map Leg.row = W at h1 hap2 hm
    obtain ⟨l1, l2, l3⟩ := l
    simp only [Leg.row] at e146 h1 hap2
    simp only [go_sem, reduceIte, reduceEqDiff, reduceAdd, reduceMul, reduceSub, reduceLeDiff, reduceLT, Nat.reduceBEq, reduceCtorEq, Leg.row, en246 (show PPF204 246 = none from rfl) hm, h1, ofVal_v, ofVal_H, e146, appO, hap2]
noncomputable def p204 : List AV → Option AV := primOf (α := (List Leg) × (Int) × (Leg)) (fun x => [.agg [.ps .unk (x.1.map Leg.row), i64 x.2.1], .agg x.2.2.row]) (fun x => x.1.length + 1 ≤ maxRows) (fun x => .agg [.ps .unk ((x.1 ++ [x.2.2]).map Leg.row), i64 (wrapq .i64 (Int.add x.2.1 (legW x.2.2)))])
theorem pok204 : ∀ args v, p204 args = some v → ∀ lo H, CallOk NC lo 204 args H v H := by
  intro args v h
  obtain ⟨x, rfl, hp, rfl⟩ := primOf_inv h
  exact c204 x.1 x.2.1 x.2.2 hp
theorem pe204 (w : List Leg) (d : Int) (l : Leg) (hp : w.length + 1 ≤ maxRows) : p204 [.agg [.ps .unk (w.map Leg.row), .int .i64 d], .agg l.row] = some (.agg [.ps .unk ((w ++ [l]).map Leg.row), .int .i64 (wrapq .i64 (Int.add d (legW l)))]) := primOf_enc (α := (List Leg) × (Int) × (Leg)) (enc := fun x => [.agg [.ps .unk (x.1.map Leg.row), i64 x.2.1], .agg x.2.2.row]) (pre := fun x => x.1.length + 1 ≤ maxRows) (spec := fun x => .agg [.ps .unk ((x.1 ++ [x.2.2]).map Leg.row), i64 (wrapq .i64 (Int.add x.2.1 (legW x.2.2)))]) (by intro x y h; (simp only [List.cons.injEq, AV.agg.injEq, AV.str.injEq, AV.int.injEq, AV.ps.injEq, AV.bool.injEq, Net.cells_iff, Ln.row_iff, Pc.row_iff, Mv.row_iff, lns_iff, pcs_iff, mvs_iff, Leg.row_iff, lgs_iff, true_and, and_true] at h; first | simpa only [Prod.ext_iff] using h | simpa only [Prod.ext_iff, and_assoc] using h)) (w, d, l) hp
end Go.Sim

/-
The plain law of ways: labels as lists; what offering a route changes; labels get better only so often.
-/
namespace Go.Sim
abbrev Labs : Type := List (Pt × List Leg)
def lk : Labs → Pt → Option (List Leg)
  | [], _ => none
  | x :: r, p => if x.1 = p then some x.2 else lk r p
def up : Labs → Pt → List Leg → Labs
  | [], p, w => [(p, w)]
  | x :: r, p, w => if x.1 = p then (p, w) :: r else x :: up r p w
theorem lk_up (L : Labs) (p q : Pt) (w : List Leg) : lk (up L p w) q = if p = q then some w else lk L q := by
  induction L with
  | nil => unfold up lk; rfl
  | cons x r ih =>
    unfold up
    by_cases h : x.1 = p
    · rw [if_pos h]
      unfold lk
      by_cases h2 : p = q
      · rw [if_pos h2, if_pos h2]
      · rw [if_neg h2, if_neg h2, if_neg (by rw [h]; exact h2)]
    · rw [if_neg h]
      unfold lk
      rw [ih]
      by_cases h2 : x.1 = q
      · rw [if_pos h2, if_pos h2, if_neg (by rw [← h2]; exact fun e => h e.symm)]
      · rw [if_neg h2, if_neg h2]
section
variable (E : Nat → Bool → Pt) (N : Nat) (ix : List Nat → Int)
def offer1 (f : Pt) (w : List Leg) (p : Pt) (s : Labs × Bool) : Labs × Bool :=
  if p.1 = f.1 then
    match lk s.1 p with
    | none => (up s.1 p (w ++ [⟨p.1, f.2, p.2⟩]), true)
    | some old => if wLt ix (w ++ [⟨p.1, f.2, p.2⟩]) old then (up s.1 p (w ++ [⟨p.1, f.2, p.2⟩]), true) else s
  else s
def ends : Nat → List Pt
  | 0 => []
  | n + 1 => ends n ++ [E n false, E n true]
theorem mem_ends {n : Nat} {p : Pt} : p ∈ ends E n ↔ ∃ i k, i < n ∧ p = E i k := by
  induction n with
  | zero => simp [ends]
  | succ n ih =>
    simp only [ends, List.mem_append, ih, List.mem_cons, List.not_mem_nil, or_false]
    constructor
    · rintro (⟨i, k, h, rfl⟩ | h | h)
      · exact ⟨i, k, by omega, rfl⟩
      · exact ⟨n, false, by omega, h⟩
      · exact ⟨n, true, by omega, h⟩
    · rintro ⟨i, k, h, rfl⟩
      by_cases e : i = n
      · subst e
        cases k
        · exact .inr (.inl rfl)
        · exact .inr (.inr rfl)
      · exact .inl ⟨i, k, by omega, rfl⟩
def offers (f : Pt) (w : List Leg) (l : List Pt) (s : Labs × Bool) : Labs × Bool := l.foldl (fun s p => offer1 ix f w p s) s
def better (L M : Labs) : Prop := ∀ p w, lk L p = some w → ∃ v, lk M p = some v ∧ (v = w ∨ wLt ix v w = true)
theorem better_refl (L : Labs) : better ix L L := fun p w h => ⟨w, h, .inl rfl⟩
theorem better_trans {L M K : Labs} (h1 : better ix L M) (h2 : better ix M K) : better ix L K := by
  intro p w h
  obtain ⟨v, a1, a2⟩ := h1 p w h
  obtain ⟨u, b1, b2⟩ := h2 p v a1
  refine ⟨u, b1, ?_⟩
  rcases a2 with rfl | a2
  · exact b2
  · rcases b2 with rfl | b2
    · exact .inr a2
    · exact .inr (wLt_trans ix b2 a2)
theorem offer1_cases (f : Pt) (w : List Leg) (p : Pt) (s : Labs × Bool) :
    (offer1 ix f w p s = s ∧ (p.1 = f.1 → ∃ v, lk s.1 p = some v ∧ wLt ix (w ++ [⟨p.1, f.2, p.2⟩]) v = false)) ∨
      (offer1 ix f w p s = (up s.1 p (w ++ [⟨p.1, f.2, p.2⟩]), true) ∧ p.1 = f.1 ∧ (lk s.1 p = none ∨ ∃ v, lk s.1 p = some v ∧ wLt ix (w ++ [⟨p.1, f.2, p.2⟩]) v = true)) := by
  unfold offer1
  by_cases h : p.1 = f.1
  · rw [if_pos h]
    cases hl : lk s.1 p with
    | none => exact .inr ⟨rfl, h, .inl rfl⟩
    | some v =>
      simp only []
      cases hw : wLt ix (w ++ [⟨p.1, f.2, p.2⟩]) v with
      | true => exact .inr ⟨by simp, h, .inr ⟨v, rfl, hw⟩⟩
      | false => exact .inl ⟨by simp, fun _ => ⟨v, rfl, hw⟩⟩
  · rw [if_neg h]
    exact .inl ⟨rfl, fun e => absurd e h⟩
theorem offer1_better (f : Pt) (w : List Leg) (p : Pt) (s : Labs × Bool) : better ix s.1 (offer1 ix f w p s).1 := by
  rcases offer1_cases ix f w p s with ⟨h, _⟩ | ⟨h, _, h2⟩
  · rw [h]; exact better_refl ix _
  · rw [h]
    intro q u hq
    rw [lk_up]
    by_cases e : p = q
    · subst e
      rw [if_pos rfl]
      refine ⟨_, rfl, ?_⟩
      rcases h2 with h2 | ⟨v, h2, h3⟩
      · rw [h2] at hq; cases hq
      · rw [h2] at hq; cases hq; exact .inr h3
    · rw [if_neg e]; exact ⟨u, hq, .inl rfl⟩
theorem offers_better (f : Pt) (w : List Leg) : ∀ (l : List Pt) (s : Labs × Bool), better ix s.1 (offers ix f w l s).1
  | [], s => better_refl ix _
  | p :: r, s => better_trans ix (offer1_better ix f w p s) (offers_better f w r (offer1 ix f w p s))
theorem offers_false (f : Pt) (w : List Leg) : ∀ (l : List Pt) (s : Labs × Bool), (offers ix f w l s).2 = false → offers ix f w l s = s ∧ s.2 = false ∧ ∀ p ∈ l, p.1 = f.1 → ∃ v, lk s.1 p = some v ∧ wLt ix (w ++ [⟨p.1, f.2, p.2⟩]) v = false
  | [], s, h => ⟨rfl, h, fun p hp => by cases hp⟩
  | p :: r, s, h => by
    obtain ⟨h1, h2, h3⟩ := offers_false f w r (offer1 ix f w p s) h
    rcases offer1_cases ix f w p s with ⟨e, e2⟩ | ⟨e, _⟩
    · rw [e] at h1 h2 h3
      refine ⟨?_, h2, ?_⟩
      · show offers ix f w r (offer1 ix f w p s) = s
        rw [e]; exact h1
      · intro q hq hl
        rcases List.mem_cons.1 hq with rfl | hq
        · exact e2 hl
        · exact h3 q hq hl
    · rw [e] at h2; cases h2
theorem offers_least (f : Pt) (w : List Leg) : ∀ (l : List Pt) (s : Labs × Bool) (p : Pt), p ∈ l → p.1 = f.1 → ∃ v, lk (offers ix f w l s).1 p = some v ∧ (v = w ++ [⟨p.1, f.2, p.2⟩] ∨ wLt ix v (w ++ [⟨p.1, f.2, p.2⟩]) = true ∨ wLt ix (w ++ [⟨p.1, f.2, p.2⟩]) v = false)
  | [], s, p, hp, _ => by cases hp
  | q :: r, s, p, hp, hl => by
    rcases List.mem_cons.1 hp with rfl | hp
    · have hb := offers_better ix f w r (offer1 ix f w p s)
      show ∃ v, lk (offers ix f w r (offer1 ix f w p s)).1 p = some v ∧ _
      rcases offer1_cases ix f w p s with ⟨e, e2⟩ | ⟨e, _, _⟩
      · obtain ⟨v, v1, v2⟩ := e2 hl
        rw [e] at hb ⊢
        obtain ⟨u, u1, u2⟩ := hb p v v1
        refine ⟨u, u1, .inr (.inr ?_)⟩
        rcases u2 with rfl | u2
        · exact v2
        · cases c : wLt ix (w ++ [⟨p.1, f.2, p.2⟩]) u with
          | false => rfl
          | true =>
            have := wLt_trans ix c u2
            rw [this] at v2; cases v2
      · rw [e] at hb ⊢
        obtain ⟨u, u1, u2⟩ := hb p (w ++ [⟨p.1, f.2, p.2⟩]) (by rw [lk_up, if_pos rfl])
        refine ⟨u, u1, ?_⟩
        rcases u2 with u2 | u2
        · exact .inl u2
        · exact .inr (.inl u2)
    · exact offers_least f w r (offer1 ix f w q s) p hp hl
end
end Go.Sim

/-
The plain law of ways: rounds of offers; they come to an end, and leave the least labels.
-/
namespace Go.Sim
/-! ### How good labels are -/
def allS (N : Nat) : Nat → List (List Stp)
  | 0 => [[]]
  | n + 1 => [] :: (allS N n).flatMap fun σ => (List.range N).flatMap fun i => [(i, false) :: σ, (i, true) :: σ]
theorem mem_allS {N : Nat} : ∀ {n : Nat} {σ : List Stp}, σ.length ≤ n → (∀ s ∈ σ, s.1 < N) → σ ∈ allS N n
  | 0, [], _, _ => by simp [allS]
  | 0, _ :: _, h, _ => by simp at h
  | n + 1, [], _, _ => by simp [allS]
  | n + 1, (i, k) :: σ, h, hs => by
    have ih := mem_allS (N := N) (n := n) (σ := σ) (by simpa using h) fun s h => hs s (by simp [h])
    have hi := hs (i, k) (by simp)
    unfold allS
    refine List.mem_cons_of_mem _ (List.mem_flatMap.2 ⟨σ, ih, List.mem_flatMap.2 ⟨i, List.mem_range.2 hi, ?_⟩⟩)
    cases k <;> simp
theorem sum_lt {α : Type} {f g : α → Nat} : ∀ {l : List α}, (∀ x ∈ l, f x ≤ g x) → (∃ x ∈ l, f x < g x) → (l.map f).sum < (l.map g).sum
  | [], _, h => by obtain ⟨x, hx, _⟩ := h; cases hx
  | x :: r, h, he => by
    have hx := h x (by simp)
    have hle : (r.map f).sum ≤ (r.map g).sum := by
      have key : ∀ l : List α, (∀ x ∈ l, f x ≤ g x) → (l.map f).sum ≤ (l.map g).sum := by
        intro l
        induction l with
        | nil => intro _; simp
        | cons y s ih =>
          intro hh
          have := ih fun z hz => hh z (by simp [hz])
          have := hh y (by simp)
          simp only [List.map_cons, List.sum_cons]; omega
      exact key r fun y hy => h y (by simp [hy])
    obtain ⟨y, hy, hlt⟩ := he
    simp only [List.map_cons, List.sum_cons]
    rcases List.mem_cons.1 hy with rfl | hy
    · omega
    · have := sum_lt (l := r) (fun z hz => h z (by simp [hz])) ⟨y, hy, hlt⟩
      omega
theorem countP_lt {α : Type} {f g : α → Bool} : ∀ {l : List α}, (∀ x, f x = true → g x = true) → (∃ x ∈ l, f x = false ∧ g x = true) → l.countP f < l.countP g
  | [], _, h => by obtain ⟨x, hx, _⟩ := h; cases hx
  | x :: r, h, he => by
    have hle : r.countP f ≤ r.countP g := List.countP_mono_left fun y _ => h y
    obtain ⟨y, hy, h1, h2⟩ := he
    rw [List.countP_cons, List.countP_cons]
    rcases List.mem_cons.1 hy with rfl | hy
    · simp only [h1, h2, Bool.false_eq_true, if_false, if_true]; omega
    · have := countP_lt (l := r) h ⟨y, hy, h1, h2⟩
      by_cases c : f x = true
      · simp only [c, h x c, if_true]; omega
      · simp only [c]; simp only [Bool.false_eq_true, if_false]; split <;> omega
section
variable (E : Nat → Bool → Pt) (N : Nat) (ix : List Nat → Int) (a : Pt)
def cands (p : Pt) : List (List Leg) := (allS N 15).map fun σ => legsOf E a σ p
def rank (L : Labs) (p : Pt) : Nat := match lk L p with
  | none => (cands E N a p).length + 1
  | some w => (cands E N a p).countP fun v => wLt ix v w
def mu (L : Labs) : Nat := ((ends E N).map (rank E N ix a L)).sum
def LabV (L : Labs) : Prop := ∀ p w, lk L p = some w → (∃ j m, j < N ∧ p = E j m) ∧ ∃ σ, okS E N a σ p ∧ w = legsOf E a σ p ∧ σ.length ≤ 15
def RtV (f : Pt) (w : List Leg) : Prop := ∀ p, p.1 = f.1 → ∃ σ, okS E N a σ p ∧ w ++ [⟨p.1, f.2, p.2⟩] = legsOf E a σ p ∧ σ.length ≤ 15
variable {E N ix a}
theorem rt_first : RtV E N a a [] := fun p h => ⟨[], h.symm, by show [_] = [_]; rw [h], by simp⟩
theorem rt_next {σ : List Stp} {i : Nat} {k : Bool} (hi : i < N) (h : okS E N a σ (E i k)) (hl : (legsOf E a σ (E i k)).length < 16) : RtV E N a (E i (!k)) (legsOf E a σ (E i k)) := fun p hp => by
  rw [legsOf_length] at hl
  refine ⟨σ ++ [(i, k)], (okS_snoc E N a σ (i, k) p).2 ⟨h, hi, hp.symm⟩, ?_, by rw [List.length_append]; simp; omega⟩
  rw [legsOf_snoc]
  simp only [hp]
theorem offer1_valid {f : Pt} {w : List Leg} (hr : RtV E N a f w) {p : Pt} (hp : ∃ j m, j < N ∧ p = E j m) {s : Labs × Bool} (hs : LabV E N a s.1) : LabV E N a (offer1 ix f w p s).1 := by
  rcases offer1_cases ix f w p s with ⟨h, _⟩ | ⟨h, h2, _⟩
  · rw [h]; exact hs
  · rw [h]
    intro q u hq
    rw [lk_up] at hq
    by_cases e : p = q
    · subst e
      rw [if_pos rfl] at hq
      cases hq
      exact ⟨hp, hr p h2⟩
    · rw [if_neg e] at hq
      exact hs q u hq
theorem offers_valid {f : Pt} {w : List Leg} (hr : RtV E N a f w) : ∀ (l : List Pt), (∀ p ∈ l, ∃ j m, j < N ∧ p = E j m) → ∀ (s : Labs × Bool), LabV E N a s.1 → LabV E N a (offers ix f w l s).1
  | [], _, s, hs => hs
  | p :: r, hl, s, hs => offers_valid hr r (fun q hq => hl q (by simp [hq])) _ (offer1_valid hr (hl p (by simp)) hs)
theorem cand_mem {p : Pt} {σ : List Stp} (h : okS E N a σ p) (hl : σ.length ≤ 15) : legsOf E a σ p ∈ cands E N a p :=
  List.mem_map.2 ⟨σ, mem_allS hl (okS_lt E N h), rfl⟩
theorem offer1_mu {f : Pt} {w : List Leg} (hr : RtV E N a f w) {p : Pt} (hp : ∃ j m, j < N ∧ p = E j m) (s : Labs × Bool) : offer1 ix f w p s = s ∨ mu E N ix a (offer1 ix f w p s).1 < mu E N ix a s.1 := by
  rcases offer1_cases ix f w p s with ⟨h, _⟩ | ⟨h, h2, h3⟩
  · exact .inl h
  · right
    rw [h]
    obtain ⟨σ, s1, s2, s3⟩ := hr p h2
    have hc := cand_mem s1 s3
    rw [← s2] at hc
    have hlt : rank E N ix a (up s.1 p (w ++ [⟨p.1, f.2, p.2⟩])) p < rank E N ix a s.1 p := by
      unfold rank
      rw [lk_up, if_pos rfl]
      rcases h3 with h3 | ⟨v, h3, h4⟩
      · rw [h3]
        have := List.countP_le_length (p := fun v => wLt ix v (w ++ [⟨p.1, f.2, p.2⟩])) (l := cands E N a p)
        show List.countP (fun v => wLt ix v (w ++ [⟨p.1, f.2, p.2⟩])) (cands E N a p) < (cands E N a p).length + 1
        omega
      · rw [h3]
        exact countP_lt (fun u hu => wLt_trans ix hu h4) ⟨_, hc, wLt_irrefl ix _, h4⟩
    refine sum_lt (fun q _ => ?_) ⟨p, (mem_ends E).2 (by obtain ⟨j, m, h1, h2⟩ := hp; exact ⟨j, m, h1, h2⟩), hlt⟩
    by_cases e : p = q
    · subst e; exact Nat.le_of_lt hlt
    · unfold rank
      rw [lk_up, if_neg e]
      exact Nat.le_refl _
theorem offers_mu {f : Pt} {w : List Leg} (hr : RtV E N a f w) : ∀ (l : List Pt), (∀ p ∈ l, ∃ j m, j < N ∧ p = E j m) → ∀ (s : Labs × Bool), offers ix f w l s = s ∨ mu E N ix a (offers ix f w l s).1 < mu E N ix a s.1
  | [], _, s => .inl rfl
  | p :: r, hl, s => by
    have h1 := offer1_mu (ix := ix) hr (hl p (by simp)) s
    have h2 := offers_mu hr r (fun q hq => hl q (by simp [hq])) (offer1 ix f w p s)
    show offers ix f w r (offer1 ix f w p s) = s ∨ mu E N ix a (offers ix f w r (offer1 ix f w p s)).1 < _
    rcases h1 with h1 | h1
    · rw [h1] at h2 ⊢; exact h2
    · rcases h2 with h2 | h2
      · rw [h2]; exact .inr h1
      · exact .inr (by omega)
/-! ### Rounds -/
variable (E N ix)
def rstep (i : Nat) (k : Bool) (s : Labs × Bool) : Labs × Bool := match lk s.1 (E i k) with
  | none => s
  | some r => if r.length < 16 then ((offers ix (E i (!k)) r (ends E N) (s.1, false)).1, s.2 || (offers ix (E i (!k)) r (ends E N) (s.1, false)).2) else s
def rounds : Nat → Labs × Bool → Labs × Bool
  | 0, s => s
  | n + 1, s => rstep E N ix n true (rstep E N ix n false (rounds n s))
variable {E N ix}
theorem ends_all : ∀ p ∈ ends E N, ∃ j m, j < N ∧ p = E j m := fun p hp => (mem_ends E).1 hp
structure RS (E : Nat → Bool → Pt) (N : Nat) (ix : List Nat → Int) (a : Pt) (s t : Labs × Bool) : Prop where
  valid : LabV E N a t.1
  better : better ix s.1 t.1
  mono : s.2 = true → t.2 = true
  less : t.1 = s.1 ∧ t.2 = s.2 ∨ t.2 = true ∧ mu E N ix a t.1 < mu E N ix a s.1
theorem RS.refl {s : Labs × Bool} (h : LabV E N a s.1) : RS E N ix a s s := ⟨h, better_refl ix _, id, .inl ⟨rfl, rfl⟩⟩
theorem RS.trans {s t u : Labs × Bool} (h1 : RS E N ix a s t) (h2 : RS E N ix a t u) : RS E N ix a s u := by
  refine ⟨h2.valid, better_trans ix h1.better h2.better, fun h => h2.mono (h1.mono h), ?_⟩
  rcases h1.less with ⟨a1, a2⟩ | ⟨a1, a2⟩ <;> rcases h2.less with ⟨b1, b2⟩ | ⟨b1, b2⟩
  · exact .inl ⟨b1.trans a1, b2.trans a2⟩
  · exact .inr ⟨b1, by rw [← a1]; exact b2⟩
  · exact .inr ⟨b2.trans a1, by rw [b1]; exact a2⟩
  · exact .inr ⟨b1, by omega⟩
theorem rstep_rs {i : Nat} (hi : i < N) (k : Bool) {s : Labs × Bool} (h : LabV E N a s.1) : RS E N ix a s (rstep E N ix i k s) := by
  unfold rstep
  cases hl : lk s.1 (E i k) with
  | none => exact RS.refl h
  | some r =>
    simp only []
    by_cases hr : r.length < 16
    · rw [if_pos hr]
      obtain ⟨_, σ, s1, rfl, s3⟩ := h _ _ hl
      have hv := rt_next hi s1 hr
      have hm := offers_mu (ix := ix) hv (ends E N) ends_all (s.1, false)
      refine ⟨offers_valid hv _ ends_all _ h, offers_better ix _ _ _ (s.1, false), fun hs => by simp [hs], ?_⟩
      rcases hm with hm | hm
      · rw [hm]; exact .inl ⟨rfl, by simp⟩
      · right
        refine ⟨?_, hm⟩
        cases hb : (offers ix (E i (!k)) (legsOf E a σ (E i k)) (ends E N) (s.1, false)).2 with
        | true => simp
        | false =>
          have := (offers_false ix _ _ _ _ hb).1
          rw [this] at hm
          exact absurd hm (Nat.lt_irrefl _)
    · rw [if_neg hr]; exact RS.refl h
theorem rounds_rs : ∀ {n : Nat} (_ : n ≤ N) {s : Labs × Bool} (_ : LabV E N a s.1), RS E N ix a s (rounds E N ix n s)
  | 0, _, s, h => RS.refl h
  | n + 1, hn, s, h => by
    have h1 := rounds_rs (n := n) (by omega) h
    have h2 := rstep_rs (ix := ix) (i := n) (by omega) false h1.valid
    exact (h1.trans h2).trans (rstep_rs (ix := ix) (i := n) (by omega) true h2.valid)
theorem rstep_false {i : Nat} {k : Bool} {s : Labs × Bool} (h : (rstep E N ix i k s).2 = false) : rstep E N ix i k s = s ∧ ∀ r, lk s.1 (E i k) = some r → r.length < 16 → ∀ p ∈ ends E N, p.1 = (E i (!k)).1 → ∃ v, lk s.1 p = some v ∧ wLt ix (r ++ [⟨p.1, (E i (!k)).2, p.2⟩]) v = false := by
  unfold rstep at h ⊢
  cases hl : lk s.1 (E i k) with
  | none => exact ⟨rfl, fun r hr => by cases hr⟩
  | some r =>
    rw [hl] at h
    simp only [] at h ⊢
    by_cases hr : r.length < 16
    · rw [if_pos hr] at h ⊢
      simp only [Bool.or_eq_false_iff] at h
      obtain ⟨h1, _, h3⟩ := offers_false ix _ _ _ _ h.2
      rw [h1]
      refine ⟨by simp, fun r' hr' _ => ?_⟩
      cases hr'
      exact h3
    · rw [if_neg hr]
      refine ⟨rfl, fun r' hr' hlt => ?_⟩
      cases hr'
      exact absurd hlt hr
theorem rounds_false : ∀ {n : Nat} {s : Labs × Bool}, (rounds E N ix n s).2 = false → rounds E N ix n s = s ∧ ∀ i k, i < n → ∀ r, lk s.1 (E i k) = some r → r.length < 16 → ∀ p ∈ ends E N, p.1 = (E i (!k)).1 → ∃ v, lk s.1 p = some v ∧ wLt ix (r ++ [⟨p.1, (E i (!k)).2, p.2⟩]) v = false
  | 0, s, _ => ⟨rfl, fun i k h => by omega⟩
  | n + 1, s, h => by
    obtain ⟨h1, h2⟩ := rstep_false (i := n) (k := true) (s := rstep E N ix n false (rounds E N ix n s)) h
    have e0 : rounds E N ix (n + 1) s = rstep E N ix n true (rstep E N ix n false (rounds E N ix n s)) := rfl
    rw [e0] at h ⊢
    rw [h1] at h ⊢
    obtain ⟨h3, h4⟩ := rstep_false (i := n) (k := false) (s := rounds E N ix n s) h
    rw [h3] at h h2 ⊢
    obtain ⟨h5, h6⟩ := rounds_false (n := n) (s := s) h
    rw [h5] at h2 h4 ⊢
    refine ⟨rfl, fun i k hi => ?_⟩
    by_cases e : i = n
    · subst e
      cases k
      · exact h4
      · exact h2
    · exact h6 i k (by omega)
theorem lab_of {L : Labs} (hv : LabV E N a L) (hf : ∀ p ∈ ends E N, p.1 = a.1 → ∃ w, lk L p = some w ∧ (w = legsOf E a [] p ∨ wLt ix w (legsOf E a [] p) = true ∨ wLt ix (legsOf E a [] p) w = false)) (hr : (rounds E N ix N (L, false)).2 = false) : Lab E N ix a (lk L) where
  valid := fun p w h => by
    obtain ⟨_, σ, s1, s2, _⟩ := hv p w h
    exact ⟨σ, s1, s2⟩
  first := fun j m hj h => by
    obtain ⟨w, w1, w2⟩ := hf _ ((mem_ends E).2 ⟨j, m, hj, rfl⟩) h
    refine ⟨w, w1, ?_⟩
    rcases w2 with rfl | w2 | w2
    · exact wLe_refl ix _
    · exact wLt_le ix w2
    · exact w2
  next := fun i k w hi h hl j m hj hjm => by
    obtain ⟨v, v1, v2⟩ := (rounds_false hr).2 i k hi w h hl _ ((mem_ends E).2 ⟨j, m, hj, rfl⟩) hjm
    refine ⟨v, v1, ?_⟩
    rw [hjm] at v2
    exact v2
end
end Go.Sim

/-
Ways: labels in a map; a route offered to all ends, by the program.
-/
-- INJ Leg.row_iff lgs_iff
namespace Go.Sim
open Go Go.Proofs
set_option maxRecDepth 100000
set_option maxHeartbeats 32000000
variable {P : FuncId → Option (List AV → Option AV)}
/-! ### Labels in a map -/
def ptC (p : Pt) : AV := .agg [.str p.1, .int .i64 p.2]
def rtC (w : List Leg) : AV := .agg [.ps .unk (w.map Leg.row), .int .i64 (wSum w)]
def lmap (L : Labs) : List (AV × AV) := L.map fun x => (ptC x.1, rtC x.2)
theorem aeq45p (p q : Pt) : aeqT NC.P 100 45 (ptC p) (ptC q) = some (decide (p = q)) := by
  obtain ⟨a, i⟩ := p
  obtain ⟨b, j⟩ := q
  have h : aeqT NC.P 100 45 (.agg [.str a, .int .i64 i]) (.agg [.str b, .int .i64 j]) =
    (match some (beqL a b) with
    | some true => (match some (eqI i j) with
      | some true => some true
      | some false => some false
      | none => none)
    | some false => some false
    | none => none) := by kernel_rfl
  unfold ptC
  rw [h, eqI_iff]
  have hd : decide ((a, i) = (b, j)) = (beqL a b && decide (i = j)) := by
    rw [Bool.eq_iff_iff]
    simp only [decide_eq_true_eq, Bool.and_eq_true, beqL_iff, Prod.mk.injEq]
  rw [hd]
  cases beqL a b <;> cases decide (i = j) <;> rfl
theorem ety45p : eqType NC.P 100 45 = true := by kernel_rfl
theorem keyOk45 (p : Pt) : keyOk NC.P 45 (ptC p) = true := by
  unfold keyOk
  rw [aeq45p, ety45p]; simp
theorem afind45 (p : Pt) : ∀ (L : Labs) (i : Nat), (lk L p = none → afind NC.P 45 (ptC p) (lmap L) i = some none ∧ ∀ w, lmap L ++ [(ptC p, rtC w)] = lmap (up L p w)) ∧
    ∀ w, lk L p = some w → ∃ j, afind NC.P 45 (ptC p) (lmap L) i = some (some (i + j, ptC p, rtC w)) ∧ ∀ w', (lmap L).set j (ptC p, rtC w') = lmap (up L p w')
  | [], i => ⟨fun _ => ⟨rfl, fun w => rfl⟩, fun w h => by cases h⟩
  | x :: r, i => by
    have ih := afind45 p r (i + 1)
    have hu : afind NC.P 45 (ptC p) (lmap (x :: r)) i = match aeqT NC.P 100 45 (ptC p) (ptC x.1) with
        | some true => some (some (i, ptC x.1, rtC x.2))
        | some false => afind NC.P 45 (ptC p) (lmap r) (i + 1)
        | none => none := rfl
    rw [hu, aeq45p]
    unfold lk up
    by_cases h : x.1 = p
    · rw [if_pos h]
      have hd : decide (p = x.1) = true := by simp [h]
      rw [hd]
      refine ⟨fun c => (by cases c), fun w c => ?_⟩
      cases c
      refine ⟨0, by rw [h]; rfl, fun w' => ?_⟩
      rw [if_pos h]; rfl
    · rw [if_neg h]
      have hd : decide (p = x.1) = false := by simp; exact fun e => h e.symm
      rw [hd]
      refine ⟨fun c => ⟨(ih.1 c).1, fun w => ?_⟩, fun w c => ?_⟩
      · rw [if_neg h]
        show (ptC x.1, rtC x.2) :: (lmap r ++ [(ptC p, rtC w)]) = _
        rw [(ih.1 c).2 w]; rfl
      · obtain ⟨j, h1, h2⟩ := ih.2 w c
        refine ⟨j + 1, by rw [h1, show i + 1 + j = i + (j + 1) from by omega], fun w' => ?_⟩
        rw [if_neg h]
        show (ptC x.1, rtC x.2) :: (lmap r).set j (ptC p, rtC w') = _
        rw [h2 w']; rfl
theorem lookL {H : Heap} {id : Nat} {L : Labs} (h : H.get id = .map (lmap L)) (p : Pt) : alookup NC.P H 316 (.map id) (.agg [.str p.1, .int .i64 p.2]) true = some (match lk L p with
    | some w => .tup [rtC w, .bool true]
    | none => .tup [.agg [.ps .nil [], .int .i64 0], .bool false]) := by
  show alookup NC.P H 316 (.map id) (ptC p) true = _
  unfold alookup
  have hu : NC.P.underlying 316 = some (.map 45 246) := by kernel_rfl
  have hz : zeroOf NC.P 246 = some (.agg [.ps .nil [], .int .i64 0]) := by kernel_rfl
  simp only [hu, keyOk45, if_true, hz, mapEntries, h]
  obtain ⟨h1, h2⟩ := afind45 p L 0
  cases hb : lk L p with
  | none => rw [(h1 hb).1]
  | some w =>
    obtain ⟨j, h3, _⟩ := h2 w hb
    rw [h3]
theorem flat_pt (p : Pt) : flatEq (ptC p) (ptC p) = true := by
  show (flatEq1 (.str p.1) (.str p.1) && (flatEq1 (.int .i64 p.2) (.int .i64 p.2) && true)) = true
  simp only [flatEq1, beqL_self, eqI_self, Bool.and_true, Bool.true_and]
  rfl
theorem updL {lo : Nat} {H : Heap} {id : Nat} {L : Labs} (h : H.get id = .map (lmap L)) (hlo : lo ≤ id) (p : Pt) (w : List Leg) {v : AV} (hv : v.strip = rtC w) : amapUpdate NC.P lo H 316 (.map id) (.agg [.str p.1, .int .i64 p.2]) v = some (H.set id (.map (lmap (up L p w)))) := by
  show amapUpdate NC.P lo H 316 (.map id) (ptC p) v = _
  unfold amapUpdate
  have hu : NC.P.underlying 316 = some (.map 45 246) := by kernel_rfl
  simp only [hu, keyOk45, hlo, decide_true, Bool.and_self, if_true, h]
  obtain ⟨h1, h2⟩ := afind45 p L 0
  cases hb : lk L p with
  | none =>
    obtain ⟨h3, h4⟩ := h1 hb
    rw [h3, hv]
    simp only []
    rw [h4]
  | some u =>
    obtain ⟨j, h3, h4⟩ := h2 u hb
    rw [h3, hv]
    simp only [flat_pt, if_true, Nat.zero_add]
    rw [h4]
/-! ### Which route is less -/
theorem cmpI_lt (a b : Int) : (cmpI a b < 0) ↔ a < b := by unfold cmpI; split <;> (try split) <;> omega
theorem cmpI_zero (a b : Int) : (cmpI a b = 0) ↔ a = b := by unfold cmpI; split <;> (try split) <;> omega
theorem orL_lt3 (a b c : Int) : orL [a, b, c] < 0 ↔ a < 0 ∨ (a = 0 ∧ (b < 0 ∨ (b = 0 ∧ c < 0))) := by
  unfold orL
  by_cases h1 : a = 0
  · rw [if_pos h1]
    unfold orL
    by_cases h2 : b = 0
    · rw [if_pos h2]
      unfold orL
      by_cases h3 : c = 0
      · rw [if_pos h3]; unfold orL; omega
      · rw [if_neg h3]; omega
    · rw [if_neg h2]; omega
  · rw [if_neg h1]; omega
theorem orL_zero3 (a b c : Int) : orL [a, b, c] = 0 ↔ a = 0 ∧ b = 0 ∧ c = 0 := by
  unfold orL
  by_cases h1 : a = 0
  · rw [if_pos h1]
    unfold orL
    by_cases h2 : b = 0
    · rw [if_pos h2]
      unfold orL
      by_cases h3 : c = 0
      · rw [if_pos h3]; unfold orL; omega
      · rw [if_neg h3]; omega
    · rw [if_neg h2]; omega
  · rw [if_neg h1]; omega
theorem cmpLeg_lt (n : Net) (x y : Leg) : cmpLeg n x y < 0 ↔ legLt (findI n.lines) x y = true := by
  unfold cmpLeg
  rw [orL_lt3, legLt_iff, cmpI_lt, cmpI_zero, cmpI_lt, cmpI_zero, cmpI_lt]
theorem cmpLeg_zero (n : Net) (x y : Leg) : cmpLeg n x y = 0 ↔ legSame (findI n.lines) x y = true := by
  unfold cmpLeg
  rw [orL_zero3, legSame_iff, cmpI_zero, cmpI_zero, cmpI_zero]
theorem cmpLegs_lt (n : Net) : ∀ {a b : List Leg}, a.length = b.length → (cmpLegs n a b < 0 ↔ lexLt (findI n.lines) a b = true)
  | [], [], _ => by simp [cmpLegs, lexLt]
  | [], _ :: _, h => by cases h
  | _ :: _, [], h => by cases h
  | x :: a, y :: b, h => by
    have ih := cmpLegs_lt n (a := a) (b := b) (by simpa using h)
    rw [lexLt_cons, ← cmpLeg_lt, ← cmpLeg_zero, ← ih]
    show (if cmpLeg n x y = 0 then cmpLegs n a b else cmpLeg n x y) < 0 ↔ _
    split <;> omega
theorem cmpRt_lt (n : Net) (a b : List Leg) : decide (cmpRt n a (wSum a) b (wSum b) < 0) = wLt (findI n.lines) a b := by
  rw [Bool.eq_iff_iff, decide_eq_true_eq, wLt_iff]
  unfold cmpRt
  rw [orL_lt3, cmpI_lt, cmpI_zero, cmpI_lt, cmpI_zero]
  by_cases h : a.length = b.length
  · rw [cmpLegs_lt n h]
    constructor
    · rintro (c | ⟨c1, c2 | ⟨c2, c3⟩⟩)
      · exact .inl c
      · exact .inr ⟨c1, .inl (by omega)⟩
      · exact .inr ⟨c1, .inr ⟨h, c3⟩⟩
    · rintro (c | ⟨c1, c2 | ⟨c2, c3⟩⟩)
      · exact .inl c
      · exact .inr ⟨c1, .inl (by omega)⟩
      · exact .inr ⟨c1, .inr ⟨by omega, c3⟩⟩
  · constructor
    · rintro (c | ⟨c1, c2 | ⟨c2, c3⟩⟩)
      · exact .inl c
      · exact .inr ⟨c1, .inl (by omega)⟩
      · exact absurd (by omega) h
    · rintro (c | ⟨c1, c2 | ⟨c2, c3⟩⟩)
      · exact .inl c
      · exact .inr ⟨c1, .inl (by omega)⟩
      · exact absurd c2 h
/-! ### The ends of the switches -/
def endE (n : Net) (i : Nat) (k : Bool) : Pt := match n.sws[i]? with
  | none => ([], 0)
  | some s => if k then (s.other, endM n s) else (s.line, s.metre)
theorem en151 (h : P 151 = some p151) {lo : Nat} {rec : Rec} {args : List AV} {H : Heap} {K : AV → Heap → Prop} : VO (aenter (NC.withPrims P) rec lo 151 args H) K = AO (p151 args) fun v => K v H := enter_prim (by rfl) (known h (by kernel_rfl))
theorem en203 (h : P 203 = some p203) {lo : Nat} {rec : Rec} {args : List AV} {H : Heap} {K : AV → Heap → Prop} : VO (aenter (NC.withPrims P) rec lo 203 args H) K = AO (p203 args) fun v => K v H := enter_prim (by rfl) (known h (by kernel_rfl))
theorem en204 (h : P 204 = some p204) {lo : Nat} {rec : Rec} {args : List AV} {H : Heap} {K : AV → Heap → Prop} : VO (aenter (NC.withPrims P) rec lo 204 args H) K = AO (p204 args) fun v => K v H := enter_prim (by rfl) (known h (by kernel_rfl))
theorem en229 {P : FuncId → Option (List AV → Option AV)} (hP : P 229 = none) {lo : Nat} {args : List AV} {H : Heap} {K : AV → Heap → Prop} : VO (aenter (NC.withPrims P) (R (NC.withPrims P)) lo 229 args H) K = AO (R (NC.withPrims P) (.call lo 229 args H)) fun o => K o.val o.s.H := by
  refine enter_free rfl ?_ (by kernel_rfl) (by kernel_rfl) (by kernel_rfl)
  show (match NC.prim 229 with | some p => some p | none => P 229) = none
  rw [hP]; kernel_rfl
end Go.Sim

/-
Ways: a route offered to all ends, by the program.
-/
-- INJ Leg.row_iff lgs_iff
namespace Go.Sim
open Go Go.Proofs
set_option maxRecDepth 100000
set_option maxHeartbeats 64000000
variable {P : FuncId → Option (List AV → Option AV)}
theorem r229 (h151 : P 151 = some p151) (h203 : P 203 = some p203) (h204 : P 204 = some p204) (n : Net) (hn : n.Ok) (hsw : n.sws.length ≤ maxRows) (f : Pt) (w : List Leg) (L : Labs) (hw : w.length ≤ 16)
    (hsum : ∀ p, p ∈ ends (endE n) n.sws.length → wrapq .i64 (Int.add (wSum w) (legW ⟨p.1, f.2, p.2⟩)) = wSum (w ++ [⟨p.1, f.2, p.2⟩])) (hL : ∀ p v, lk L p = some v → v.length ≤ 17)
    (lo b0 b1 id : Nat) (H : Heap) (hlo : lo ≤ id) (hloH : lo ≤ H.n) (c0 : b0 < H.n) (c1 : b1 < H.n) (ci : id < H.n) (ne0 : b0 ≠ id) (ne1 : b1 ≠ id) (s0 : H.get b0 = .cells n.cells 40) (s1 : H.get b1 = .cells [.map id] 316) (si : H.get id = .map (lmap L)) :
    ∃ v H', R (NC.withPrims P) (.call lo 229 [.agg [.str f.1, .int .i64 f.2], .agg [.ps .unk (w.map Leg.row), .int .i64 (wSum w)], .ptr b0 0, .ptr b1 0] H) = some (.ofVal v H') ∧ v = .bool (offers (findI n.lines) f w (ends (endE n) n.sws.length) (L, false)).2 ∧
      H'.get id = .map (lmap (offers (findI n.lines) f w (ends (endE n) n.sws.length) (L, false)).1) ∧ H.n ≤ H'.n ∧ (∀ j, j < H.n → j ≠ id → H'.get j = H.get j) ∧ ∀ p v, lk (offers (findI n.lines) f w (ends (endE n) n.sws.length) (L, false)).1 p = some v → v.length ≤ 17 := by
  refine R_of_body (C := NC.withPrims P) (f := 229) (lo := lo) (args := [.agg [.str f.1, .int .i64 f.2], .agg [.ps .unk (w.map Leg.row), .int .i64 (wSum w)], .ptr b0 0, .ptr b1 0]) (H := H) (fn := Tryz.f229) (Q := fun v H' => v = .bool (offers (findI n.lines) f w (ends (endE n) n.sws.length) (L, false)).2 ∧
      H'.get id = .map (lmap (offers (findI n.lines) f w (ends (endE n) n.sws.length) (L, false)).1) ∧ H.n ≤ H'.n ∧ (∀ j, j < H.n → j ≠ id → H'.get j = H.get j) ∧ ∀ p v, lk (offers (findI n.lines) f w (ends (endE n) n.sws.length) (L, false)).1 p = some v → v.length ≤ 17) (by kernel_rfl) Tryz.func229 rfl rfl ?_
  have x1 : (b0 = H.n) = False := by simp only [eq_iff_iff, iff_false]; omega
  have x2 : (b0 = H.n + 1) = False := by simp only [eq_iff_iff, iff_false]; omega
  have x3 : (id = H.n) = False := by simp only [eq_iff_iff, iff_false]; omega
  have x4 : (id = H.n + 1) = False := by simp only [eq_iff_iff, iff_false]; omega
  simp only [Net.cells] at s0
  simp only [go_sem, reduceIte, reduceEqDiff, reduceAdd, reduceMul, reduceSub, reduceLeDiff, reduceLT, Nat.reduceBEq, reduceCtorEq, s0, x1, x2]
  refine W_for (fun i T H' M => M = [] ∧ getT T 2 = .ptr b0 0 ∧ getT T 3 = .ptr b1 0 ∧ getT T 4 = .ptr H.n 0 ∧ getT T 5 = .ptr (H.n + 1) 0 ∧ getT T 7 = .bool (offers (findI n.lines) f w (ends (endE n) i) (L, false)).2 ∧ getT T 16 = .ps .unk (n.sws.map Sw.row) ∧ getT T 17 = i64 (n.sws.length : Nat) ∧ getT T 18 = i64 (i : Nat) ∧ H.n + 1 < H'.n ∧ H'.get H.n = .cells [.str f.1, .int .i64 f.2] 45 ∧ H'.get (H.n + 1) = .cells [.ps .unk (w.map Leg.row), .int .i64 (wSum w)] 246 ∧
      H'.get id = .map (lmap (offers (findI n.lines) f w (ends (endE n) i) (L, false)).1) ∧ (∀ j, j < H.n → j ≠ id → H'.get j = H.get j) ∧ ∀ p v, lk (offers (findI n.lines) f w (ends (endE n) i) (L, false)).1 p = some v → v.length ≤ 17) n.sws.length ?_ ?_ ?_
  · simp only [go_sem, reduceIte, reduceEqDiff, reduceAdd, reduceMul, reduceSub, reduceLeDiff, reduceLT, Nat.reduceBEq, reduceCtorEq, List.length_map, x3, x4]
    refine ⟨rfl, si, fun j h1 h2 => ?_, hL⟩
    rw [if_neg (by omega), if_neg (by omega)]
  · rintro i T H1 M hk ⟨rfl, g2, g3, g4, g5, g7, g16, g17, g18, pn, p4, p5, pi, pO, pL⟩
    obtain ⟨sw, hsx⟩ : ∃ p, n.sws[i]? = some p := ⟨n.sws[i], by simp⟩
    have hr := map_at (f := Sw.row) hsx
    have hw18 := wrap_succ hk hsw
    have hE : endE n i = fun k => if k then (sw.other, endM n sw) else (sw.line, sw.metre) := by funext k; unfold endE; rw [hsx]
    have e151 := pe151 n sw hn
    have hb0 : H1.get b0 = .cells n.cells 40 := by rw [pO b0 c0 ne0]; exact s0
    have hend : ends (endE n) (i + 1) = ends (endE n) i ++ [endE n i false, endE n i true] := rfl
    have hend2 : offers (findI n.lines) f w (ends (endE n) (i + 1)) (L, false) = offers (findI n.lines) f w (([endE n i false, endE n i true] : List Pt).take 2) (offers (findI n.lines) f w (ends (endE n) i) (L, false)) := by
      rw [hend]
      unfold offers
      rw [List.foldl_append]; rfl
    have y1 : (b0 = H1.n) = False := by simp only [eq_iff_iff, iff_false]; omega
    have y2 : (id = H1.n) = False := by simp only [eq_iff_iff, iff_false]; omega
    have y3 : (H.n = H1.n) = False := by simp only [eq_iff_iff, iff_false]; omega
    have y4 : (H.n + 1 = H1.n) = False := by simp only [eq_iff_iff, iff_false]; omega
    have hlo1 : (lo ≤ H1.n) = True := by simp only [eq_iff_iff, iff_true]; omega
    generalize endM n sw = EM at e151 hE
    obtain ⟨w1, w2, w3, w4, w5⟩ := sw
    simp only at hE
    simp only [Sw.row, Net.cells] at hr e151 hb0
    simp only [go_sem, reduceIte, reduceEqDiff, reduceAdd, reduceMul, reduceSub, reduceLeDiff, reduceLT, Nat.reduceBEq, reduceCtorEq, g2, g3, g4, g5, g7, g16, g17, g18, List.length_map, hk, hr, hb0, y1, hlo1, en151 h151, Net.cells, e151]
    refine W_for (fun k T' H2 M => M = [] ∧ getT T' 2 = .ptr b0 0 ∧ getT T' 3 = .ptr b1 0 ∧ getT T' 4 = .ptr H.n 0 ∧ getT T' 5 = .ptr (H.n + 1) 0 ∧ getT T' 7 = .bool (offers (findI n.lines) f w (([endE n i false, endE n i true] : List Pt).take k) (offers (findI n.lines) f w (ends (endE n) i) (L, false))).2 ∧ getT T' 16 = .ps .unk (n.sws.map Sw.row) ∧ getT T' 17 = i64 (n.sws.length : Nat) ∧ getT T' 18 = i64 (i : Nat) ∧ getT T' 24 = .agg [.str w2, .int .i64 w3, .str w4, .int .i64 EM] ∧ getT T' 25 = i64 (k : Nat) ∧ H.n + 1 < H2.n ∧ H2.get H.n = .cells [.str f.1, .int .i64 f.2] 45 ∧ H2.get (H.n + 1) = .cells [.ps .unk (w.map Leg.row), .int .i64 (wSum w)] 246 ∧
      H2.get id = .map (lmap (offers (findI n.lines) f w (([endE n i false, endE n i true] : List Pt).take k) (offers (findI n.lines) f w (ends (endE n) i) (L, false))).1) ∧ (∀ j, j < H.n → j ≠ id → H2.get j = H.get j) ∧ ∀ p v, lk (offers (findI n.lines) f w (([endE n i false, endE n i true] : List Pt).take k) (offers (findI n.lines) f w (ends (endE n) i) (L, false))).1 p = some v → v.length ≤ 17) 2 ?_ ?_ ?_
    · simp only [go_sem, reduceIte, reduceEqDiff, reduceAdd, reduceMul, reduceSub, reduceLeDiff, reduceLT, Nat.reduceBEq, reduceCtorEq, g2, g3, g4, g5, g7, g16, g17, g18, y2, y3, y4, List.take_zero]
      refine ⟨rfl, by omega, p4, p5, pi, fun j h1 h2 => ?_, pL⟩
      rw [if_neg (by omega), if_neg (by omega)]; exact pO j h1 h2
    rintro k T' H2 M hk2 ⟨rfl, i2, i3, i4, i5, i7, i16, i17, i18, i24, i25, qn, q4, q5, qi, qO, qL⟩
    have qb0 : H2.get b0 = .cells [.ps .unk (n.lines.map Ln.row), .ps .unk (n.sws.map Sw.row), .ps .unk (n.sts.map Stc.row)] 40 := by rw [qO b0 c0 ne0]; exact s0
    have qb1 : H2.get b1 = .cells [.map id] 316 := by rw [qO b1 c1 ne1]; exact s1
    have d0 : (b0 = H2.n) = False := by simp only [eq_iff_iff, iff_false]; omega
    have d1 : (b0 = H2.n + 1) = False := by simp only [eq_iff_iff, iff_false]; omega
    have d2 : (b0 = H2.n + 1 + 1) = False := by simp only [eq_iff_iff, iff_false]; omega
    have d3 : (b1 = H2.n) = False ∧ (b1 = H2.n + 1) = False ∧ (b1 = H2.n + 1 + 1) = False := by simp only [eq_iff_iff, iff_false]; omega
    have d4 : (id = H2.n) = False := by simp only [eq_iff_iff, iff_false]; omega
    have d5 : (id = H2.n + 1) = False := by simp only [eq_iff_iff, iff_false]; omega
    have d6 : (id = H2.n + 1 + 1) = False := by simp only [eq_iff_iff, iff_false]; omega
    have d7 : (H.n = H2.n) = False ∧ (H.n = H2.n + 1) = False ∧ (H.n = H2.n + 1 + 1) = False := by simp only [eq_iff_iff, iff_false]; omega
    have d8 : (H.n + 1 = H2.n) = False ∧ (H.n + 1 = H2.n + 1) = False ∧ (H.n + 1 = H2.n + 1 + 1) = False := by simp only [eq_iff_iff, iff_false]; omega
    have d9 : (H.n = id) = False ∧ (H.n + 1 = id) = False := by simp only [eq_iff_iff, iff_false]; omega
    have da : (b0 = id) = False := by simp [ne0]
    have db : (b1 = id) = False := by simp [ne1]
    have dc : (H2.n = id) = False ∧ (H2.n + 1 = id) = False ∧ (H2.n + 1 + 1 = id) = False := by simp only [eq_iff_iff, iff_false]; omega
    have hjn : ∀ j, j < H.n → (j = H2.n) = False ∧ (j = H2.n + 1) = False ∧ (j = H2.n + 1 + 1) = False := fun j h => by simp only [eq_iff_iff, iff_false]; omega
    have hlo1 : (lo ≤ H2.n) = True := by simp only [eq_iff_iff, iff_true]; omega
    have hlo2' : (lo ≤ H2.n + 1) = True := by simp only [eq_iff_iff, iff_true]; omega
    have hlo3 : (lo ≤ H2.n + 1 + 1) = True := by simp only [eq_iff_iff, iff_true]; omega
    have hloi : (lo ≤ id) = True := by simp [hlo]
    rcases (show k = 0 ∨ k = 1 by omega) with rfl | rfl
    · -- end 0
      have hpt : (w2, w3) = endE n i false := by rw [hE]; rfl
      have hmem : (w2, w3) ∈ ends (endE n) n.sws.length := (mem_ends _).2 ⟨i, false, hk, hpt⟩
      have hs0 := hsum _ hmem
      have hw25 : wrapq .i64 (Int.add ((0 : Nat) : Int) 1) = ((0 + 1 : Nat) : Int) := rfl
      have hstep : offers (findI n.lines) f w (([endE n i false, endE n i true] : List Pt).take (0 + 1)) (offers (findI n.lines) f w (ends (endE n) i) (L, false)) = offer1 (findI n.lines) f w (w2, w3) (offers (findI n.lines) f w (([endE n i false, endE n i true] : List Pt).take 0) (offers (findI n.lines) f w (ends (endE n) i) (L, false))) := by rw [hpt]; rfl
      rw [hstep]
      generalize offers (findI n.lines) f w (([endE n i false, endE n i true] : List Pt).take 0) (offers (findI n.lines) f w (ends (endE n) i) (L, false)) = s at i7 qi qL ⊢
      obtain ⟨LL, bb⟩ := s
      simp only at i7 qi qL
      have hlook := lookL (H := ((((H2.push (.cells [.str [], .int .i64 0] 45)).set H2.n (.cells [.str w2, .int .i64 w3] 45)).push (.cells [.ps .nil [], .int .i64 0] 246)).set (H2.n + 1) (.cells [.ps .unk ((w ++ [(⟨w2, f.2, w3⟩ : Leg)]).map Leg.row), .int .i64 (wSum (w ++ [(⟨w2, f.2, w3⟩ : Leg)]))] 246))) (id := id) (L := LL) (by simp only [go_sem, reduceIte, reduceEqDiff, reduceAdd, reduceMul, reduceSub, reduceLeDiff, reduceLT, Nat.reduceBEq, reduceCtorEq, d4, d5, d6]; exact qi) (w2, w3)
      have hup : ∀ old, amapUpdate NC.P lo ((((((H2.push (.cells [.str [], .int .i64 0] 45)).set H2.n (.cells [.str w2, .int .i64 w3] 45)).push (.cells [.ps .nil [], .int .i64 0] 246)).set (H2.n + 1) (.cells [.ps .unk ((w ++ [(⟨w2, f.2, w3⟩ : Leg)]).map Leg.row), .int .i64 (wSum (w ++ [(⟨w2, f.2, w3⟩ : Leg)]))] 246)).push (.cells [.ps .nil [], .int .i64 0] 246)).set (H2.n + 1 + 1) (.cells old 246)) 316 (.map id) (.agg [.str w2, .int .i64 w3]) (.agg [.ps .unk ((w ++ [(⟨w2, f.2, w3⟩ : Leg)]).map Leg.row), .int .i64 (wSum (w ++ [(⟨w2, f.2, w3⟩ : Leg)]))]) = some (((((((H2.push (.cells [.str [], .int .i64 0] 45)).set H2.n (.cells [.str w2, .int .i64 w3] 45)).push (.cells [.ps .nil [], .int .i64 0] 246)).set (H2.n + 1) (.cells [.ps .unk ((w ++ [(⟨w2, f.2, w3⟩ : Leg)]).map Leg.row), .int .i64 (wSum (w ++ [(⟨w2, f.2, w3⟩ : Leg)]))] 246)).push (.cells [.ps .nil [], .int .i64 0] 246)).set (H2.n + 1 + 1) (.cells old 246)).set id (.map (lmap (up LL (w2, w3) (w ++ [(⟨w2, f.2, w3⟩ : Leg)]))))) := fun old => updL (L := LL) (by simp only [go_sem, reduceIte, reduceEqDiff, reduceAdd, reduceMul, reduceSub, reduceLeDiff, reduceLT, Nat.reduceBEq, reduceCtorEq, d4, d5, d6]; exact qi) hlo (w2, w3) (w ++ [(⟨w2, f.2, w3⟩ : Leg)]) rfl
      have e204 := pe204 w (wSum w) ⟨w2, f.2, w3⟩ (by unfold maxRows; omega)
      rw [hs0] at e204
      have ho : offer1 (findI n.lines) f w (w2, w3) (LL, bb) = if w2 = f.1 then (match lk LL (w2, w3) with
          | none => (up LL (w2, w3) (w ++ [(⟨w2, f.2, w3⟩ : Leg)]), true)
          | some old => if wLt (findI n.lines) (w ++ [(⟨w2, f.2, w3⟩ : Leg)]) old then (up LL (w2, w3) (w ++ [(⟨w2, f.2, w3⟩ : Leg)]), true) else (LL, bb)) else (LL, bb) := rfl
      rw [ho]
      have hup17 : ∀ q v, lk (up LL (w2, w3) (w ++ [(⟨w2, f.2, w3⟩ : Leg)])) q = some v → v.length ≤ 17 := by
        intro q v hq
        rw [lk_up] at hq
        split at hq
        · cases hq; rw [List.length_append]; simp; omega
        · exact qL q v hq
      have hol : ∀ j, j < H.n → j ≠ id → ∀ (A : ABlk), H2.get j = H.get j := fun j h1 h2 _ => qO j h1 h2
      clear hstep hpt hmem hs0 ho
      simp only [Leg.row] at e204
      cases hB : beqL w2 f.1 with
      | false =>
        have hne : ¬ (w2 = f.1) := fun e => by rw [e, beqL_self] at hB; cases hB
        rw [if_neg hne]
        simp only [go_sem, reduceIte, reduceEqDiff, reduceAdd, reduceMul, reduceSub, reduceLeDiff, reduceLT, Nat.reduceBEq, reduceCtorEq, i2, i3, i4, i5, i7, i16, i17, i18, i24, i25, q4, q5, qb0, qb1, List.length_map, hk, d0, d1, d2, d3, d4, d5, d6, d7, d8, d9, da, db, dc, hlo1, hlo2', hlo3, hloi, hw25, i02, i12, cast1, cast2, wl01, wl12, hB]
        exact ⟨by omega, qi, fun j h1 h2 => by obtain ⟨z1, z2, z3⟩ := hjn j h1; simp only [z1, z2, z3, h2, if_false]; exact qO j h1 h2, qL⟩
      | true =>
        have heq : w2 = f.1 := (beqL_iff _ _).1 hB
        rw [if_pos heq]
        cases hl : lk LL (w2, w3) with
        | none =>
          rw [hl] at hlook
          simp only [] at hlook ⊢
          have hup := hup [.ps .nil [], .int .i64 0]
          generalize (w ++ [(⟨w2, f.2, w3⟩ : Leg)]).map Leg.row = NR at e204 hlook hup
          generalize wSum (w ++ [(⟨w2, f.2, w3⟩ : Leg)]) = NS at e204 hlook hup
          simp only [go_sem, reduceIte, reduceEqDiff, reduceAdd, reduceMul, reduceSub, reduceLeDiff, reduceLT, Nat.reduceBEq, reduceCtorEq, i2, i3, i4, i5, i7, i16, i17, i18, i24, i25, q4, q5, qb0, qb1, List.length_map, hk, d0, d1, d2, d3, d4, d5, d6, d7, d8, d9, da, db, dc, hlo1, hlo2', hlo3, hloi, hw25, i02, i12, cast1, cast2, wl01, wl12, hB, en204 h204, e204, hlook, hup]
          exact ⟨by omega, fun j h1 h2 => by obtain ⟨z1, z2, z3⟩ := hjn j h1; simp only [z1, z2, z3, h2, if_false]; exact qO j h1 h2, hup17⟩
        | some old =>
          rw [hl] at hlook
          have hol17 := qL _ _ hl
          have e203 := pe203 n (w ++ [(⟨w2, f.2, w3⟩ : Leg)]) (wSum (w ++ [(⟨w2, f.2, w3⟩ : Leg)])) old (wSum old) ⟨hn.lines, by rw [List.length_append]; unfold maxRows; simp; omega, by unfold maxRows; omega⟩
          have hcmp := cmpRt_lt n (w ++ [(⟨w2, f.2, w3⟩ : Leg)]) old
          generalize cmpRt n (w ++ [(⟨w2, f.2, w3⟩ : Leg)]) (wSum (w ++ [(⟨w2, f.2, w3⟩ : Leg)])) old (wSum old) = C at e203 hcmp
          simp only [rtC] at hlook
          have hup := hup [.ps .unk (old.map Leg.row), .int .i64 (wSum old)]
          simp only [Net.cells] at e203
          generalize old.map Leg.row = OR at e203 hlook hup
          generalize wSum old = OS at e203 hlook hup
          simp only []
          cases hlt : wLt (findI n.lines) (w ++ [(⟨w2, f.2, w3⟩ : Leg)]) old with
          | true =>
            have hC : (C < 0) = True := by rw [hlt] at hcmp; simpa using hcmp
            rw [if_pos rfl]
            generalize (w ++ [(⟨w2, f.2, w3⟩ : Leg)]).map Leg.row = NR at e203 e204 hlook hup
            generalize wSum (w ++ [(⟨w2, f.2, w3⟩ : Leg)]) = NS at e203 e204 hlook hup
            simp only [go_sem, reduceIte, reduceEqDiff, reduceAdd, reduceMul, reduceSub, reduceLeDiff, reduceLT, Nat.reduceBEq, reduceCtorEq, i2, i3, i4, i5, i7, i16, i17, i18, i24, i25, q4, q5, qb0, qb1, List.length_map, hk, d0, d1, d2, d3, d4, d5, d6, d7, d8, d9, da, db, dc, hlo1, hlo2', hlo3, hloi, hw25, i02, i12, cast1, cast2, wl01, wl12, hB, en204 h204, e204, hlook, Net.cells, en203 h203, e203, hC, hup]
            exact ⟨by omega, fun j h1 h2 => by obtain ⟨z1, z2, z3⟩ := hjn j h1; simp only [z1, z2, z3, h2, if_false]; exact qO j h1 h2, hup17⟩
          | false =>
            have hC : (C < 0) = False := by rw [hlt] at hcmp; simpa using hcmp
            rw [if_neg (by simp)]
            generalize (w ++ [(⟨w2, f.2, w3⟩ : Leg)]).map Leg.row = NR at e203 e204 hlook hup
            generalize wSum (w ++ [(⟨w2, f.2, w3⟩ : Leg)]) = NS at e203 e204 hlook hup
            simp only [go_sem, reduceIte, reduceEqDiff, reduceAdd, reduceMul, reduceSub, reduceLeDiff, reduceLT, Nat.reduceBEq, reduceCtorEq, i2, i3, i4, i5, i7, i16, i17, i18, i24, i25, q4, q5, qb0, qb1, List.length_map, hk, d0, d1, d2, d3, d4, d5, d6, d7, d8, d9, da, db, dc, hlo1, hlo2', hlo3, hloi, hw25, i02, i12, cast1, cast2, wl01, wl12, hB, en204 h204, e204, hlook, Net.cells, en203 h203, e203, hC]
            exact ⟨by omega, qi, fun j h1 h2 => by obtain ⟨z1, z2, z3⟩ := hjn j h1; simp only [z1, z2, z3, h2, if_false]; exact qO j h1 h2, qL⟩
    · -- end 1
      have hpt : (w4, EM) = endE n i true := by rw [hE]; rfl
      have hmem : (w4, EM) ∈ ends (endE n) n.sws.length := (mem_ends _).2 ⟨i, true, hk, hpt⟩
      have hs0 := hsum _ hmem
      have hw25 : wrapq .i64 (Int.add ((1 : Nat) : Int) 1) = ((1 + 1 : Nat) : Int) := rfl
      have hstep : offers (findI n.lines) f w (([endE n i false, endE n i true] : List Pt).take (1 + 1)) (offers (findI n.lines) f w (ends (endE n) i) (L, false)) = offer1 (findI n.lines) f w (w4, EM) (offers (findI n.lines) f w (([endE n i false, endE n i true] : List Pt).take 1) (offers (findI n.lines) f w (ends (endE n) i) (L, false))) := by rw [hpt]; rfl
      rw [hstep]
      generalize offers (findI n.lines) f w (([endE n i false, endE n i true] : List Pt).take 1) (offers (findI n.lines) f w (ends (endE n) i) (L, false)) = s at i7 qi qL ⊢
      obtain ⟨LL, bb⟩ := s
      simp only at i7 qi qL
      have hlook := lookL (H := ((((H2.push (.cells [.str [], .int .i64 0] 45)).set H2.n (.cells [.str w4, .int .i64 EM] 45)).push (.cells [.ps .nil [], .int .i64 0] 246)).set (H2.n + 1) (.cells [.ps .unk ((w ++ [(⟨w4, f.2, EM⟩ : Leg)]).map Leg.row), .int .i64 (wSum (w ++ [(⟨w4, f.2, EM⟩ : Leg)]))] 246))) (id := id) (L := LL) (by simp only [go_sem, reduceIte, reduceEqDiff, reduceAdd, reduceMul, reduceSub, reduceLeDiff, reduceLT, Nat.reduceBEq, reduceCtorEq, d4, d5, d6]; exact qi) (w4, EM)
      have hup : ∀ old, amapUpdate NC.P lo ((((((H2.push (.cells [.str [], .int .i64 0] 45)).set H2.n (.cells [.str w4, .int .i64 EM] 45)).push (.cells [.ps .nil [], .int .i64 0] 246)).set (H2.n + 1) (.cells [.ps .unk ((w ++ [(⟨w4, f.2, EM⟩ : Leg)]).map Leg.row), .int .i64 (wSum (w ++ [(⟨w4, f.2, EM⟩ : Leg)]))] 246)).push (.cells [.ps .nil [], .int .i64 0] 246)).set (H2.n + 1 + 1) (.cells old 246)) 316 (.map id) (.agg [.str w4, .int .i64 EM]) (.agg [.ps .unk ((w ++ [(⟨w4, f.2, EM⟩ : Leg)]).map Leg.row), .int .i64 (wSum (w ++ [(⟨w4, f.2, EM⟩ : Leg)]))]) = some (((((((H2.push (.cells [.str [], .int .i64 0] 45)).set H2.n (.cells [.str w4, .int .i64 EM] 45)).push (.cells [.ps .nil [], .int .i64 0] 246)).set (H2.n + 1) (.cells [.ps .unk ((w ++ [(⟨w4, f.2, EM⟩ : Leg)]).map Leg.row), .int .i64 (wSum (w ++ [(⟨w4, f.2, EM⟩ : Leg)]))] 246)).push (.cells [.ps .nil [], .int .i64 0] 246)).set (H2.n + 1 + 1) (.cells old 246)).set id (.map (lmap (up LL (w4, EM) (w ++ [(⟨w4, f.2, EM⟩ : Leg)]))))) := fun old => updL (L := LL) (by simp only [go_sem, reduceIte, reduceEqDiff, reduceAdd, reduceMul, reduceSub, reduceLeDiff, reduceLT, Nat.reduceBEq, reduceCtorEq, d4, d5, d6]; exact qi) hlo (w4, EM) (w ++ [(⟨w4, f.2, EM⟩ : Leg)]) rfl
      have e204 := pe204 w (wSum w) ⟨w4, f.2, EM⟩ (by unfold maxRows; omega)
      rw [hs0] at e204
      have ho : offer1 (findI n.lines) f w (w4, EM) (LL, bb) = if w4 = f.1 then (match lk LL (w4, EM) with
          | none => (up LL (w4, EM) (w ++ [(⟨w4, f.2, EM⟩ : Leg)]), true)
          | some old => if wLt (findI n.lines) (w ++ [(⟨w4, f.2, EM⟩ : Leg)]) old then (up LL (w4, EM) (w ++ [(⟨w4, f.2, EM⟩ : Leg)]), true) else (LL, bb)) else (LL, bb) := rfl
      rw [ho]
      have hup17 : ∀ q v, lk (up LL (w4, EM) (w ++ [(⟨w4, f.2, EM⟩ : Leg)])) q = some v → v.length ≤ 17 := by
        intro q v hq
        rw [lk_up] at hq
        split at hq
        · cases hq; rw [List.length_append]; simp; omega
        · exact qL q v hq
      have hol : ∀ j, j < H.n → j ≠ id → ∀ (A : ABlk), H2.get j = H.get j := fun j h1 h2 _ => qO j h1 h2
      clear hstep hpt hmem hs0 ho
      simp only [Leg.row] at e204
      cases hB : beqL w4 f.1 with
      | false =>
        have hne : ¬ (w4 = f.1) := fun e => by rw [e, beqL_self] at hB; cases hB
        rw [if_neg hne]
        simp only [go_sem, reduceIte, reduceEqDiff, reduceAdd, reduceMul, reduceSub, reduceLeDiff, reduceLT, Nat.reduceBEq, reduceCtorEq, i2, i3, i4, i5, i7, i16, i17, i18, i24, i25, q4, q5, qb0, qb1, List.length_map, hk, d0, d1, d2, d3, d4, d5, d6, d7, d8, d9, da, db, dc, hlo1, hlo2', hlo3, hloi, hw25, i02, i12, cast1, cast2, wl01, wl12, hB]
        exact ⟨by omega, qi, fun j h1 h2 => by obtain ⟨z1, z2, z3⟩ := hjn j h1; simp only [z1, z2, z3, h2, if_false]; exact qO j h1 h2, qL⟩
      | true =>
        have heq : w4 = f.1 := (beqL_iff _ _).1 hB
        rw [if_pos heq]
        cases hl : lk LL (w4, EM) with
        | none =>
          rw [hl] at hlook
          simp only [] at hlook ⊢
          have hup := hup [.ps .nil [], .int .i64 0]
          generalize (w ++ [(⟨w4, f.2, EM⟩ : Leg)]).map Leg.row = NR at e204 hlook hup
          generalize wSum (w ++ [(⟨w4, f.2, EM⟩ : Leg)]) = NS at e204 hlook hup
          simp only [go_sem, reduceIte, reduceEqDiff, reduceAdd, reduceMul, reduceSub, reduceLeDiff, reduceLT, Nat.reduceBEq, reduceCtorEq, i2, i3, i4, i5, i7, i16, i17, i18, i24, i25, q4, q5, qb0, qb1, List.length_map, hk, d0, d1, d2, d3, d4, d5, d6, d7, d8, d9, da, db, dc, hlo1, hlo2', hlo3, hloi, hw25, i02, i12, cast1, cast2, wl01, wl12, hB, en204 h204, e204, hlook, hup]
          exact ⟨by omega, fun j h1 h2 => by obtain ⟨z1, z2, z3⟩ := hjn j h1; simp only [z1, z2, z3, h2, if_false]; exact qO j h1 h2, hup17⟩
        | some old =>
          rw [hl] at hlook
          have hol17 := qL _ _ hl
          have e203 := pe203 n (w ++ [(⟨w4, f.2, EM⟩ : Leg)]) (wSum (w ++ [(⟨w4, f.2, EM⟩ : Leg)])) old (wSum old) ⟨hn.lines, by rw [List.length_append]; unfold maxRows; simp; omega, by unfold maxRows; omega⟩
          have hcmp := cmpRt_lt n (w ++ [(⟨w4, f.2, EM⟩ : Leg)]) old
          generalize cmpRt n (w ++ [(⟨w4, f.2, EM⟩ : Leg)]) (wSum (w ++ [(⟨w4, f.2, EM⟩ : Leg)])) old (wSum old) = C at e203 hcmp
          simp only [rtC] at hlook
          have hup := hup [.ps .unk (old.map Leg.row), .int .i64 (wSum old)]
          simp only [Net.cells] at e203
          generalize old.map Leg.row = OR at e203 hlook hup
          generalize wSum old = OS at e203 hlook hup
          simp only []
          cases hlt : wLt (findI n.lines) (w ++ [(⟨w4, f.2, EM⟩ : Leg)]) old with
          | true =>
            have hC : (C < 0) = True := by rw [hlt] at hcmp; simpa using hcmp
            rw [if_pos rfl]
            generalize (w ++ [(⟨w4, f.2, EM⟩ : Leg)]).map Leg.row = NR at e203 e204 hlook hup
            generalize wSum (w ++ [(⟨w4, f.2, EM⟩ : Leg)]) = NS at e203 e204 hlook hup
            simp only [go_sem, reduceIte, reduceEqDiff, reduceAdd, reduceMul, reduceSub, reduceLeDiff, reduceLT, Nat.reduceBEq, reduceCtorEq, i2, i3, i4, i5, i7, i16, i17, i18, i24, i25, q4, q5, qb0, qb1, List.length_map, hk, d0, d1, d2, d3, d4, d5, d6, d7, d8, d9, da, db, dc, hlo1, hlo2', hlo3, hloi, hw25, i02, i12, cast1, cast2, wl01, wl12, hB, en204 h204, e204, hlook, Net.cells, en203 h203, e203, hC, hup]
            exact ⟨by omega, fun j h1 h2 => by obtain ⟨z1, z2, z3⟩ := hjn j h1; simp only [z1, z2, z3, h2, if_false]; exact qO j h1 h2, hup17⟩
          | false =>
            have hC : (C < 0) = False := by rw [hlt] at hcmp; simpa using hcmp
            rw [if_neg (by simp)]
            generalize (w ++ [(⟨w4, f.2, EM⟩ : Leg)]).map Leg.row = NR at e203 e204 hlook hup
            generalize wSum (w ++ [(⟨w4, f.2, EM⟩ : Leg)]) = NS at e203 e204 hlook hup
            simp only [go_sem, reduceIte, reduceEqDiff, reduceAdd, reduceMul, reduceSub, reduceLeDiff, reduceLT, Nat.reduceBEq, reduceCtorEq, i2, i3, i4, i5, i7, i16, i17, i18, i24, i25, q4, q5, qb0, qb1, List.length_map, hk, d0, d1, d2, d3, d4, d5, d6, d7, d8, d9, da, db, dc, hlo1, hlo2', hlo3, hloi, hw25, i02, i12, cast1, cast2, wl01, wl12, hB, en204 h204, e204, hlook, Net.cells, en203 h203, e203, hC]
            exact ⟨by omega, qi, fun j h1 h2 => by obtain ⟨z1, z2, z3⟩ := hjn j h1; simp only [z1, z2, z3, h2, if_false]; exact qO j h1 h2, qL⟩
    rintro T' H2 M ⟨rfl, i2, i3, i4, i5, i7, i16, i17, i18, i24, i25, qn, q4, q5, qi, qO, qL⟩
    rw [← hend2] at i7 qi qL
    have h22 : (((2 : Nat) : Int) < 2) = False := by simp
    simp only [go_sem, reduceIte, reduceEqDiff, reduceAdd, reduceMul, reduceSub, reduceLeDiff, reduceLT, Nat.reduceBEq, reduceCtorEq, i2, i3, i4, i5, i7, i16, i17, i18, i25, h22, hw18]
    exact ⟨qn, q4, q5, qi, qO, qL⟩
  · rintro T H1 M ⟨rfl, g2, g3, g4, g5, g7, g16, g17, g18, pn, p4, p5, pi, pO, pL⟩
    simp only [go_sem, reduceIte, reduceEqDiff, reduceAdd, reduceMul, reduceSub, reduceLeDiff, reduceLT, Nat.reduceBEq, reduceCtorEq, g2, g3, g4, g5, g7, g16, g17, g18, Nat.lt_irrefl]
    exact ⟨pi, by omega, pO, pL⟩
end Go.Sim

/-
Ways: the best routes to all ends, by the program.
-/
-- INJ Leg.row_iff lgs_iff
namespace Go.Sim
open Go Go.Proofs
set_option maxRecDepth 100000
set_option maxHeartbeats 64000000
variable {P : FuncId → Option (List AV → Option AV)}
/-! ### Sums are small -/
def inR (x : Int) : Prop := 0 ≤ x ∧ x ≤ 800000
theorem legW_len {l : Leg} (h1 : inR l.fr) (h2 : inR l.to) : legW l = l.len ∧ 0 ≤ l.len ∧ l.len ≤ 800000 := by
  obtain ⟨a1, a2⟩ := h1
  obtain ⟨b1, b2⟩ := h2
  have e1 : Int.sub l.fr l.to = l.fr - l.to := rfl
  have e2 : Int.sub l.to l.fr = l.to - l.fr := rfl
  unfold legW Leg.len
  rw [e1, e2, wrap_small (x := l.fr - l.to) (by omega) (by omega), wrap_small (x := l.to - l.fr) (by omega) (by omega)]
  unfold maxI dI
  (repeat' split) <;> omega
theorem wSum_small : ∀ {w : List Leg}, (∀ l ∈ w, inR l.fr ∧ inR l.to) → wSum w ≤ 800000 * w.length
  | [], _ => by simp [wSum]
  | l :: r, h => by
    have ih := wSum_small (w := r) fun x hx => h x (by simp [hx])
    obtain ⟨h1, h2⟩ := h l (by simp)
    have := (legW_len h1 h2).2.2
    simp only [wSum, List.length_cons]; omega
theorem legsOf_in {E : Nat → Bool → Pt} {N : Nat} (hE : ∀ i k, i < N → inR (E i k).2) : ∀ {a : Pt} {σ : List Stp} {b : Pt}, inR a.2 → inR b.2 → okS E N a σ b → ∀ l ∈ legsOf E a σ b, inR l.fr ∧ inR l.to
  | a, [], b, ha, hb, _ => by
    intro l hl
    rw [List.mem_singleton.1 hl]; exact ⟨ha, hb⟩
  | a, s :: r, b, ha, hb, h => by
    intro l hl
    rcases List.mem_cons.1 hl with rfl | hl
    · exact ⟨ha, hE _ _ h.1⟩
    · exact legsOf_in hE (hE _ _ h.1) hb h.2.2 l hl
theorem sum_one {w : List Leg} {l : Leg} (hw : ∀ l ∈ w, inR l.fr ∧ inR l.to) (hn : w.length ≤ 16) (h1 : inR l.fr) (h2 : inR l.to) : wrapq .i64 (Int.add (wSum w) (legW l)) = wSum (w ++ [l]) := by
  obtain ⟨e1, e2, e3⟩ := legW_len h1 h2
  have hs := wSum_small hw
  have h0 := wSum_nonneg w
  have e : Int.add (wSum w) l.len = wSum w + l.len := rfl
  rw [e1, e, wSum_append]
  have : wSum [l] = l.len := by simp [wSum]
  rw [this]
  exact wrapq_i64 (by omega) (by omega)
theorem sum_ok {n : Net} {a : Pt} {σ : List Stp} {fr : Int} (ha : inR a.2) (hE : ∀ i k, i < n.sws.length → inR (endE n i k).2) {q : Pt} (h : okS (endE n) n.sws.length a σ q) (hl : σ.length ≤ 15) (hf : inR fr) :
    inR q.2 → ∀ p ∈ ends (endE n) n.sws.length, wrapq .i64 (Int.add (wSum (legsOf (endE n) a σ q)) (legW ⟨p.1, fr, p.2⟩)) = wSum (legsOf (endE n) a σ q ++ [⟨p.1, fr, p.2⟩]) := by
  intro hq p hp
  obtain ⟨j, m, hj, rfl⟩ := (mem_ends _).1 hp
  exact sum_one (legsOf_in hE ha hq h) (by rw [legsOf_length]; omega) hf (hE j m hj)
theorem first_better {ix : List Nat → Int} {o L : Labs} (hb : better ix o L) {p : Pt} {x : List Leg} (h : ∃ v, lk o p = some v ∧ (v = x ∨ wLt ix v x = true ∨ wLt ix x v = false)) : ∃ w, lk L p = some w ∧ (w = x ∨ wLt ix w x = true ∨ wLt ix x w = false) := by
  obtain ⟨v, h1, h2⟩ := h
  obtain ⟨u, h3, h4⟩ := hb p v h1
  refine ⟨u, h3, ?_⟩
  rcases h4 with rfl | h4
  · exact h2
  · rcases h2 with rfl | h2 | h2
    · exact .inr (.inl h4)
    · exact .inr (.inl (wLt_trans ix h4 h2))
    · right; right
      cases c : wLt ix x u with
      | false => rfl
      | true =>
        have := wLt_trans ix c h4
        rw [this] at h2; cases h2
def rsD (E : Nat → Bool → Pt) (N : Nat) (ix : List Nat → Int) (L : Labs) (i : Nat) : Nat → Labs × Bool
  | 0 => rounds E N ix i (L, false)
  | 1 => rstep E N ix i false (rounds E N ix i (L, false))
  | _ => rstep E N ix i true (rstep E N ix i false (rounds E N ix i (L, false)))
theorem rsD_valid {E : Nat → Bool → Pt} {N : Nat} {ix : List Nat → Int} {a : Pt} {L : Labs} (h : LabV E N a L) {i : Nat} (hi : i < N) : ∀ k, k ≤ 2 → LabV E N a (rsD E N ix L i k).1
  | 0, _ => (rounds_rs (ix := ix) (by omega) h).valid
  | 1, _ => (rstep_rs (ix := ix) hi false (rounds_rs (ix := ix) (by omega) h).valid).valid
  | 2, _ => (rstep_rs (ix := ix) hi true (rstep_rs (ix := ix) hi false (rounds_rs (ix := ix) (by omega) h).valid).valid).valid
  | n + 3, h => absurd h (by omega)
theorem ab334 (a c a' c' : List Nat) (b d b' d' : Int) : abuild NC.P 334 [(0, .agg [.str a, .int .i64 b, .str c, .int .i64 d]), (1, .agg [.str a', .int .i64 b', .str c', .int .i64 d'])] = some (.agg [.str a, .int .i64 b, .str c, .int .i64 d, .str a', .int .i64 b', .str c', .int .i64 d']) := by kernel_rfl
theorem evalO_nilm {C : Cfg} {T : TT AV} : evalO C T (.const (.map none)) = some .nilm := rfl
theorem r185 (h151 : P 151 = some p151) (h203 : P 203 = some p203) (h204 : P 204 = some p204) (h229 : P 229 = none) (n : Net) (hn : n.Ok) (hsw : n.sws.length ≤ maxRows) (a : Pt) (hRa : inR a.2) (hRE : ∀ i k, i < n.sws.length → inR (endE n i k).2) (lo : Nat) (H : Heap) (hlo : lo ≤ H.n) :
    ∃ v H', R (NC.withPrims P) (.call lo 185 [.agg n.cells, .agg [.str a.1, .int .i64 a.2]] H) = some (.ofVal v H') ∧ ∃ L, v = .map (H.n + 2) ∧ H.n + 2 < H'.n ∧ H'.get (H.n + 2) = .map (lmap L) ∧ Lab (endE n) n.sws.length (findI n.lines) a (lk L) ∧ LabV (endE n) n.sws.length a L ∧ ∀ j, j < H.n → H'.get j = H.get j := by
  refine R_of_body (C := NC.withPrims P) (f := 185) (lo := lo) (args := [.agg n.cells, .agg [.str a.1, .int .i64 a.2]]) (H := H) (fn := Tryz.f185) (Q := fun v H' => ∃ L, v = .map (H.n + 2) ∧ H.n + 2 < H'.n ∧ H'.get (H.n + 2) = .map (lmap L) ∧ Lab (endE n) n.sws.length (findI n.lines) a (lk L) ∧ LabV (endE n) n.sws.length a L ∧ ∀ j, j < H.n → H'.get j = H.get j) (by kernel_rfl) Tryz.func185 rfl rfl ?_
  have hend1 : ∀ s, (rounds (endE n) n.sws.length (findI n.lines) 0 s) = s := fun s => rfl
  obtain ⟨v1, H1, r1, rfl, r2, r3, r4, r5⟩ := r229 (P := P) h151 h203 h204 n hn hsw a [] [] (by simp) (by
      intro p hp
      obtain ⟨j, m, hj, rfl⟩ := (mem_ends _).1 hp
      exact sum_one (w := []) (fun l hl => by cases hl) (by simp) hRa (hRE j m hj)) (fun p v h => by cases h)
    lo H.n (H.n + 3) (H.n + 2) (((((H.push (.cells n.cells 40)).push (.cells [.str a.1, .int .i64 a.2] 45)).push (.map [])).push (.cells [.nilm] 316)).set (H.n + 3) (.cells [.map (H.n + 2)] 316)) (by omega) (by simp; omega) (by simp; omega) (by simp) (by simp) (by omega) (by omega) (by simp only [go_sem, reduceIte, reduceEqDiff, reduceAdd, reduceMul, reduceSub, reduceLeDiff, reduceLT, Nat.reduceBEq, reduceCtorEq]) (by simp only [go_sem, reduceIte, reduceEqDiff, reduceAdd, reduceMul, reduceSub, reduceLeDiff, reduceLT, Nat.reduceBEq, reduceCtorEq]) (by simp only [go_sem, reduceIte, reduceEqDiff, reduceAdd, reduceMul, reduceSub, reduceLeDiff, reduceLT, Nat.reduceBEq, reduceCtorEq]; rfl)
  have hv0 := offers_valid (ix := findI n.lines) (rt_first (E := endE n) (N := n.sws.length) (a := a)) (ends (endE n) n.sws.length) ends_all ([], false) (fun p w h => by cases h)
  have hf0 := offers_least (findI n.lines) a [] (ends (endE n) n.sws.length) ([], false)
  generalize offers (findI n.lines) a [] (ends (endE n) n.sws.length) ([], false) = o at r1 r2 r5 hv0 hf0
  obtain ⟨o1, o2⟩ := o
  simp only at r1 r2 r5 hv0 hf0
  have hlo3 : (lo ≤ H.n + 1 + 1 + 1) = True := by simp only [eq_iff_iff, iff_true]; omega
  have r1' := r1
  simp only [Net.cells, List.map_nil, wSum] at r1'
  simp only [go_sem, reduceIte, reduceEqDiff, reduceAdd, reduceMul, reduceSub, reduceLeDiff, reduceLT, Nat.reduceBEq, reduceCtorEq, evalO_nilm, hlo3, Net.cells, en229 h229, r1', ofVal_v, ofVal_H]
  have z0 := r4 H.n (by simp; omega) (by omega)
  have z3 := r4 (H.n + 3) (by simp) (by omega)
  have zO : ∀ j, j < H.n → H1.get j = H.get j := fun j h => by
    rw [r4 j (by simp; omega) (by omega)]
    simp only [go_sem, reduceIte, reduceEqDiff, reduceAdd, reduceMul, reduceSub, reduceLeDiff, reduceLT, Nat.reduceBEq, reduceCtorEq]
    rw [if_neg (by omega), if_neg (by omega), if_neg (by omega), if_neg (by omega), if_neg (by omega)]
  have z0 : H1.get H.n = .cells n.cells 40 := by rw [z0]; simp only [go_sem, reduceIte, reduceEqDiff, reduceAdd, reduceMul, reduceSub, reduceLeDiff, reduceLT, Nat.reduceBEq, reduceCtorEq]
  have z3 : H1.get (H.n + 3) = .cells [.map (H.n + 2)] 316 := by rw [z3]; simp only [go_sem, reduceIte, reduceEqDiff, reduceAdd, reduceMul, reduceSub, reduceLeDiff, reduceLT, Nat.reduceBEq, reduceCtorEq]
  have zn : H.n + 3 < H1.n := by simp at r3; omega
  clear r1 r1' r3 r4 hlo3
  refine W_while (fun m T H' M => M = [] ∧ getT T 2 = .ptr H.n 0 ∧ getT T 5 = .ptr (H.n + 3) 0 ∧ getT T 6 = .fn 229 [] [.ptr H.n 0, .ptr (H.n + 3) 0] ∧ H.n + 3 < H'.n ∧ H'.get H.n = .cells n.cells 40 ∧ H'.get (H.n + 3) = .cells [.map (H.n + 2)] 316 ∧ (∀ j, j < H.n → H'.get j = H.get j) ∧ ∃ (L : Labs) (ag : Bool), getT T 7 = .bool ag ∧ H'.get (H.n + 2) = .map (lmap L) ∧ LabV (endE n) n.sws.length a L ∧ better (findI n.lines) o1 L ∧ (ag = false → (rounds (endE n) n.sws.length (findI n.lines) n.sws.length (L, false)).2 = false) ∧ m = if ag then mu (endE n) n.sws.length (findI n.lines) a L + 1 else 0) ?_ (mu (endE n) n.sws.length (findI n.lines) a o1 + 1) _ _ _ ?_
  case refine_2 =>
    simp only [go_sem, reduceIte, reduceEqDiff, reduceAdd, reduceMul, reduceSub, reduceLeDiff, reduceLT, Nat.reduceBEq, reduceCtorEq]
    exact ⟨zn, z0, z3, zO, o1, true, rfl, r2, hv0, better_refl _ _, fun h => (by cases h), rfl⟩
  case refine_1 =>
  clear z0 z3 zO zn r2 r5 hv0
  rintro m T H' M ⟨rfl, t2, t5, t6, hn', g0, g3, gO, L, ag, t7, gL, hLv, hb, hfin, rfl⟩
  cases ag with
  | false =>
    have hr := hfin rfl
    simp only [go_sem, reduceIte, reduceEqDiff, reduceAdd, reduceMul, reduceSub, reduceLeDiff, reduceLT, Nat.reduceBEq, reduceCtorEq, t7, t5, g3]
    refine ⟨L, by omega, gL, lab_of hLv ?_ hr, hLv, gO⟩
    intro p hp hl
    have := first_better hb (hf0 p hp hl)
    rw [List.nil_append, hl] at this
    exact this
  | true =>
  clear hfin
  obtain ⟨rsK, hrsK⟩ : ∃ r : Nat → Nat → Labs × Bool, r = fun i k => rsD (endE n) n.sws.length (findI n.lines) L i k := ⟨_, rfl⟩
  have hval : ∀ i k, i < n.sws.length → k ≤ 2 → LabV (endE n) n.sws.length a (rsK i k).1 := fun i k hi hk => by rw [hrsK]; exact rsD_valid hLv hi k hk
  have hall := rounds_rs (ix := findI n.lines) (Nat.le_refl n.sws.length) (s := (L, false)) hLv
  have hre : rounds (endE n) n.sws.length (findI n.lines) n.sws.length (L, false) = rsK n.sws.length 0 := by rw [hrsK]; rfl
  have hrf := fun h => rounds_false (E := endE n) (N := n.sws.length) (ix := findI n.lines) (n := n.sws.length) (s := (L, false)) h
  rw [hre] at hall hrf
  have hr0 : rsK 0 0 = (L, false) := by rw [hrsK]; rfl
  have hrS : ∀ i, rsK (i + 1) 0 = rsK i 2 := fun i => by rw [hrsK]; rfl
  have g0' := g0
  simp only [Net.cells] at g0'
  simp only [go_sem, reduceIte, reduceEqDiff, reduceAdd, reduceMul, reduceSub, reduceLeDiff, reduceLT, Nat.reduceBEq, reduceCtorEq, t7, t5, t2, t6, g0']
  refine W_for (fun i T H' M => M = [] ∧ getT T 2 = .ptr H.n 0 ∧ getT T 5 = .ptr (H.n + 3) 0 ∧ getT T 6 = .fn 229 [] [.ptr H.n 0, .ptr (H.n + 3) 0] ∧ getT T 7 = .bool (rsK i 0).2 ∧ getT T 23 = .ps .unk (n.sws.map Sw.row) ∧ getT T 24 = i64 (n.sws.length : Nat) ∧ getT T 25 = i64 (i : Nat) ∧ H.n + 3 < H'.n ∧ H'.get H.n = .cells n.cells 40 ∧ H'.get (H.n + 3) = .cells [.map (H.n + 2)] 316 ∧ (∀ j, j < H.n → H'.get j = H.get j) ∧ H'.get (H.n + 2) = .map (lmap (rsK i 0).1)) n.sws.length ?_ ?_ ?_
  · simp only [go_sem, reduceIte, reduceEqDiff, reduceAdd, reduceMul, reduceSub, reduceLeDiff, reduceLT, Nat.reduceBEq, reduceCtorEq, t2, t5, t6, List.length_map, hr0]
    exact ⟨hn', g0, g3, gO, gL⟩
  · rintro i T H1 M hk ⟨rfl, t2, t5, t6, t7, t23, t24, t25, pn, p0, p3, pO, pL⟩
    obtain ⟨sw, hsx⟩ : ∃ p, n.sws[i]? = some p := ⟨n.sws[i], by simp⟩
    have hr := map_at (f := Sw.row) hsx
    have hw25 := wrap_succ hk hsw
    have hE : endE n i = fun k => if k then (sw.other, endM n sw) else (sw.line, sw.metre) := by funext k; unfold endE; rw [hsx]
    have e151 := pe151 n sw hn
    have y1 : (H.n = H1.n) = False := by simp only [eq_iff_iff, iff_false]; omega
    have y2 : (H.n = H1.n + 1) = False := by simp only [eq_iff_iff, iff_false]; omega
    have y3 : (H.n + 3 = H1.n) = False := by simp only [eq_iff_iff, iff_false]; omega
    have y4 : (H.n + 3 = H1.n + 1) = False := by simp only [eq_iff_iff, iff_false]; omega
    have y5 : (H.n + 2 = H1.n) = False := by simp only [eq_iff_iff, iff_false]; omega
    have y6 : (H.n + 2 = H1.n + 1) = False := by simp only [eq_iff_iff, iff_false]; omega
    have hlo1 : (lo ≤ H1.n) = True := by simp only [eq_iff_iff, iff_true]; omega
    have hlo2 : (lo ≤ H1.n + 1) = True := by simp only [eq_iff_iff, iff_true]; omega
    rw [hrS]
    generalize endM n sw = EM at e151 hE
    obtain ⟨w1, w2, w3, w4, w5⟩ := sw
    simp only at hE
    have p0' := p0
    simp only [Sw.row, Net.cells] at hr e151 p0'
    simp only [go_sem, reduceIte, reduceEqDiff, reduceAdd, reduceMul, reduceSub, reduceLeDiff, reduceLT, Nat.reduceBEq, reduceCtorEq, t2, t5, t6, t7, t23, t24, t25, List.length_map, hk, hr, p0', y1, y2, hlo1, hlo2, en151 h151, Net.cells, e151, ab259, ab334]
    refine W_for (fun k T H2 M => M = [] ∧ getT T 2 = .ptr H.n 0 ∧ getT T 5 = .ptr (H.n + 3) 0 ∧ getT T 6 = .fn 229 [] [.ptr H.n 0, .ptr (H.n + 3) 0] ∧ getT T 7 = .bool (rsK i k).2 ∧ getT T 23 = .ps .unk (n.sws.map Sw.row) ∧ getT T 24 = i64 (n.sws.length : Nat) ∧ getT T 25 = i64 (i : Nat) ∧ getT T 38 = .agg [.str w2, .int .i64 w3, .str w4, .int .i64 EM, .str w4, .int .i64 EM, .str w2, .int .i64 w3] ∧ getT T 39 = i64 (k : Nat) ∧ H.n + 3 < H2.n ∧ H2.get H.n = .cells n.cells 40 ∧ H2.get (H.n + 3) = .cells [.map (H.n + 2)] 316 ∧ (∀ j, j < H.n → H2.get j = H.get j) ∧ H2.get (H.n + 2) = .map (lmap (rsK i k).1)) 2 ?_ ?_ ?_
    · simp only [go_sem, reduceIte, reduceEqDiff, reduceAdd, reduceMul, reduceSub, reduceLeDiff, reduceLT, Nat.reduceBEq, reduceCtorEq, t2, t5, t6, t7, t23, t24, t25, y1, y2, y3, y4, y5, y6]
      refine ⟨by omega, p0, p3, fun j h => ?_, pL⟩
      rw [if_neg (by omega), if_neg (by omega), if_neg (by omega), if_neg (by omega)]; exact pO j h
    rintro k T H2 M hk2 ⟨rfl, i2, i5, i6, i7, i23, i24, i25, i38, i39, qn, qs0, qs1, qO, qi⟩
    have d0 : (H.n = H2.n) = False := by simp only [eq_iff_iff, iff_false]; omega
    have d1 : (H.n = H2.n + 1) = False := by simp only [eq_iff_iff, iff_false]; omega
    have d2 : (H.n + 3 = H2.n) = False := by simp only [eq_iff_iff, iff_false]; omega
    have d3 : (H.n + 3 = H2.n + 1) = False := by simp only [eq_iff_iff, iff_false]; omega
    have d4 : (H.n + 2 = H2.n) = False := by simp only [eq_iff_iff, iff_false]; omega
    have d5 : (H.n + 2 = H2.n + 1) = False := by simp only [eq_iff_iff, iff_false]; omega
    have hlo1 : (lo ≤ H2.n) = True := by simp only [eq_iff_iff, iff_true]; omega
    have hlo2 : (lo ≤ H2.n + 1) = True := by simp only [eq_iff_iff, iff_true]; omega
    clear hall hrf hre hr0 hrS e151 y1 y2 y3 y4 y5 y6 pO pL p0 p3 hf0
    rcases (show k = 0 ∨ k = 1 by omega) with rfl | rfl
    · -- entered at end 0
      have hpt : endE n i false = (w2, w3) := by rw [hE]; rfl
      have hqt : endE n i (!false) = (w4, EM) := by rw [hE]; rfl
      have hrs : rsK i (0 + 1) = rstep (endE n) n.sws.length (findI n.lines) i false (rsK i 0) := by rw [hrsK]; rfl
      have hsv := hval i 0 (by omega) (by omega)
      rw [hrs]
      generalize rsK i 0 = s at i7 qi hsv ⊢
      obtain ⟨LL, bb⟩ := s
      simp only at i7 qi hsv
      have hlook := lookL (H := ((H2.push (.cells [.str [], .int .i64 0, .str [], .int .i64 0] 259)).set H2.n (.cells [.str w2, .int .i64 w3, .str w4, .int .i64 EM] 259))) (id := H.n + 2) (L := LL) (by simp only [go_sem, reduceIte, reduceEqDiff, reduceAdd, reduceMul, reduceSub, reduceLeDiff, reduceLT, Nat.reduceBEq, reduceCtorEq, d4, d5]; exact qi) (w2, w3)
      have hst : rstep (endE n) n.sws.length (findI n.lines) i false (LL, bb) = match lk LL (w2, w3) with
          | none => (LL, bb)
          | some r => if r.length < 16 then ((offers (findI n.lines) (w4, EM) r (ends (endE n) n.sws.length) (LL, false)).1, bb || (offers (findI n.lines) (w4, EM) r (ends (endE n) n.sws.length) (LL, false)).2) else (LL, bb) := by
        unfold rstep
        rw [hpt, hqt]
        all_goals (show (match lk LL (w2, w3) with | none => _ | some r => _) = _; cases lk LL (w2, w3) <;> rfl)
      rw [hst]
      cases hl : lk LL (w2, w3) with
      | none =>
        rw [hl] at hlook
        simp only [] at hlook ⊢
        simp only [go_sem, reduceIte, reduceEqDiff, reduceAdd, reduceMul, reduceSub, reduceLeDiff, reduceLT, Nat.reduceBEq, reduceCtorEq, i2, i5, i6, i7, i23, i24, i25, i38, i39, qs1, qi, i02, i12, cast1, cast2, wl01, wl12, d0, d1, d2, d3, d4, d5, hlo1, hlo2, hlook]
        refine ⟨by omega, qs0, fun j h => ?_⟩
        rw [if_neg (by omega), if_neg (by omega), if_neg (by omega), if_neg (by omega)]; exact qO j h
      | some r =>
        rw [hl] at hlook
        obtain ⟨_, σ, s1, s2, s3⟩ := hsv _ _ hl
        have hrl : r.length ≤ 16 := by rw [s2, legsOf_length]; omega
        simp only [rtC] at hlook
        simp only []
        rcases Nat.lt_or_ge r.length 16 with h16 | h16
        case inr =>
          have h16' : ((r.length : Int) < 16) = False := by simp only [eq_iff_iff, iff_false]; omega
          rw [if_neg (by omega)]
          simp only [go_sem, reduceIte, reduceEqDiff, reduceAdd, reduceMul, reduceSub, reduceLeDiff, reduceLT, Nat.reduceBEq, reduceCtorEq, i2, i5, i6, i7, i23, i24, i25, i38, i39, qs1, qi, i02, i12, cast1, cast2, wl01, wl12, d0, d1, d2, d3, d4, d5, hlo1, hlo2, hlook, List.length_map, h16']
          refine ⟨by omega, qs0, fun j h => ?_⟩
          rw [if_neg (by omega), if_neg (by omega), if_neg (by omega), if_neg (by omega)]; exact qO j h
        have h16' : ((r.length : Int) < 16) = True := by simp only [eq_iff_iff, iff_true]; omega
        rw [if_pos h16]
        have hrt : ∀ p ∈ ends (endE n) n.sws.length, wrapq .i64 (Int.add (wSum r) (legW ⟨p.1, EM, p.2⟩)) = wSum (r ++ [⟨p.1, EM, p.2⟩]) := by
          rw [s2]
          exact sum_ok hRa hRE s1 (by omega) (by have := hRE i (!false) (by omega); rw [hqt] at this; exact this) (by have := hRE i false (by omega); rw [hpt] at this; exact this)
        obtain ⟨v3, H3, r1, rfl, r2, r3, r4, r5⟩ := r229 (P := P) h151 h203 h204 n hn hsw (w4, EM) r LL hrl hrt (fun p v h => by obtain ⟨_, τ, t1, t2, t3⟩ := hsv p v h; rw [t2, legsOf_length]; omega)
          lo H.n (H.n + 3) (H.n + 2) (((((H2.push (.cells [.str [], .int .i64 0, .str [], .int .i64 0] 259)).set H2.n (.cells [.str w2, .int .i64 w3, .str w4, .int .i64 EM] 259)).push (.cells [.ps .nil [], .int .i64 0] 246)).set (H2.n + 1) (.cells [.ps .unk (r.map Leg.row), .int .i64 (wSum r)] 246))) (by omega) (by simp; omega) (by simp; omega) (by simp; omega) (by simp; omega) (by omega) (by omega) (by simp only [go_sem, reduceIte, reduceEqDiff, reduceAdd, reduceMul, reduceSub, reduceLeDiff, reduceLT, Nat.reduceBEq, reduceCtorEq, d0, d1]; exact qs0) (by simp only [go_sem, reduceIte, reduceEqDiff, reduceAdd, reduceMul, reduceSub, reduceLeDiff, reduceLT, Nat.reduceBEq, reduceCtorEq, d2, d3]; exact qs1) (by simp only [go_sem, reduceIte, reduceEqDiff, reduceAdd, reduceMul, reduceSub, reduceLeDiff, reduceLT, Nat.reduceBEq, reduceCtorEq, d4, d5]; exact qi)
        generalize offers (findI n.lines) (w4, EM) r (ends (endE n) n.sws.length) (LL, false) = o at r1 r2 r5 ⊢
        obtain ⟨o1, o2⟩ := o
        simp only at r1 r2 r5
        have r6 : H2.n < H3.n := by simp at r3; omega
        have r7 := r4 H.n (by simp; omega) (by omega)
        have r8 := r4 (H.n + 3) (by simp; omega) (by omega)
        have r9 : ∀ j, j < H.n → H3.get j = H.get j := fun j h => by
          rw [r4 j (by simp; omega) (by omega)]
          simp only [go_sem, reduceIte, reduceEqDiff, reduceAdd, reduceMul, reduceSub, reduceLeDiff, reduceLT, Nat.reduceBEq, reduceCtorEq]
          rw [if_neg (by omega), if_neg (by omega), if_neg (by omega), if_neg (by omega)]; exact qO j h
        have r7 : H3.get H.n = .cells n.cells 40 := by rw [r7]; simp only [go_sem, reduceIte, reduceEqDiff, reduceAdd, reduceMul, reduceSub, reduceLeDiff, reduceLT, Nat.reduceBEq, reduceCtorEq, d0, d1]; exact qs0
        have r8 : H3.get (H.n + 3) = .cells [.map (H.n + 2)] 316 := by rw [r8]; simp only [go_sem, reduceIte, reduceEqDiff, reduceAdd, reduceMul, reduceSub, reduceLeDiff, reduceLT, Nat.reduceBEq, reduceCtorEq, d2, d3]; exact qs1
        cases o2 <;> simp only [go_sem, reduceIte, reduceEqDiff, reduceAdd, reduceMul, reduceSub, reduceLeDiff, reduceLT, Nat.reduceBEq, reduceCtorEq, i2, i5, i6, i7, i23, i24, i25, i38, i39, qs1, qi, i02, i12, cast1, cast2, wl01, wl12, d0, d1, d2, d3, d4, d5, hlo1, hlo2, hlook, List.length_map, h16', en229 h229, r1, ofVal_v, ofVal_H, Bool.or_true, Bool.or_false]
        · exact ⟨by omega, r7, r8, r9, r2⟩
        · exact ⟨by omega, r7, r8, r9, r2⟩
    · -- entered at end 1
      have hpt : endE n i true = (w4, EM) := by rw [hE]; rfl
      have hqt : endE n i (!true) = (w2, w3) := by rw [hE]; rfl
      have hrs : rsK i (1 + 1) = rstep (endE n) n.sws.length (findI n.lines) i true (rsK i 1) := by rw [hrsK]; rfl
      have hsv := hval i 1 (by omega) (by omega)
      rw [hrs]
      generalize rsK i 1 = s at i7 qi hsv ⊢
      obtain ⟨LL, bb⟩ := s
      simp only at i7 qi hsv
      have hlook := lookL (H := ((H2.push (.cells [.str [], .int .i64 0, .str [], .int .i64 0] 259)).set H2.n (.cells [.str w4, .int .i64 EM, .str w2, .int .i64 w3] 259))) (id := H.n + 2) (L := LL) (by simp only [go_sem, reduceIte, reduceEqDiff, reduceAdd, reduceMul, reduceSub, reduceLeDiff, reduceLT, Nat.reduceBEq, reduceCtorEq, d4, d5]; exact qi) (w4, EM)
      have hst : rstep (endE n) n.sws.length (findI n.lines) i true (LL, bb) = match lk LL (w4, EM) with
          | none => (LL, bb)
          | some r => if r.length < 16 then ((offers (findI n.lines) (w2, w3) r (ends (endE n) n.sws.length) (LL, false)).1, bb || (offers (findI n.lines) (w2, w3) r (ends (endE n) n.sws.length) (LL, false)).2) else (LL, bb) := by
        unfold rstep
        rw [hpt, hqt]
        all_goals (show (match lk LL (w4, EM) with | none => _ | some r => _) = _; cases lk LL (w4, EM) <;> rfl)
      rw [hst]
      cases hl : lk LL (w4, EM) with
      | none =>
        rw [hl] at hlook
        simp only [] at hlook ⊢
        simp only [go_sem, reduceIte, reduceEqDiff, reduceAdd, reduceMul, reduceSub, reduceLeDiff, reduceLT, Nat.reduceBEq, reduceCtorEq, i2, i5, i6, i7, i23, i24, i25, i38, i39, qs1, qi, i02, i12, cast1, cast2, wl01, wl12, d0, d1, d2, d3, d4, d5, hlo1, hlo2, hlook]
        refine ⟨by omega, qs0, fun j h => ?_⟩
        rw [if_neg (by omega), if_neg (by omega), if_neg (by omega), if_neg (by omega)]; exact qO j h
      | some r =>
        rw [hl] at hlook
        obtain ⟨_, σ, s1, s2, s3⟩ := hsv _ _ hl
        have hrl : r.length ≤ 16 := by rw [s2, legsOf_length]; omega
        simp only [rtC] at hlook
        simp only []
        rcases Nat.lt_or_ge r.length 16 with h16 | h16
        case inr =>
          have h16' : ((r.length : Int) < 16) = False := by simp only [eq_iff_iff, iff_false]; omega
          rw [if_neg (by omega)]
          simp only [go_sem, reduceIte, reduceEqDiff, reduceAdd, reduceMul, reduceSub, reduceLeDiff, reduceLT, Nat.reduceBEq, reduceCtorEq, i2, i5, i6, i7, i23, i24, i25, i38, i39, qs1, qi, i02, i12, cast1, cast2, wl01, wl12, d0, d1, d2, d3, d4, d5, hlo1, hlo2, hlook, List.length_map, h16']
          refine ⟨by omega, qs0, fun j h => ?_⟩
          rw [if_neg (by omega), if_neg (by omega), if_neg (by omega), if_neg (by omega)]; exact qO j h
        have h16' : ((r.length : Int) < 16) = True := by simp only [eq_iff_iff, iff_true]; omega
        rw [if_pos h16]
        have hrt : ∀ p ∈ ends (endE n) n.sws.length, wrapq .i64 (Int.add (wSum r) (legW ⟨p.1, w3, p.2⟩)) = wSum (r ++ [⟨p.1, w3, p.2⟩]) := by
          rw [s2]
          exact sum_ok hRa hRE s1 (by omega) (by have := hRE i (!true) (by omega); rw [hqt] at this; exact this) (by have := hRE i true (by omega); rw [hpt] at this; exact this)
        obtain ⟨v3, H3, r1, rfl, r2, r3, r4, r5⟩ := r229 (P := P) h151 h203 h204 n hn hsw (w2, w3) r LL hrl hrt (fun p v h => by obtain ⟨_, τ, t1, t2, t3⟩ := hsv p v h; rw [t2, legsOf_length]; omega)
          lo H.n (H.n + 3) (H.n + 2) (((((H2.push (.cells [.str [], .int .i64 0, .str [], .int .i64 0] 259)).set H2.n (.cells [.str w4, .int .i64 EM, .str w2, .int .i64 w3] 259)).push (.cells [.ps .nil [], .int .i64 0] 246)).set (H2.n + 1) (.cells [.ps .unk (r.map Leg.row), .int .i64 (wSum r)] 246))) (by omega) (by simp; omega) (by simp; omega) (by simp; omega) (by simp; omega) (by omega) (by omega) (by simp only [go_sem, reduceIte, reduceEqDiff, reduceAdd, reduceMul, reduceSub, reduceLeDiff, reduceLT, Nat.reduceBEq, reduceCtorEq, d0, d1]; exact qs0) (by simp only [go_sem, reduceIte, reduceEqDiff, reduceAdd, reduceMul, reduceSub, reduceLeDiff, reduceLT, Nat.reduceBEq, reduceCtorEq, d2, d3]; exact qs1) (by simp only [go_sem, reduceIte, reduceEqDiff, reduceAdd, reduceMul, reduceSub, reduceLeDiff, reduceLT, Nat.reduceBEq, reduceCtorEq, d4, d5]; exact qi)
        generalize offers (findI n.lines) (w2, w3) r (ends (endE n) n.sws.length) (LL, false) = o at r1 r2 r5 ⊢
        obtain ⟨o1, o2⟩ := o
        simp only at r1 r2 r5
        have r6 : H2.n < H3.n := by simp at r3; omega
        have r7 := r4 H.n (by simp; omega) (by omega)
        have r8 := r4 (H.n + 3) (by simp; omega) (by omega)
        have r9 : ∀ j, j < H.n → H3.get j = H.get j := fun j h => by
          rw [r4 j (by simp; omega) (by omega)]
          simp only [go_sem, reduceIte, reduceEqDiff, reduceAdd, reduceMul, reduceSub, reduceLeDiff, reduceLT, Nat.reduceBEq, reduceCtorEq]
          rw [if_neg (by omega), if_neg (by omega), if_neg (by omega), if_neg (by omega)]; exact qO j h
        have r7 : H3.get H.n = .cells n.cells 40 := by rw [r7]; simp only [go_sem, reduceIte, reduceEqDiff, reduceAdd, reduceMul, reduceSub, reduceLeDiff, reduceLT, Nat.reduceBEq, reduceCtorEq, d0, d1]; exact qs0
        have r8 : H3.get (H.n + 3) = .cells [.map (H.n + 2)] 316 := by rw [r8]; simp only [go_sem, reduceIte, reduceEqDiff, reduceAdd, reduceMul, reduceSub, reduceLeDiff, reduceLT, Nat.reduceBEq, reduceCtorEq, d2, d3]; exact qs1
        cases o2 <;> simp only [go_sem, reduceIte, reduceEqDiff, reduceAdd, reduceMul, reduceSub, reduceLeDiff, reduceLT, Nat.reduceBEq, reduceCtorEq, i2, i5, i6, i7, i23, i24, i25, i38, i39, qs1, qi, i02, i12, cast1, cast2, wl01, wl12, d0, d1, d2, d3, d4, d5, hlo1, hlo2, hlook, List.length_map, h16', en229 h229, r1, ofVal_v, ofVal_H, Bool.or_true, Bool.or_false]
        · exact ⟨by omega, r7, r8, r9, r2⟩
        · exact ⟨by omega, r7, r8, r9, r2⟩
    rintro T H2 M ⟨rfl, i2, i5, i6, i7, i23, i24, i25, i38, i39, qn, qs0, qs1, qO, qi⟩
    have h22 : (((2 : Nat) : Int) < 2) = False := by simp
    simp only [go_sem, reduceIte, reduceEqDiff, reduceAdd, reduceMul, reduceSub, reduceLeDiff, reduceLT, Nat.reduceBEq, reduceCtorEq, i2, i5, i6, i7, i23, i24, i25, i39, h22, hw25]
    exact ⟨qn, qs0, qs1, qO, qi⟩
  · rintro T H1 M ⟨rfl, t2, t5, t6, t7, t23, t24, t25, pn, p0, p3, pO, pL⟩
    simp only [go_sem, reduceIte, reduceEqDiff, reduceAdd, reduceMul, reduceSub, reduceLeDiff, reduceLT, Nat.reduceBEq, reduceCtorEq, t2, t5, t6, t7, t23, t24, t25, Nat.lt_irrefl]
    refine ⟨_, ?_, pn, p0, p3, pO, (rsK n.sws.length 0).1, (rsK n.sws.length 0).2, rfl, pL, hall.valid, better_trans _ hb hall.better, fun h => ?_, rfl⟩
    · cases hbb : (rsK n.sws.length 0).2 with
      | false => simp
      | true =>
        simp only [if_true]
        rcases hall.less with ⟨_, c⟩ | ⟨_, c⟩
        · exact Bool.noConfusion (hbb.symm.trans c)
        · have c' : mu (endE n) n.sws.length (findI n.lines) a (rsK n.sws.length 0).1 < mu (endE n) n.sws.length (findI n.lines) a L := c
          omega
    · obtain ⟨e, _⟩ := hrf h
      rw [e, hre]; exact h
end Go.Sim

/-
Ways: the best of the candidates.
-/
-- INJ Leg.row_iff lgs_iff
namespace Go.Sim
open Go Go.Proofs
set_option maxRecDepth 100000
set_option maxHeartbeats 64000000
variable {P : FuncId → Option (List AV → Option AV)}
def takeW (ix : List Nat → Int) (s : Option (List Leg)) (w : List Leg) : Option (List Leg) := match s with
  | none => some w
  | some v => if wLt ix w v = true then some w else some v
def wayStep (E : Nat → Bool → Pt) (ix : List Nat → Int) (b : Pt) (L : Labs) (i : Nat) (k : Bool) (s : Option (List Leg)) : Option (List Leg) := match lk L (E i k) with
  | none => s
  | some r => if (E i (!k)).1 = b.1 ∧ r.length < 16 then takeW ix s (r ++ [⟨b.1, (E i (!k)).2, b.2⟩]) else s
def wayD (E : Nat → Bool → Pt) (ix : List Nat → Int) (b : Pt) (L : Labs) (i : Nat) (s : Option (List Leg)) : Nat → Option (List Leg)
  | 0 => s
  | 1 => wayStep E ix b L i false s
  | _ => wayStep E ix b L i true (wayStep E ix b L i false s)
def wayR (E : Nat → Bool → Pt) (ix : List Nat → Int) (b : Pt) (L : Labs) (s : Option (List Leg)) : Nat → Option (List Leg)
  | 0 => s
  | n + 1 => wayD E ix b L n (wayR E ix b L s n) 2
def wayS (E : Nat → Bool → Pt) (N : Nat) (ix : List Nat → Int) (a b : Pt) (L : Labs) : Option (List Leg) :=
  wayR E ix b L (if a.1 = b.1 then some [⟨a.1, a.2, b.2⟩] else none) N
def InvW (ix : List Nat → Int) (Q : List Leg → Prop) : Option (List Leg) → Prop
  | none => ∀ v, ¬ Q v
  | some w => Q w ∧ ∀ v, Q v → wLe ix w v
theorem InvW.congr {ix : List Nat → Int} {Q R : List Leg → Prop} {s : Option (List Leg)} (h : InvW ix Q s) (e : ∀ v, Q v ↔ R v) : InvW ix R s := by
  cases s with
  | none => exact fun v hv => h v ((e v).2 hv)
  | some w => exact ⟨(e w).1 h.1, fun v hv => h.2 v ((e v).2 hv)⟩
theorem takeW_inv {ix : List Nat → Int} {Q : List Leg → Prop} {s : Option (List Leg)} (h : InvW ix Q s) (w : List Leg) : InvW ix (fun v => Q v ∨ v = w) (takeW ix s w) := by
  cases s with
  | none =>
    refine ⟨.inr rfl, fun v hv => ?_⟩
    rcases hv with hv | rfl
    · exact absurd hv (h v)
    · exact wLe_refl ix _
  | some u =>
    unfold takeW
    simp only []
    cases hc : wLt ix w u with
    | true =>
      rw [if_pos rfl]
      refine ⟨.inr rfl, fun v hv => ?_⟩
      rcases hv with hv | rfl
      · have h1 : wLt ix v u = false := h.2 v hv
        show wLt ix v w = false
        cases hd : wLt ix v w with
        | false => rfl
        | true => rw [wLt_trans ix hd hc] at h1; cases h1
      · exact wLe_refl ix _
    | false =>
      rw [if_neg (by simp)]
      refine ⟨.inl h.1, fun v hv => ?_⟩
      rcases hv with hv | rfl
      · exact h.2 v hv
      · exact hc
theorem wayStep_inv {E : Nat → Bool → Pt} {ix : List Nat → Int} {b : Pt} {L : Labs} {Q : List Leg → Prop} {s : Option (List Leg)} (i : Nat) (k : Bool) (h : InvW ix Q s) :
    InvW ix (fun v => Q v ∨ ∃ r, lk L (E i k) = some r ∧ (E i (!k)).1 = b.1 ∧ r.length < 16 ∧ v = r ++ [⟨(E i (!k)).1, (E i (!k)).2, b.2⟩]) (wayStep E ix b L i k s) := by
  unfold wayStep
  cases hl : lk L (E i k) with
  | none => exact h.congr fun v => ⟨.inl, fun x => x.elim id fun ⟨r, h1, _⟩ => by cases h1⟩
  | some r =>
    simp only []
    rcases Classical.em ((E i (!k)).1 = b.1 ∧ r.length < 16) with hc | hc
    · rw [if_pos hc]
      refine (takeW_inv h _).congr fun v => or_congr Iff.rfl ⟨fun e => ⟨r, rfl, hc.1, hc.2, by rw [hc.1]; exact e⟩, ?_⟩
      rintro ⟨r', h1, h2, _, h3⟩
      cases h1
      rw [h3, h2]
    · rw [if_neg hc]
      refine h.congr fun v => ⟨.inl, fun x => x.elim id ?_⟩
      rintro ⟨r', h1, h2, h3, _⟩
      cases h1
      exact absurd ⟨h2, h3⟩ hc
theorem wayR_inv {E : Nat → Bool → Pt} {ix : List Nat → Int} {b : Pt} {L : Labs} {Q : List Leg → Prop} {s : Option (List Leg)} (h : InvW ix Q s) : ∀ n,
    InvW ix (fun v => Q v ∨ ∃ i k r, i < n ∧ lk L (E i k) = some r ∧ (E i (!k)).1 = b.1 ∧ r.length < 16 ∧ v = r ++ [⟨(E i (!k)).1, (E i (!k)).2, b.2⟩]) (wayR E ix b L s n)
  | 0 => h.congr fun v => ⟨.inl, fun x => x.elim id fun ⟨i, k, r, h0, _⟩ => absurd h0 (Nat.not_lt_zero _)⟩
  | n + 1 => by
    refine (wayStep_inv (E := E) (L := L) (b := b) n true (wayStep_inv (E := E) (L := L) (b := b) n false (wayR_inv h n))).congr fun v => ⟨?_, ?_⟩
    · rintro (((h | ⟨i, k, r, h0, h1⟩) | ⟨r, h1⟩) | ⟨r, h1⟩)
      · exact .inl h
      · exact .inr ⟨i, k, r, by omega, h1⟩
      · exact .inr ⟨n, false, r, by omega, h1⟩
      · exact .inr ⟨n, true, r, by omega, h1⟩
    · rintro (h | ⟨i, k, r, h0, h1⟩)
      · exact .inl (.inl (.inl h))
      · rcases Nat.lt_or_ge i n with hi | hi
        · exact .inl (.inl (.inr ⟨i, k, r, hi, h1⟩))
        · have : i = n := by omega
          subst this
          cases k with
          | false => exact .inl (.inr ⟨r, h1⟩)
          | true => exact .inr ⟨r, h1⟩
theorem wayS_inv (E : Nat → Bool → Pt) (N : Nat) (ix : List Nat → Int) (a b : Pt) (L : Labs) : InvW ix (candW (E := E) (N := N) (lk L) a b) (wayS E N ix a b L) := by
  have h0 : InvW ix (fun v => a.1 = b.1 ∧ v = legsOf E a [] b) (if a.1 = b.1 then some [⟨a.1, a.2, b.2⟩] else none) := by
    rcases Classical.em (a.1 = b.1) with h | h
    · rw [if_pos h]
      have e : legsOf E a [] b = [⟨a.1, a.2, b.2⟩] := by show [_] = [_]; rw [h]
      exact ⟨⟨h, e.symm⟩, fun v hv => by rw [hv.2, e]; exact wLe_refl ix _⟩
    · rw [if_neg h]
      exact fun v hv => h hv.1
  exact (wayR_inv h0 N).congr fun v => by unfold candW; exact Iff.rfl
theorem wayS_best {E : Nat → Bool → Pt} {N : Nat} {ix : List Nat → Int} {S : List Nat → Prop} (inj : ∀ a b, S a → S b → ix a = ix b → a = b) (hS : ∀ i k, i < N → S (E i k).1) {a b : Pt} {L : Labs} (h : Lab E N ix a (lk L)) (hN : N ≤ 14) (ha : S a.1) :
    match wayS E N ix a b L with
    | none => ∀ w, ¬ isWay E N a b w
    | some w => Best E N ix a b w := by
  have hi := wayS_inv E N ix a b L
  cases hw : wayS E N ix a b L with
  | none =>
    rw [hw] at hi
    rintro w ⟨σ, s1, _⟩
    obtain ⟨v, v1, _⟩ := cand_least inj hS h hN ha s1
    exact hi v v1
  | some w =>
    rw [hw] at hi
    exact cand_best inj hS h hN ha hi.1 hi.2
/-! ### The closure that takes a candidate -/
def optC (s : Option (List Leg)) : List AV := match s with
  | none => [.ps .nil [], .int .i64 0]
  | some v => [.ps .unk (v.map Leg.row), .int .i64 (wSum v)]
theorem r202 (h203 : P 203 = some p203) (n : Net) (hn : n.Ok) (w : List Leg) (hw : w.length ≤ maxRows) (s : Option (List Leg)) (hs : ∀ v, s = some v → v.length ≤ maxRows)
    (lo bf bn bb : Nat) (H : Heap) (hlf : lo ≤ bf) (hlb : lo ≤ bb) (hloH : lo ≤ H.n) (cf : bf < H.n) (cn : bn < H.n) (cb : bb < H.n) (nfb : bf ≠ bb) (nfn : bf ≠ bn) (nbn : bb ≠ bn) (sf : H.get bf = .cells [.bool s.isSome] 4) (sn : H.get bn = .cells n.cells 40) (sb : H.get bb = .cells (optC s) 246) :
    ∃ v H', R (NC.withPrims P) (.call lo 202 [.agg [.ps .unk (w.map Leg.row), .int .i64 (wSum w)], .ptr bf 0, .ptr bn 0, .ptr bb 0] H) = some (.ofVal v H') ∧ v = .tup [] ∧ H.n ≤ H'.n ∧ H'.get bf = .cells [.bool true] 4 ∧ H'.get bb = .cells (optC (takeW (findI n.lines) s w)) 246 ∧ ∀ j, j < H.n → j ≠ bf → j ≠ bb → H'.get j = H.get j := by
  refine R_of_body (C := NC.withPrims P) (f := 202) (lo := lo) (args := [.agg [.ps .unk (w.map Leg.row), .int .i64 (wSum w)], .ptr bf 0, .ptr bn 0, .ptr bb 0]) (H := H) (fn := Tryz.f202) (Q := fun v H' => v = .tup [] ∧ H.n ≤ H'.n ∧ H'.get bf = .cells [.bool true] 4 ∧ H'.get bb = .cells (optC (takeW (findI n.lines) s w)) 246 ∧ ∀ j, j < H.n → j ≠ bf → j ≠ bb → H'.get j = H.get j) (by kernel_rfl) Tryz.func202 rfl rfl ?_
  have x1 : (bf = H.n) = False := by simp only [eq_iff_iff, iff_false]; omega
  have x2 : (bn = H.n) = False := by simp only [eq_iff_iff, iff_false]; omega
  have x3 : (bb = H.n) = False := by simp only [eq_iff_iff, iff_false]; omega
  have x4 : (bf = bb) = False := by simp [nfb]
  have x5 : (bf = bn) = False := by simp [nfn]
  have x6 : (bb = bn) = False := by simp [nbn]
  have x7 : (bb = bf) = False := by simp [Ne.symm nfb]
  have x8 : (H.n = bf) = False := by simp only [eq_iff_iff, iff_false]; omega
  have x9 : (H.n = bb) = False := by simp only [eq_iff_iff, iff_false]; omega
  have hlo1 : (lo ≤ bf) = True := by simp [hlf]
  have hlo2 : (lo ≤ bb) = True := by simp [hlb]
  have hjn : ∀ j, j < H.n → (j = H.n) = False := fun j h => by simp only [eq_iff_iff, iff_false]; omega
  have hlo3 : (lo ≤ H.n) = True := by simp [hloH]
  cases s with
  | none =>
    simp only [optC, Option.isSome_none] at sf sb
    simp only [takeW, optC]
    generalize w.map Leg.row = WR at *
    generalize wSum w = WS at *
    simp only [go_sem, reduceIte, reduceEqDiff, reduceAdd, reduceMul, reduceSub, reduceLeDiff, reduceLT, Nat.reduceBEq, reduceCtorEq, sf, sb, x1, x2, x3, x4, x5, x6, x7, x8, x9, hlo1, hlo2, hlo3]
    refine ⟨by omega, fun j h1 h2 h3 => ?_⟩
    simp only [hjn j h1, h2, h3, if_false]
  | some v =>
    have e203 := pe203 n w (wSum w) v (wSum v) ⟨hn.lines, hw, hs v rfl⟩
    have hcmp := cmpRt_lt n w v
    generalize cmpRt n w (wSum w) v (wSum v) = C at e203 hcmp
    simp only [optC, Option.isSome_some] at sf sb
    simp only [takeW]
    simp only [Net.cells] at e203 sn
    cases hlt : wLt (findI n.lines) w v with
    | true =>
      have hC : (C < 0) = True := by rw [hlt] at hcmp; simpa using hcmp
      rw [if_pos rfl]
      simp only [optC]
      generalize w.map Leg.row = WR at *
      generalize wSum w = WS at *
      generalize v.map Leg.row = VR at *
      generalize wSum v = VS at *
      simp only [go_sem, reduceIte, reduceEqDiff, reduceAdd, reduceMul, reduceSub, reduceLeDiff, reduceLT, Nat.reduceBEq, reduceCtorEq, sf, sb, sn, x1, x2, x3, x4, x5, x6, x7, x8, x9, hlo1, hlo2, hlo3, Net.cells, en203 h203, e203, hC]
      refine ⟨by omega, fun j h1 h2 h3 => ?_⟩
      simp only [hjn j h1, h2, h3, if_false]
    | false =>
      have hC : (C < 0) = False := by rw [hlt] at hcmp; simpa using hcmp
      rw [if_neg (by simp)]
      simp only [optC]
      generalize w.map Leg.row = WR at *
      generalize wSum w = WS at *
      generalize v.map Leg.row = VR at *
      generalize wSum v = VS at *
      simp only [go_sem, reduceIte, reduceEqDiff, reduceAdd, reduceMul, reduceSub, reduceLeDiff, reduceLT, Nat.reduceBEq, reduceCtorEq, sf, sb, sn, x1, x2, x3, x4, x5, x6, x7, x8, x9, hlo1, hlo2, hlo3, Net.cells, en203 h203, e203, hC]
      refine ⟨by omega, fun j h1 h2 h3 => ?_⟩
      simp only [hjn j h1, if_false]
end Go.Sim

/-
Ways: the best way, by the program.
-/
-- INJ Leg.row_iff lgs_iff
namespace Go.Sim
open Go Go.Proofs
set_option maxRecDepth 100000
set_option maxHeartbeats 64000000
variable {P : FuncId → Option (List AV → Option AV)}
theorem en185 {P : FuncId → Option (List AV → Option AV)} (hP : P 185 = none) {lo : Nat} {args : List AV} {H : Heap} {K : AV → Heap → Prop} : VO (aenter (NC.withPrims P) (R (NC.withPrims P)) lo 185 args H) K = AO (R (NC.withPrims P) (.call H.n 185 args H)) fun o => K o.val o.s.H := by
  refine enter_fresh rfl ?_ (by kernel_rfl) (by kernel_rfl) (by kernel_rfl)
  show (match NC.prim 185 with | some p => some p | none => P 185) = none
  rw [hP]; kernel_rfl
theorem en202 {P : FuncId → Option (List AV → Option AV)} (hP : P 202 = none) {lo : Nat} {args : List AV} {H : Heap} {K : AV → Heap → Prop} : VO (aenter (NC.withPrims P) (R (NC.withPrims P)) lo 202 args H) K = AO (R (NC.withPrims P) (.call lo 202 args H)) fun o => K o.val o.s.H := by
  refine enter_free rfl ?_ (by kernel_rfl) (by kernel_rfl) (by kernel_rfl)
  show (match NC.prim 202 with | some p => some p | none => P 202) = none
  rw [hP]; kernel_rfl
theorem W_assoc {C : Cfg} {lo : Nat} {fid : FuncId} {rnd : Bool} {T : TT AV} {H : Heap} {M : List Nat} {Q : AExit → TT AV → Heap → List Nat → Prop} (a b c : Code) : W C lo fid rnd (.seq a (.seq b c)) T H M Q = W C lo fid rnd (.seq (.seq a b) c) T H M Q := by
  simp only [W_seq]
  refine congrArg (fun q => W C lo fid rnd a T H M q) ?_
  funext e T H M
  cases e <;> first | rfl | (show W C lo fid rnd (.seq b c) T H M Q = _; rw [W_seq]; rfl)
theorem W_cut {C : Cfg} {lo : Nat} {fid : FuncId} {rnd : Bool} {T : TT AV} {H : Heap} {M : List Nat} {Q : AExit → TT AV → Heap → List Nat → Prop} {a b : Code} (I : TT AV → Heap → List Nat → Prop) (h : W C lo fid rnd a T H M fun e T H M => e = .nrm ∧ I T H M) (h2 : ∀ T H M, I T H M → W C lo fid rnd b T H M Q) : W C lo fid rnd (.seq a b) T H M Q := by
  rw [W_seq]
  refine W_mono h fun e T H M hi => ?_
  rw [hi.1]
  exact h2 T H M hi.2
theorem takeW_len (ix : List Nat → Int) {s : Option (List Leg)} (h : ∀ v, s = some v → v.length ≤ 17) {w : List Leg} (hw : w.length ≤ 17) : ∀ v, takeW ix s w = some v → v.length ≤ 17 := by
  intro v hv
  cases s with
  | none => cases hv; exact hw
  | some u =>
    unfold takeW at hv
    simp only [] at hv
    split at hv
    · cases hv; exact hw
    · cases hv; exact h _ rfl
theorem takeW_some (ix : List Nat → Int) (s : Option (List Leg)) (w : List Leg) : (takeW ix s w).isSome = true := by
  cases s with
  | none => rfl
  | some u =>
    unfold takeW
    simp only []
    split <;> rfl
theorem r142 (h151 : P 151 = some p151) (h203 : P 203 = some p203) (h204 : P 204 = some p204) (h229 : P 229 = none) (h185 : P 185 = none) (h202 : P 202 = none) (n : Net) (hn : n.Ok) (hsw : n.sws.length ≤ maxRows) (a b : Pt) (hRa : inR a.2) (hRb : inR b.2) (hRE : ∀ i k, i < n.sws.length → inR (endE n i k).2) (lo : Nat) (H : Heap) (hlo : lo ≤ H.n) :
    ∃ v H', R (NC.withPrims P) (.call lo 142 [.agg n.cells, .agg [.str a.1, .int .i64 a.2], .agg [.str b.1, .int .i64 b.2]] H) = some (.ofVal v H') ∧ ∃ L, Lab (endE n) n.sws.length (findI n.lines) a (lk L) ∧ v = .tup [.agg (optC (wayS (endE n) n.sws.length (findI n.lines) a b L)), .bool (wayS (endE n) n.sws.length (findI n.lines) a b L).isSome] ∧ (∀ v, wayS (endE n) n.sws.length (findI n.lines) a b L = some v → v.length ≤ 17) ∧ ∀ j, j < H.n → H'.get j = H.get j := by
  refine R_of_body (C := NC.withPrims P) (f := 142) (lo := lo) (args := [.agg n.cells, .agg [.str a.1, .int .i64 a.2], .agg [.str b.1, .int .i64 b.2]]) (H := H) (fn := Tryz.f142) (Q := fun v H' => ∃ L, Lab (endE n) n.sws.length (findI n.lines) a (lk L) ∧ v = .tup [.agg (optC (wayS (endE n) n.sws.length (findI n.lines) a b L)), .bool (wayS (endE n) n.sws.length (findI n.lines) a b L).isSome] ∧ (∀ v, wayS (endE n) n.sws.length (findI n.lines) a b L = some v → v.length ≤ 17) ∧ ∀ j, j < H.n → H'.get j = H.get j) (by kernel_rfl) Tryz.func142 rfl rfl ?_
  obtain ⟨s0, hs0⟩ : ∃ s : Option (List Leg), s = if a.1 = b.1 then some [⟨a.1, a.2, b.2⟩] else none := ⟨_, rfl⟩
  have hs1 : ∀ v, s0 = some v → v.length ≤ 17 := by
    intro v hv
    rw [hs0] at hv
    split at hv
    · cases hv; simp
    · cases hv
  have hwS : ∀ L, wayS (endE n) n.sws.length (findI n.lines) a b L = wayR (endE n) (findI n.lines) b L s0 n.sws.length := fun L => by rw [hs0]; rfl
  rw [W_assoc, W_assoc, W_assoc, W_assoc]
  refine W_cut (fun T Ha M => M = [] ∧ getT T 3 = .ptr H.n 0 ∧ getT T 4 = .ptr (H.n + 1) 0 ∧ getT T 5 = .ptr (H.n + 2) 0 ∧ getT T 6 = .ptr (H.n + 3) 0 ∧ getT T 8 = .ptr (H.n + 4) 0 ∧ getT T 9 = .ptr (H.n + 5) 0 ∧ getT T 10 = .fn 202 [] [.ptr (H.n + 5) 0, .ptr H.n 0, .ptr (H.n + 4) 0] ∧ H.n + 5 < Ha.n ∧ Ha.get H.n = .cells n.cells 40 ∧ Ha.get (H.n + 1) = .cells [.str a.1, .int .i64 a.2] 45 ∧ Ha.get (H.n + 2) = .cells [.str b.1, .int .i64 b.2] 45 ∧ Ha.get (H.n + 4) = .cells (optC s0) 246 ∧ Ha.get (H.n + 5) = .cells [.bool s0.isSome] 4 ∧ Ha.get (H.n + 3) = .cells [.ps .nil [], .int .i64 0] 246 ∧ ∀ j, j < H.n → Ha.get j = H.get j) ?_ ?_
  · have hlo0 : (lo ≤ H.n + 1 + 1 + 1 + 1 + 1) = True := by simp only [eq_iff_iff, iff_true]; omega
    cases hB : beqL a.1 b.1 with
    | false =>
      have hne : ¬ (a.1 = b.1) := fun e => by rw [e, beqL_self] at hB; cases hB
      rw [hs0, if_neg hne]
      simp only [go_sem, reduceIte, reduceEqDiff, reduceAdd, reduceMul, reduceSub, reduceLeDiff, reduceLT, Nat.reduceBEq, reduceCtorEq, hB, hlo0, optC, Net.cells]
      refine ⟨?_, rfl, fun j h => ?_⟩
      · rw [if_neg (by omega), if_neg (by omega)]
      (repeat' rw [if_neg (by omega)])
    | true =>
      have heq : a.1 = b.1 := (beqL_iff _ _).1 hB
      rw [hs0, if_pos heq]
      have e204 := pe204 [] 0 ⟨a.1, a.2, b.2⟩ (by unfold maxRows; simp)
      have h1 : wrapq .i64 (Int.add 0 (legW ⟨a.1, a.2, b.2⟩)) = wSum [⟨a.1, a.2, b.2⟩] := sum_one (w := []) (fun l hl => by cases hl) (by simp) hRa hRb
      rw [h1] at e204
      obtain ⟨v3, H3, r1, rfl, r3, r4, r5, r6⟩ := r202 (P := P) h203 n hn [⟨a.1, a.2, b.2⟩] (by unfold maxRows; simp) none (fun v h => by cases h)
        lo (H.n + 5) H.n (H.n + 4) (((((((H.push (.cells n.cells 40)).push (.cells [.str a.1, .int .i64 a.2] 45)).push (.cells [.str b.1, .int .i64 b.2] 45)).push (.cells [.ps .nil [], .int .i64 0] 246)).push (.cells [.ps .nil [], .int .i64 0] 246)).push (.cells [.bool false] 4)).set (H.n + 5) (.cells [.bool false] 4)) (by omega) (by omega) (by simp; omega) (by simp) (by simp; omega) (by simp) (by omega) (by omega) (by omega) (by simp only [go_sem, reduceIte, reduceEqDiff, reduceAdd, reduceMul, reduceSub, reduceLeDiff, reduceLT, Nat.reduceBEq, reduceCtorEq]; rfl) (by simp only [go_sem, reduceIte, reduceEqDiff, reduceAdd, reduceMul, reduceSub, reduceLeDiff, reduceLT, Nat.reduceBEq, reduceCtorEq]; exact if_neg (by omega)) (by simp only [go_sem, reduceIte, reduceEqDiff, reduceAdd, reduceMul, reduceSub, reduceLeDiff, reduceLT, Nat.reduceBEq, reduceCtorEq]; rfl)
      have h2 : takeW (findI n.lines) none [⟨a.1, a.2, b.2⟩] = some [⟨a.1, a.2, b.2⟩] := rfl
      rw [h2] at r5
      simp only [optC] at r5 ⊢
      generalize wSum [⟨a.1, a.2, b.2⟩] = WS at *
      simp only [Net.cells, List.map_nil, List.map_cons, List.nil_append, Leg.row] at e204 r1 r5 ⊢
      have r7 : ∀ j, j < H.n + 4 → H3.get j = ((((H.push (.cells n.cells 40)).push (.cells [.str a.1, .int .i64 a.2] 45)).push (.cells [.str b.1, .int .i64 b.2] 45)).push (.cells [.ps .nil [], .int .i64 0] 246)).get j := fun j h => by
        rw [r6 j (by simp; omega) (by omega) (by omega)]
        simp only [go_sem, reduceIte, reduceEqDiff, reduceAdd, reduceMul, reduceSub, reduceLeDiff, reduceLT, Nat.reduceBEq, reduceCtorEq]
        rw [if_neg (by omega), if_neg (by omega), if_neg (by omega)]
      have u0 := r7 H.n (by omega)
      have u1 := r7 (H.n + 1) (by omega)
      have u2 := r7 (H.n + 2) (by omega)
      have u4 := r7 (H.n + 3) (by omega)
      have u3 : ∀ j, j < H.n → H3.get j = H.get j := fun j h => (r7 j (by omega)).trans (by simp only [go_sem, reduceIte, reduceEqDiff, reduceAdd, reduceMul, reduceSub, reduceLeDiff, reduceLT, Nat.reduceBEq, reduceCtorEq]; rw [if_neg (by omega), if_neg (by omega), if_neg (by omega), if_neg (by omega)])
      simp only [go_sem, reduceIte, reduceEqDiff, reduceAdd, reduceMul, reduceSub, reduceLeDiff, reduceLT, Nat.reduceBEq, reduceCtorEq, Net.cells] at u0 u1 u2 u4
      simp only [go_sem, reduceIte, reduceEqDiff, reduceAdd, reduceMul, reduceSub, reduceLeDiff, reduceLT, Nat.reduceBEq, reduceCtorEq, hB, hlo0, en204 h204, e204, en202 h202, Net.cells, r1, ofVal_v, ofVal_H]
      exact ⟨by simp at r3; omega, u0, u1, u2, r5, r4, u4, u3⟩
  rintro T Ha M ⟨rfl, t3, t4, t5, t6, t8, t9, t10, hnA, g0, g1, g2, g4, g5, gs3, gA⟩
  obtain ⟨v1, H1, q1, ⟨L, rfl, q2, q3, hLab, hLv, q4⟩⟩ := r185 (P := P) h151 h203 h204 h229 n hn hsw a hRa hRE Ha.n Ha (Nat.le_refl _)
  have hx : H.n + 5 < H1.n := by omega
  have g0 := (q4 H.n (by omega)).trans g0
  have g1' := g1
  have g2 := (q4 (H.n + 2) (by omega)).trans g2
  have g4 := (q4 (H.n + 4) (by omega)).trans g4
  have g5 := (q4 (H.n + 5) (by omega)).trans g5
  have gO : ∀ j, (j < H.n ∨ j = H.n + 3) → H1.get j = Ha.get j := fun j h => q4 j (by omega)
  obtain ⟨id, hid⟩ : ∃ id, id = Ha.n + 2 := ⟨_, rfl⟩
  rw [← hid] at q1 q2 q3
  have hid5 : H.n + 5 < id := by omega
  have g0h : Ha.get H.n = .cells n.cells 40 := by rw [← q4 H.n (by omega)]; exact g0
  have g0' := g0
  simp only [Net.cells] at g0h q1 g0'
  obtain ⟨rsK, hrsK⟩ : ∃ r : Nat → Nat → Option (List Leg), r = fun i k => wayD (endE n) (findI n.lines) b L i (wayR (endE n) (findI n.lines) b L s0 i) k := ⟨_, rfl⟩
  have hr0 : rsK 0 0 = s0 := by rw [hrsK]; rfl
  have hrS : ∀ i, rsK (i + 1) 0 = rsK i 2 := fun i => by rw [hrsK]; rfl
  have hrN : wayR (endE n) (findI n.lines) b L s0 n.sws.length = rsK n.sws.length 0 := by rw [hrsK]; rfl
  clear q4 g1'
  simp only [go_sem, reduceIte, reduceEqDiff, reduceAdd, reduceMul, reduceSub, reduceLeDiff, reduceLT, Nat.reduceBEq, reduceCtorEq, t3, t4, g0h, g1, en185 h185, q1, ofVal_v, ofVal_H, g0']
  refine W_for (fun i T H' M => M = [] ∧ getT T 3 = .ptr H.n 0 ∧ getT T 5 = .ptr (H.n + 2) 0 ∧ getT T 6 = .ptr (H.n + 3) 0 ∧ getT T 8 = .ptr (H.n + 4) 0 ∧ getT T 9 = .ptr (H.n + 5) 0 ∧ getT T 10 = .fn 202 [] [.ptr (H.n + 5) 0, .ptr H.n 0, .ptr (H.n + 4) 0] ∧ getT T 11 = .map id ∧ getT T 40 = .ps .unk (n.sws.map Sw.row) ∧ getT T 41 = i64 (n.sws.length : Nat) ∧ getT T 42 = i64 (i : Nat) ∧ (∀ v, rsK i 0 = some v → v.length ≤ 17) ∧ id < H'.n ∧ H'.get H.n = .cells n.cells 40 ∧ H'.get (H.n + 2) = .cells [.str b.1, .int .i64 b.2] 45 ∧ H'.get (H.n + 4) = .cells (optC (rsK i 0)) 246 ∧ H'.get (H.n + 5) = .cells [.bool (rsK i 0).isSome] 4 ∧ (∀ j, (j < H.n ∨ j = H.n + 3) → H'.get j = Ha.get j) ∧ H'.get id = .map (lmap L)) n.sws.length ?_ ?_ ?_
  · simp only [go_sem, reduceIte, reduceEqDiff, reduceAdd, reduceMul, reduceSub, reduceLeDiff, reduceLT, Nat.reduceBEq, reduceCtorEq, t3, t5, t6, t8, t9, t10, List.length_map, hr0]
    exact ⟨hs1, q2, g0, g2, g4, g5, gO, q3⟩
  · rintro i T H1 M hk ⟨rfl, t3, t5, t6, t8, t9, t10, t11, t40, t41, t42, hsl, pn, p0, p2, p4, p5, pO, pL⟩
    obtain ⟨sw, hsx⟩ : ∃ p, n.sws[i]? = some p := ⟨n.sws[i], by simp⟩
    have hr := map_at (f := Sw.row) hsx
    have hw42 := wrap_succ hk hsw
    have hE : endE n i = fun k => if k then (sw.other, endM n sw) else (sw.line, sw.metre) := by funext k; unfold endE; rw [hsx]
    have e151 := pe151 n sw hn
    have y1 : (H.n = H1.n) = False ∧ (H.n = H1.n + 1) = False := by simp only [eq_iff_iff, iff_false]; omega
    have y2 : (H.n + 2 = H1.n) = False ∧ (H.n + 2 = H1.n + 1) = False := by simp only [eq_iff_iff, iff_false]; omega
    have y3 : (H.n + 4 = H1.n) = False ∧ (H.n + 4 = H1.n + 1) = False := by simp only [eq_iff_iff, iff_false]; omega
    have y4 : (H.n + 5 = H1.n) = False ∧ (H.n + 5 = H1.n + 1) = False := by simp only [eq_iff_iff, iff_false]; omega
    have y5 : (id = H1.n) = False ∧ (id = H1.n + 1) = False := by simp only [eq_iff_iff, iff_false]; omega
    have hlo1 : (lo ≤ H1.n) = True := by simp only [eq_iff_iff, iff_true]; omega
    have hlo2 : (lo ≤ H1.n + 1) = True := by simp only [eq_iff_iff, iff_true]; omega
    rw [hrS]
    generalize endM n sw = EM at e151 hE
    obtain ⟨w1, w2, w3, w4, w5⟩ := sw
    simp only at hE
    have p0' := p0
    simp only [Sw.row, Net.cells] at hr e151 p0'
    simp only [go_sem, reduceIte, reduceEqDiff, reduceAdd, reduceMul, reduceSub, reduceLeDiff, reduceLT, Nat.reduceBEq, reduceCtorEq, t3, t5, t6, t8, t9, t10, t11, t40, t41, t42, List.length_map, hk, hr, p0', y1, y2, hlo1, hlo2, en151 h151, Net.cells, e151, ab259, ab334]
    refine W_for (fun k T H2 M => M = [] ∧ getT T 3 = .ptr H.n 0 ∧ getT T 5 = .ptr (H.n + 2) 0 ∧ getT T 6 = .ptr (H.n + 3) 0 ∧ getT T 8 = .ptr (H.n + 4) 0 ∧ getT T 9 = .ptr (H.n + 5) 0 ∧ getT T 10 = .fn 202 [] [.ptr (H.n + 5) 0, .ptr H.n 0, .ptr (H.n + 4) 0] ∧ getT T 11 = .map id ∧ getT T 40 = .ps .unk (n.sws.map Sw.row) ∧ getT T 41 = i64 (n.sws.length : Nat) ∧ getT T 42 = i64 (i : Nat) ∧ getT T 55 = .agg [.str w2, .int .i64 w3, .str w4, .int .i64 EM, .str w4, .int .i64 EM, .str w2, .int .i64 w3] ∧ getT T 56 = i64 (k : Nat) ∧ (∀ v, rsK i k = some v → v.length ≤ 17) ∧ id < H2.n ∧ H2.get H.n = .cells n.cells 40 ∧ H2.get (H.n + 2) = .cells [.str b.1, .int .i64 b.2] 45 ∧ H2.get (H.n + 4) = .cells (optC (rsK i k)) 246 ∧ H2.get (H.n + 5) = .cells [.bool (rsK i k).isSome] 4 ∧ (∀ j, (j < H.n ∨ j = H.n + 3) → H2.get j = Ha.get j) ∧ H2.get id = .map (lmap L)) 2 ?_ ?_ ?_
    · simp only [go_sem, reduceIte, reduceEqDiff, reduceAdd, reduceMul, reduceSub, reduceLeDiff, reduceLT, Nat.reduceBEq, reduceCtorEq, t3, t5, t6, t8, t9, t10, t11, t40, t41, t42, y1, y2, y3, y4, y5]
      refine ⟨hsl, by omega, p0, p2, p4, p5, fun j h => ?_, pL⟩
      (repeat' rw [if_neg (by omega)]); exact pO j h
    rintro k T H2 M hk2 ⟨rfl, i3, i5, i6, i8, i9, i10, i11, i40, i41, i42, i55, i56, hsl, qn, qs0, qs2, q4, q5, qO, qi⟩
    have d0 : (H.n = H2.n) = False := by simp only [eq_iff_iff, iff_false]; omega
    have d1 : (H.n = H2.n + 1) = False := by simp only [eq_iff_iff, iff_false]; omega
    have d2 : (H.n + 2 = H2.n) = False := by simp only [eq_iff_iff, iff_false]; omega
    have d3 : (H.n + 2 = H2.n + 1) = False := by simp only [eq_iff_iff, iff_false]; omega
    have d4 : (id = H2.n) = False := by simp only [eq_iff_iff, iff_false]; omega
    have d5 : (id = H2.n + 1) = False := by simp only [eq_iff_iff, iff_false]; omega
    have d6 : (H.n + 5 = H2.n) = False := by simp only [eq_iff_iff, iff_false]; omega
    have d7 : (H.n + 5 = H2.n + 1) = False := by simp only [eq_iff_iff, iff_false]; omega
    have d8 : (H.n + 4 = H2.n) = False := by simp only [eq_iff_iff, iff_false]; omega
    have d9 : (H.n + 4 = H2.n + 1) = False := by simp only [eq_iff_iff, iff_false]; omega
    have hlo1 : (lo ≤ H2.n) = True := by simp only [eq_iff_iff, iff_true]; omega
    have hlo2 : (lo ≤ H2.n + 1) = True := by simp only [eq_iff_iff, iff_true]; omega
    have qm := qi
    clear hr0 hrS hrN e151 y1 y2 y3 y4 y5 pO pL p0 p2 p4 p5 hs1
    rcases (show k = 0 ∨ k = 1 by omega) with rfl | rfl
    · -- entered at end 0
      have hw25 : wrapq .i64 (Int.add ((0 : Nat) : Int) 1) = ((0 + 1 : Nat) : Int) := rfl
      have hpt : endE n i false = (w2, w3) := by rw [hE]; rfl
      have hqt : endE n i (!false) = (w4, EM) := by rw [hE]; rfl
      have hrs : rsK i (0 + 1) = wayStep (endE n) (findI n.lines) b L i false (rsK i 0) := by rw [hrsK]; rfl
      rw [hrs]
      generalize rsK i 0 = s at hsl q4 q5 ⊢
      have hlook := lookL (H := ((H2.push (.cells [.str [], .int .i64 0, .str [], .int .i64 0] 259)).set H2.n (.cells [.str w2, .int .i64 w3, .str w4, .int .i64 EM] 259))) (id := id) (L := L) (by simp only [go_sem, reduceIte, reduceEqDiff, reduceAdd, reduceMul, reduceSub, reduceLeDiff, reduceLT, Nat.reduceBEq, reduceCtorEq, d4, d5]; exact qi) (w2, w3)
      have hst : wayStep (endE n) (findI n.lines) b L i false s = match lk L (w2, w3) with
          | none => s
          | some r => if w4 = b.1 ∧ r.length < 16 then takeW (findI n.lines) s (r ++ [⟨b.1, EM, b.2⟩]) else s := by
        unfold wayStep
        rw [hpt, hqt]
        try rfl
      rw [hst]
      cases hl : lk L (w2, w3) with
      | none =>
        rw [hl] at hlook
        simp only [] at hlook ⊢
        simp only [go_sem, reduceIte, reduceEqDiff, reduceAdd, reduceMul, reduceSub, reduceLeDiff, reduceLT, Nat.reduceBEq, reduceCtorEq, i3, i5, i6, i8, i9, i10, i11, i40, i41, i42, i55, i56, qm, qs2, qi, i02, i12, cast1, cast2, wl01, wl12, d0, d1, d2, d3, d4, d5, d6, d7, d8, d9, hlo1, hlo2, hw25, hlook]
        refine ⟨hsl, by omega, qs0, q4, q5, fun j h => ?_⟩
        rw [if_neg (by omega), if_neg (by omega), if_neg (by omega), if_neg (by omega)]; exact qO j h
      | some r =>
        rw [hl] at hlook
        obtain ⟨_, σ, s1, s2, s3⟩ := hLv _ _ hl
        have hrl : r.length ≤ 16 := by rw [s2, legsOf_length]; omega
        simp only [rtC] at hlook
        simp only []
        cases hB : beqL w4 b.1 with
        | false =>
          have hne : ¬ (w4 = b.1) := fun e => by rw [e, beqL_self] at hB; cases hB
          rw [if_neg fun h => hne h.1]
          simp only [go_sem, reduceIte, reduceEqDiff, reduceAdd, reduceMul, reduceSub, reduceLeDiff, reduceLT, Nat.reduceBEq, reduceCtorEq, i3, i5, i6, i8, i9, i10, i11, i40, i41, i42, i55, i56, qm, qs2, qi, i02, i12, cast1, cast2, wl01, wl12, d0, d1, d2, d3, d4, d5, d6, d7, d8, d9, hlo1, hlo2, hw25, hlook, hB]
          refine ⟨hsl, by omega, qs0, q4, q5, fun j h => ?_⟩
          rw [if_neg (by omega), if_neg (by omega), if_neg (by omega), if_neg (by omega)]; exact qO j h
        | true =>
        have heq : w4 = b.1 := (beqL_iff _ _).1 hB
        rcases Nat.lt_or_ge r.length 16 with h16 | h16
        case inr =>
          have h16' : ((r.length : Int) < 16) = False := by simp only [eq_iff_iff, iff_false]; omega
          rw [if_neg fun h => by omega]
          simp only [go_sem, reduceIte, reduceEqDiff, reduceAdd, reduceMul, reduceSub, reduceLeDiff, reduceLT, Nat.reduceBEq, reduceCtorEq, i3, i5, i6, i8, i9, i10, i11, i40, i41, i42, i55, i56, qm, qs2, qi, i02, i12, cast1, cast2, wl01, wl12, d0, d1, d2, d3, d4, d5, d6, d7, d8, d9, hlo1, hlo2, hw25, hlook, List.length_map, h16', hB]
          refine ⟨hsl, by omega, qs0, q4, q5, fun j h => ?_⟩
          rw [if_neg (by omega), if_neg (by omega), if_neg (by omega), if_neg (by omega)]; exact qO j h
        have h16' : ((r.length : Int) < 16) = True := by simp only [eq_iff_iff, iff_true]; omega
        rw [if_pos ⟨heq, h16⟩]
        have hrt : wrapq .i64 (Int.add (wSum r) (legW ⟨b.1, EM, b.2⟩)) = wSum (r ++ [⟨b.1, EM, b.2⟩]) := by
          rw [s2]
          refine sum_one (legsOf_in hRE hRa (by have := hRE i false (by omega); rw [hpt] at this; exact this) s1) (by rw [legsOf_length]; omega) ?_ hRb
          have := hRE i (!false) (by omega)
          rw [hqt] at this; exact this
        have e204 := pe204 r (wSum r) ⟨b.1, EM, b.2⟩ (by unfold maxRows; omega)
        rw [hrt] at e204
        obtain ⟨v3, H3, r1, rfl, r3, r4, r5, r6⟩ := r202 (P := P) h203 n hn (r ++ [⟨b.1, EM, b.2⟩]) (by rw [List.length_append]; unfold maxRows; simp; omega) s (fun v h => by have := hsl v h; unfold maxRows; omega)
          lo (H.n + 5) H.n (H.n + 4) ((((H2.push (.cells [.str [], .int .i64 0, .str [], .int .i64 0] 259)).set H2.n (.cells [.str w2, .int .i64 w3, .str w4, .int .i64 EM] 259)).push (.cells [.ps .nil [], .int .i64 0] 246)).set (H2.n + 1) (.cells [.ps .unk (r.map Leg.row), .int .i64 (wSum r)] 246)) (by omega) (by omega) (by simp; omega) (by simp; omega) (by simp; omega) (by simp; omega) (by omega) (by omega) (by omega) (by simp only [go_sem, reduceIte, reduceEqDiff, reduceAdd, reduceMul, reduceSub, reduceLeDiff, reduceLT, Nat.reduceBEq, reduceCtorEq, d6, d7]; exact q5) (by simp only [go_sem, reduceIte, reduceEqDiff, reduceAdd, reduceMul, reduceSub, reduceLeDiff, reduceLT, Nat.reduceBEq, reduceCtorEq, d0, d1]; exact qs0) (by simp only [go_sem, reduceIte, reduceEqDiff, reduceAdd, reduceMul, reduceSub, reduceLeDiff, reduceLT, Nat.reduceBEq, reduceCtorEq, d8, d9]; exact q4)
        have hol := takeW_len (findI n.lines) hsl (w := r ++ [⟨b.1, EM, b.2⟩]) (by rw [List.length_append]; simp; omega)
        have hom := takeW_some (findI n.lines) s (r ++ [⟨b.1, EM, b.2⟩])
        generalize takeW (findI n.lines) s (r ++ [⟨b.1, EM, b.2⟩]) = o at r5 hol hom ⊢
        generalize (r ++ [(⟨b.1, EM, b.2⟩ : Leg)]).map Leg.row = NR at e204 r1
        generalize wSum (r ++ [⟨b.1, EM, b.2⟩]) = NS at e204 r1
        have r7 : ∀ j, j < H2.n → j ≠ H.n + 4 → j ≠ H.n + 5 → H3.get j = H2.get j := fun j h1 h2 h3 => by
          rw [r6 j (by simp; omega) h3 h2]
          simp only [go_sem, reduceIte, reduceEqDiff, reduceAdd, reduceMul, reduceSub, reduceLeDiff, reduceLT, Nat.reduceBEq, reduceCtorEq]
          rw [if_neg (by omega), if_neg (by omega), if_neg (by omega), if_neg (by omega)]
        have r8 : H2.n < H3.n := by simp at r3; omega
        have u0 := (r7 H.n (by omega) (by omega) (by omega)).trans qs0
        have u1 := (r7 (H.n + 2) (by omega) (by omega) (by omega)).trans qs2
        have u2 := (r7 id (by omega) (by omega) (by omega)).trans qi
        have u3 : ∀ j, (j < H.n ∨ j = H.n + 3) → H3.get j = Ha.get j := fun j h => (r7 j (by omega) (by omega) (by omega)).trans (qO j h)
        clear r7 r6 r3
        simp only [Leg.row] at e204
        simp only [go_sem, reduceIte, reduceEqDiff, reduceAdd, reduceMul, reduceSub, reduceLeDiff, reduceLT, Nat.reduceBEq, reduceCtorEq, i3, i5, i6, i8, i9, i10, i11, i40, i41, i42, i55, i56, qm, qs2, qi, i02, i12, cast1, cast2, wl01, wl12, d0, d1, d2, d3, d4, d5, d6, d7, d8, d9, hlo1, hlo2, hw25, hlook, List.length_map, h16', hB, en204 h204, e204, en202 h202, r1, ofVal_v, ofVal_H]
        exact ⟨hol, by omega, u0, u1, r5, by rw [r4, hom], u3, u2⟩
    · -- entered at end 1
      have hw25 : wrapq .i64 (Int.add ((1 : Nat) : Int) 1) = ((1 + 1 : Nat) : Int) := rfl
      have hpt : endE n i true = (w4, EM) := by rw [hE]; rfl
      have hqt : endE n i (!true) = (w2, w3) := by rw [hE]; rfl
      have hrs : rsK i (1 + 1) = wayStep (endE n) (findI n.lines) b L i true (rsK i 1) := by rw [hrsK]; rfl
      rw [hrs]
      generalize rsK i 1 = s at hsl q4 q5 ⊢
      have hlook := lookL (H := ((H2.push (.cells [.str [], .int .i64 0, .str [], .int .i64 0] 259)).set H2.n (.cells [.str w4, .int .i64 EM, .str w2, .int .i64 w3] 259))) (id := id) (L := L) (by simp only [go_sem, reduceIte, reduceEqDiff, reduceAdd, reduceMul, reduceSub, reduceLeDiff, reduceLT, Nat.reduceBEq, reduceCtorEq, d4, d5]; exact qi) (w4, EM)
      have hst : wayStep (endE n) (findI n.lines) b L i true s = match lk L (w4, EM) with
          | none => s
          | some r => if w2 = b.1 ∧ r.length < 16 then takeW (findI n.lines) s (r ++ [⟨b.1, w3, b.2⟩]) else s := by
        unfold wayStep
        rw [hpt, hqt]
        try rfl
      rw [hst]
      cases hl : lk L (w4, EM) with
      | none =>
        rw [hl] at hlook
        simp only [] at hlook ⊢
        simp only [go_sem, reduceIte, reduceEqDiff, reduceAdd, reduceMul, reduceSub, reduceLeDiff, reduceLT, Nat.reduceBEq, reduceCtorEq, i3, i5, i6, i8, i9, i10, i11, i40, i41, i42, i55, i56, qm, qs2, qi, i02, i12, cast1, cast2, wl01, wl12, d0, d1, d2, d3, d4, d5, d6, d7, d8, d9, hlo1, hlo2, hw25, hlook]
        refine ⟨hsl, by omega, qs0, q4, q5, fun j h => ?_⟩
        rw [if_neg (by omega), if_neg (by omega), if_neg (by omega), if_neg (by omega)]; exact qO j h
      | some r =>
        rw [hl] at hlook
        obtain ⟨_, σ, s1, s2, s3⟩ := hLv _ _ hl
        have hrl : r.length ≤ 16 := by rw [s2, legsOf_length]; omega
        simp only [rtC] at hlook
        simp only []
        cases hB : beqL w2 b.1 with
        | false =>
          have hne : ¬ (w2 = b.1) := fun e => by rw [e, beqL_self] at hB; cases hB
          rw [if_neg fun h => hne h.1]
          simp only [go_sem, reduceIte, reduceEqDiff, reduceAdd, reduceMul, reduceSub, reduceLeDiff, reduceLT, Nat.reduceBEq, reduceCtorEq, i3, i5, i6, i8, i9, i10, i11, i40, i41, i42, i55, i56, qm, qs2, qi, i02, i12, cast1, cast2, wl01, wl12, d0, d1, d2, d3, d4, d5, d6, d7, d8, d9, hlo1, hlo2, hw25, hlook, hB]
          refine ⟨hsl, by omega, qs0, q4, q5, fun j h => ?_⟩
          rw [if_neg (by omega), if_neg (by omega), if_neg (by omega), if_neg (by omega)]; exact qO j h
        | true =>
        have heq : w2 = b.1 := (beqL_iff _ _).1 hB
        rcases Nat.lt_or_ge r.length 16 with h16 | h16
        case inr =>
          have h16' : ((r.length : Int) < 16) = False := by simp only [eq_iff_iff, iff_false]; omega
          rw [if_neg fun h => by omega]
          simp only [go_sem, reduceIte, reduceEqDiff, reduceAdd, reduceMul, reduceSub, reduceLeDiff, reduceLT, Nat.reduceBEq, reduceCtorEq, i3, i5, i6, i8, i9, i10, i11, i40, i41, i42, i55, i56, qm, qs2, qi, i02, i12, cast1, cast2, wl01, wl12, d0, d1, d2, d3, d4, d5, d6, d7, d8, d9, hlo1, hlo2, hw25, hlook, List.length_map, h16', hB]
          refine ⟨hsl, by omega, qs0, q4, q5, fun j h => ?_⟩
          rw [if_neg (by omega), if_neg (by omega), if_neg (by omega), if_neg (by omega)]; exact qO j h
        have h16' : ((r.length : Int) < 16) = True := by simp only [eq_iff_iff, iff_true]; omega
        rw [if_pos ⟨heq, h16⟩]
        have hrt : wrapq .i64 (Int.add (wSum r) (legW ⟨b.1, w3, b.2⟩)) = wSum (r ++ [⟨b.1, w3, b.2⟩]) := by
          rw [s2]
          refine sum_one (legsOf_in hRE hRa (by have := hRE i true (by omega); rw [hpt] at this; exact this) s1) (by rw [legsOf_length]; omega) ?_ hRb
          have := hRE i (!true) (by omega)
          rw [hqt] at this; exact this
        have e204 := pe204 r (wSum r) ⟨b.1, w3, b.2⟩ (by unfold maxRows; omega)
        rw [hrt] at e204
        obtain ⟨v3, H3, r1, rfl, r3, r4, r5, r6⟩ := r202 (P := P) h203 n hn (r ++ [⟨b.1, w3, b.2⟩]) (by rw [List.length_append]; unfold maxRows; simp; omega) s (fun v h => by have := hsl v h; unfold maxRows; omega)
          lo (H.n + 5) H.n (H.n + 4) ((((H2.push (.cells [.str [], .int .i64 0, .str [], .int .i64 0] 259)).set H2.n (.cells [.str w4, .int .i64 EM, .str w2, .int .i64 w3] 259)).push (.cells [.ps .nil [], .int .i64 0] 246)).set (H2.n + 1) (.cells [.ps .unk (r.map Leg.row), .int .i64 (wSum r)] 246)) (by omega) (by omega) (by simp; omega) (by simp; omega) (by simp; omega) (by simp; omega) (by omega) (by omega) (by omega) (by simp only [go_sem, reduceIte, reduceEqDiff, reduceAdd, reduceMul, reduceSub, reduceLeDiff, reduceLT, Nat.reduceBEq, reduceCtorEq, d6, d7]; exact q5) (by simp only [go_sem, reduceIte, reduceEqDiff, reduceAdd, reduceMul, reduceSub, reduceLeDiff, reduceLT, Nat.reduceBEq, reduceCtorEq, d0, d1]; exact qs0) (by simp only [go_sem, reduceIte, reduceEqDiff, reduceAdd, reduceMul, reduceSub, reduceLeDiff, reduceLT, Nat.reduceBEq, reduceCtorEq, d8, d9]; exact q4)
        have hol := takeW_len (findI n.lines) hsl (w := r ++ [⟨b.1, w3, b.2⟩]) (by rw [List.length_append]; simp; omega)
        have hom := takeW_some (findI n.lines) s (r ++ [⟨b.1, w3, b.2⟩])
        generalize takeW (findI n.lines) s (r ++ [⟨b.1, w3, b.2⟩]) = o at r5 hol hom ⊢
        generalize (r ++ [(⟨b.1, w3, b.2⟩ : Leg)]).map Leg.row = NR at e204 r1
        generalize wSum (r ++ [⟨b.1, w3, b.2⟩]) = NS at e204 r1
        have r7 : ∀ j, j < H2.n → j ≠ H.n + 4 → j ≠ H.n + 5 → H3.get j = H2.get j := fun j h1 h2 h3 => by
          rw [r6 j (by simp; omega) h3 h2]
          simp only [go_sem, reduceIte, reduceEqDiff, reduceAdd, reduceMul, reduceSub, reduceLeDiff, reduceLT, Nat.reduceBEq, reduceCtorEq]
          rw [if_neg (by omega), if_neg (by omega), if_neg (by omega), if_neg (by omega)]
        have r8 : H2.n < H3.n := by simp at r3; omega
        have u0 := (r7 H.n (by omega) (by omega) (by omega)).trans qs0
        have u1 := (r7 (H.n + 2) (by omega) (by omega) (by omega)).trans qs2
        have u2 := (r7 id (by omega) (by omega) (by omega)).trans qi
        have u3 : ∀ j, (j < H.n ∨ j = H.n + 3) → H3.get j = Ha.get j := fun j h => (r7 j (by omega) (by omega) (by omega)).trans (qO j h)
        clear r7 r6 r3
        simp only [Leg.row] at e204
        simp only [go_sem, reduceIte, reduceEqDiff, reduceAdd, reduceMul, reduceSub, reduceLeDiff, reduceLT, Nat.reduceBEq, reduceCtorEq, i3, i5, i6, i8, i9, i10, i11, i40, i41, i42, i55, i56, qm, qs2, qi, i02, i12, cast1, cast2, wl01, wl12, d0, d1, d2, d3, d4, d5, d6, d7, d8, d9, hlo1, hlo2, hw25, hlook, List.length_map, h16', hB, en204 h204, e204, en202 h202, r1, ofVal_v, ofVal_H]
        exact ⟨hol, by omega, u0, u1, r5, by rw [r4, hom], u3, u2⟩
    rintro T H2 M ⟨rfl, i3, i5, i6, i8, i9, i10, i11, i40, i41, i42, i55, i56, hsl, qn, qs0, qs2, q4, q5, qO, qi⟩
    have h22 : (((2 : Nat) : Int) < 2) = False := by simp
    simp only [go_sem, reduceIte, reduceEqDiff, reduceAdd, reduceMul, reduceSub, reduceLeDiff, reduceLT, Nat.reduceBEq, reduceCtorEq, i3, i5, i6, i8, i9, i10, i11, i40, i41, i42, i56, h22, hw42]
    exact ⟨hsl, qn, qs0, qs2, q4, q5, qO, qi⟩
  · rintro T H1 M ⟨rfl, t3, t5, t6, t8, t9, t10, t11, t40, t41, t42, hsl, pn, p0, p2, p4, p5, pO, pL⟩
    have hlo3 : (lo ≤ H.n + 3) = True := by simp only [eq_iff_iff, iff_true]; omega
    rw [← hrN] at hsl p4 p5
    generalize hw : wayR (endE n) (findI n.lines) b L s0 n.sws.length = o at hsl p4 p5
    have p3 := (pO (H.n + 3) (.inr rfl)).trans gs3
    have z1 : (H.n + 3 = H.n + 4) = False := by simp only [eq_iff_iff, iff_false]; omega
    have hfin : ∃ L', Lab (endE n) n.sws.length (findI n.lines) a (lk L') ∧ wayS (endE n) n.sws.length (findI n.lines) a b L' = o := ⟨L, hLab, by rw [hwS, hw]⟩
    clear hw hwS hrN hrS hr0 hLab hLv hrsK q1 q2 q3 pL
    obtain ⟨L', k1, k2⟩ := hfin
    have hO : ∀ j, j < H.n → (j = H.n + 3) = False := fun j h => by simp only [eq_iff_iff, iff_false]; omega
    cases o <;> simp only [optC, Option.isSome_some, Option.isSome_none] at p4 p5 <;> simp only [go_sem, reduceIte, reduceEqDiff, reduceAdd, reduceMul, reduceSub, reduceLeDiff, reduceLT, Nat.reduceBEq, reduceCtorEq, t3, t5, t6, t8, t9, t10, t11, t40, t41, t42, Nat.lt_irrefl, p3, p4, p5, hlo3, z1]
    · refine ⟨L', k1, by rw [k2]; rfl, fun v hv => hsl v (by rw [← hv, k2]), fun j h => ?_⟩
      simp only [hO j h, if_false]; exact (pO j (.inl h)).trans (gA j h)
    · refine ⟨L', k1, by rw [k2]; rfl, fun v hv => hsl v (by rw [← hv, k2]), fun j h => ?_⟩
      simp only [hO j h, if_false]; exact (pO j (.inl h)).trans (gA j h)
end Go.Sim

/-
Ways: the places are looked at.
-/
-- INJ Leg.row_iff lgs_iff pts_iff
namespace Go.Sim
open Go Go.Proofs
set_option maxRecDepth 100000
set_option maxHeartbeats 64000000
variable {P : FuncId → Option (List AV → Option AV)}
def ptRow (p : Pt) : List AV := [.str p.1, .int .i64 p.2]
theorem ptRow_inj (p q : Pt) (h : ptRow p = ptRow q) : p = q := by
  obtain ⟨a, b⟩ := p
  obtain ⟨c, d⟩ := q
  simp only [ptRow, List.cons.injEq, AV.str.injEq, AV.int.injEq, true_and, and_true] at h
  rw [h.1, h.2]
theorem pts_iff (p q : List Pt) : p.map ptRow = q.map ptRow ↔ p = q := ⟨fun h => map_inj ptRow_inj h, fun h => by rw [h]⟩
theorem en184 {P : FuncId → Option (List AV → Option AV)} (hP : P 184 = none) {lo : Nat} {args : List AV} {H : Heap} {K : AV → Heap → Prop} : VO (aenter (NC.withPrims P) (R (NC.withPrims P)) lo 184 args H) K = AO (R (NC.withPrims P) (.call H.n 184 args H)) fun o => o.val.strip.pure = true ∧ K o.val.strip H := by
  refine enter_pure rfl ?_ (by kernel_rfl) (by kernel_rfl) (by kernel_rfl)
  show (match NC.prim 184 with | some p => some p | none => P 184) = none
  rw [hP]; kernel_rfl
theorem r184 (h100 : P 100 = some p100) (n : Net) (hn : n.Ok) (m : List Pt) (lo : Nat) (H : Heap) (hlo : lo ≤ H.n) (hl : m.length ≤ maxRows) :
    ∃ t H', R (NC.withPrims P) (.call lo 184 [.ps .unk (m.map ptRow), .fn 100 [.agg n.cells] []] H) = some (.ofVal (.ps t (intRows (m.map fun p => placeP n p.1 p.2))) H') := by
  suffices hh : ∃ v H', R (NC.withPrims P) (.call lo 184 [.ps .unk (m.map ptRow), .fn 100 [.agg n.cells] []] H) = some (.ofVal v H') ∧ ∃ t, v = .ps t (intRows (m.map fun p => placeP n p.1 p.2)) by
    obtain ⟨v, H', h1, t, rfl⟩ := hh; exact ⟨t, H', h1⟩
  refine R_of_body (C := NC.withPrims P) (f := 184) (lo := lo) (args := [.ps .unk (m.map ptRow), .fn 100 [.agg n.cells] []]) (H := H) (fn := Tryz.f184) (Q := fun v H' => ∃ t, v = .ps t (intRows (m.map fun p => placeP n p.1 p.2))) (by kernel_rfl) Tryz.func184 rfl rfl ?_
  have en100 : ∀ {rec lo args H K}, VO (aenter (NC.withPrims P) rec lo 100 args H) K = AO (p100 args) fun v => K v H := enter_prim rfl (by show (match NC.prim 100 with | some p => some p | none => P 100) = _; rw [h100]; kernel_rfl)
  simp only [go_sem, reduceIte, reduceEqDiff, reduceAdd, reduceMul, reduceSub, reduceLeDiff, reduceLT, Nat.reduceBEq, reduceCtorEq]
  refine W_for (fun k T H' M => M = [] ∧ getT T 1 = .fn 100 [.agg n.cells] [] ∧ getT T 8 = .ps .unk (m.map ptRow) ∧ getT T 9 = i64 (m.length : Nat) ∧ getT T 10 = i64 k ∧ Old H.n H H' ∧ ∃ t, getT T 5 = .ps t (intRows ((m.take k).map fun p => placeP n p.1 p.2)) ∧ AppB H.n H' t (intRows ((m.take k).map fun p => placeP n p.1 p.2)) 1 33) m.length ?_ ?_ ?_
  · simp only [go_sem, reduceIte, reduceEqDiff, reduceAdd, reduceMul, reduceSub, reduceLeDiff, reduceLT, Nat.reduceBEq, reduceCtorEq, List.length_map]; exact ⟨Old.refl H, .nil, rfl, .inl ⟨rfl, rfl⟩⟩
  · rintro k T H' M hk ⟨rfl, g1, g8, g9, g10, hO, t, g5, hA⟩
    obtain ⟨x, hx⟩ : ∃ p, m[k]? = some p := ⟨m[k], by simp⟩
    have hr := map_at (f := ptRow) hx
    have hw := wrap_succ hk hl
    have htk : intRows ((m.take (k + 1)).map fun p => placeP n p.1 p.2) = intRows ((m.take k).map fun p => placeP n p.1 p.2) ++ [[i64 (placeP n x.1 x.2)]] := by rw [take_map hx]; simp [intRows]
    have e100 := pe100 (n, x.1, x.2) hn
    have hlo' : lo ≤ H'.n := Nat.le_trans hlo hO.1
    obtain ⟨t', H2, ha, hA2, hn2, hO2, _⟩ := app_b (lo := lo) (hA.new (.cells [.str [], .int .i64 0] 45) (.cells (ptRow x) 45)) (by have := hO.1; simp; omega) hlo (r := [i64 (placeP n x.1 x.2)]) (by simp [intRows]; omega) rfl (by decide) (intRows_all _)
    have hO1 := hO.new (.cells [.str [], .int .i64 0] 45) (.cells (ptRow x) 45)
    obtain ⟨a, b⟩ := x
    simp only [ptRow] at hr ha hO1
    simp only [Net.cells, i64] at e100
    generalize placeP n a b = E at e100 ha htk hA2
    simp only [go_sem, reduceIte, reduceEqDiff, reduceAdd, reduceMul, reduceSub, reduceLeDiff, reduceLT, Nat.reduceBEq, reduceCtorEq, Net.cells, g1, g8, g9, g10, g5, hk, hr, hw, en100, e100, hO1, hlo', appO, isIntT_slice, rowsIn, ha]
    rw [htk]
    exact ⟨(hO.new _ _).trans hO2 |> fun h => ⟨h.1, h.2⟩, t', rfl, hA2⟩
  · rintro T H' M ⟨rfl, g1, g8, g9, g10, hO, t, g5, hA⟩
    simp only [go_sem, reduceIte, reduceEqDiff, reduceAdd, reduceMul, reduceSub, reduceLeDiff, reduceLT, Nat.reduceBEq, reduceCtorEq, g1, g8, g9, g10, g5, Nat.lt_irrefl, List.take_length]
    exact ⟨t, rfl⟩
def placesP (n : Net) (m : List Pt) : Int := if netP n = 0 then firstI (m.map fun p => placeP n p.1 p.2) else netP n
noncomputable def PPF114 : FuncId → Option (List AV → Option AV) := addPrim 111 p111 (addPrim 100 p100 (addPrim 29 p29 (fun _ => none)))
theorem primsF114 : PrimsOk NC PPF114 := primsOk_add (primsOk_add (primsOk_add (primsOk_none) (by kernel_rfl) (by kernel_rfl) pok29) (by kernel_rfl) (by kernel_rfl) pok100) (by kernel_rfl) (by kernel_rfl) pok111
theorem enF114_29 : En PPF114 29 p29 := enter_prim (by rfl) (by kernel_rfl)
theorem enF114_100 : En PPF114 100 p100 := enter_prim (by rfl) (by kernel_rfl)
theorem enF114_111 : En PPF114 111 p111 := enter_prim (by rfl) (by kernel_rfl)
attribute [go_sem ↓] enF114_29 enF114_100 enF114_111
theorem c114 (n : Net) (m : List Pt) (hp : n.Ok ∧ m.length ≤ maxRows) : ∀ lo H, CallOk NC lo 114 [.agg n.cells, .ps .unk (m.map ptRow)] H (i64 (placesP n m)) H := by
  refine contract saneNC primsF114 (fn := Tryz.f114) (by kernel_rfl) Tryz.func114 rfl rfl (by rfl) (by first | rfl | (split <;> first | rfl | (split <;> rfl))) ?_
  obtain ⟨hn, hl⟩ := hp
  have e29 := pe29 n hn
  have e111 := pe111 (m.map fun p => placeP n p.1 p.2) (by simpa using hl)
  obtain ⟨tk, H', hr⟩ := r184 (P := PPF114) rfl n hn m 1 (Heap.empty.push (.cells n.cells 40)) (by simp [empty_n]) hl
  have hsp : placesP n m = if netP n = 0 then firstI (m.map fun p => placeP n p.1 p.2) else netP n := rfl
  rw [hsp]
  simp only [Net.cells, i64] at e29 hr e111
  rcases Classical.propComplete (netP n = 0) with z | z
  case inr => simp only [go_sem, reduceIte, reduceEqDiff, reduceAdd, reduceMul, reduceSub, reduceLeDiff, reduceLT, Nat.reduceBEq, reduceCtorEq, Net.cells, e29, z]
  simp only [go_sem, reduceIte, reduceEqDiff, reduceAdd, reduceMul, reduceSub, reduceLeDiff, reduceLT, Nat.reduceBEq, reduceCtorEq, Net.cells, e29, z, en184 (show PPF114 184 = none from rfl), hr, e111]
noncomputable def p114 : List AV → Option AV := primOf (α := (Net) × (List Pt)) (fun x => [.agg x.1.cells, .ps .unk (x.2.map ptRow)]) (fun x => x.1.Ok ∧ x.2.length ≤ maxRows) (fun x => i64 (placesP x.1 x.2))
theorem pok114 : ∀ args v, p114 args = some v → ∀ lo H, CallOk NC lo 114 args H v H := by
  intro args v h
  obtain ⟨x, rfl, hp, rfl⟩ := primOf_inv h
  exact c114 x.1 x.2 hp
theorem pe114 (n : Net) (m : List Pt) (hp : n.Ok ∧ m.length ≤ maxRows) : p114 [.agg n.cells, .ps .unk (m.map ptRow)] = some (.int .i64 (placesP n m)) := primOf_enc (α := (Net) × (List Pt)) (enc := fun x => [.agg x.1.cells, .ps .unk (x.2.map ptRow)]) (pre := fun x => x.1.Ok ∧ x.2.length ≤ maxRows) (spec := fun x => i64 (placesP x.1 x.2)) (by intro x y h; (simp only [List.cons.injEq, AV.agg.injEq, AV.str.injEq, AV.int.injEq, AV.ps.injEq, AV.bool.injEq, Net.cells_iff, Ln.row_iff, Pc.row_iff, Mv.row_iff, lns_iff, pcs_iff, mvs_iff, Leg.row_iff, lgs_iff, pts_iff, true_and, and_true] at h; first | simpa only [Prod.ext_iff] using h | simpa only [Prod.ext_iff, and_assoc] using h)) (n, m) hp
end Go.Sim

/-
Branches, by the program.
-/
-- INJ Sw.row_iff Br.row_iff
namespace Go.Sim
open Go Go.Proofs
set_option maxRecDepth 100000
set_option maxHeartbeats 16000000
variable {P : FuncId → Option (List AV → Option AV)}
theorem net_sws {n : Net} (h : netP n = 0) : n.sws.length ≤ 8 := by
  rw [net_same] at h
  unfold netR at h
  by_cases h1 : (8 : Int) < n.lines.length
  · simp [h1] at h
  · simp only [h1, if_false] at h
    split at h
    · by_cases h2 : (8 : Int) < n.sws.length
      · simp [h2] at h
      · omega
    · rename_i h3; exact absurd h h3
end Go.Sim

/-
Ways: what a valid network holds to.
-/
namespace Go.Sim
open Go Go.Proofs
set_option maxRecDepth 100000
set_option maxHeartbeats 4000000
theorem firstI_mem0 : ∀ {es : List Int}, firstI es = 0 → ∀ e ∈ es, e = 0
  | [], _, e, he => by cases he
  | x :: r, h, e, he => by
    have h' : (if x = 0 then firstI r else x) = 0 := h
    by_cases hx : x = 0
    · rw [if_pos hx] at h'
      rcases List.mem_cons.1 he with rfl | he
      · exact hx
      · exact firstI_mem0 h' e he
    · rw [if_neg hx] at h'; exact absurd h' hx
theorem allR_mem0 {f : Nat → Int} {n : Nat} (h : allR f n = 0) : ∀ i, i < n → f i = 0 := fun i hi => firstI_mem0 h _ (List.mem_map.2 ⟨i, List.mem_range.2 hi, rfl⟩)
theorem when_zero {b : Bool} {e : Int} (he : e ≠ 0) (h : whenI b e = 0) : b = false := by
  cases b with
  | false => rfl
  | true => exact absurd h he
theorem netP_parts {n : Net} (h : netP n = 0) : linesP n.lines = 0 ∧ switchesP n = 0 := by
  unfold netP at h
  by_cases hl : linesP n.lines = 0
  · rw [if_pos hl] at h
    exact ⟨hl, firstI_mem0 h _ (by simp)⟩
  · rw [if_neg hl] at h; exact absurd h hl
theorem line_zero {ls : List Ln} (h : linesP ls = 0) : ∀ i l, ls[i]? = some l → dupP ((ls.take i).map Ln.name) l.name = false ∧ 0 < l.ps.length ∧ l.ps.length ≤ 8 ∧ ∀ p ∈ l.ps, 1 ≤ p.len ∧ p.len ≤ 100000 := by
  intro i l hl
  unfold linesP at h
  split at h
  · cases h
  have hi := (List.getElem?_eq_some_iff.1 hl).1
  have h1 := allR_mem0 h i hi
  unfold lineP at h1
  rw [hl] at h1
  simp only [] at h1
  split at h1
  · rename_i h2
    have z := firstI_mem0 h2
    have z1 := when_zero (by decide) (z _ (List.mem_cons_of_mem _ (List.mem_cons_self ..)))
    have z2 := when_zero (by decide) (z _ (List.mem_cons_of_mem _ (List.mem_cons_of_mem _ (List.mem_cons_self ..))))
    have z3 := when_zero (by decide) (z _ (List.mem_cons_of_mem _ (List.mem_cons_of_mem _ (List.mem_cons_of_mem _ (List.mem_cons_self ..)))))
    simp only [decide_eq_false_iff_not] at z2 z3
    refine ⟨z1, by omega, by omega, fun p hp => ?_⟩
    have z4 := firstI_mem0 (firstI_mem0 h1 _ (List.mem_map.2 ⟨p, hp, rfl⟩)) (rangeI p.len 1 100000) (by simp)
    have z5 := when_zero (by decide) z4
    simp only [Bool.or_eq_false_iff, decide_eq_false_iff_not] at z5
    omega
  · rename_i h2; exact absurd h1 h2
theorem sumW_le : ∀ {ps : List Pc} {s : Int}, (∀ p ∈ ps, 1 ≤ p.len ∧ p.len ≤ 100000) → 0 ≤ s → s + 100000 * ps.length ≤ 800000 → s + ps.length ≤ sumW ps s ∧ sumW ps s ≤ 800000
  | [], s, _, _, _ => by simp [sumW]; omega
  | p :: r, s, h, h0, h8 => by
    have hp := h p (by simp)
    have hc : ((p :: r).length : Int) = (r.length : Int) + 1 := by simp
    rw [hc] at h8 ⊢
    have e : wrapq .i64 (Int.add s p.len) = s + p.len := wrapq_i64 (by show _ ≤ s + p.len; omega) (by show s + p.len ≤ _; omega)
    show _ ≤ sumW r (wrapq .i64 (Int.add s p.len)) ∧ sumW r (wrapq .i64 (Int.add s p.len)) ≤ _
    rw [e]
    have := sumW_le (ps := r) (s := s + p.len) (fun q hq => h q (by simp [hq])) (by omega) (by omega)
    omega
theorem lnB_some {ls : List Ln} {s : List Nat} (h : lnB ls s = true) : ∃ i l, findL ls s = some i ∧ ls[i]? = some l ∧ l ∈ ls ∧ lnOf ls s = l := by
  unfold lnB at h
  cases hf : findL ls s with
  | none => rw [hf] at h; cases h
  | some i =>
    obtain ⟨l, h1, h2, h3⟩ := findL_at hf
    refine ⟨i, l, rfl, h1, h3, ?_⟩
    unfold lnOf
    rw [hf]
    simp [h1]
theorem len_in {n : Net} (h : netP n = 0) {s : List Nat} (hb : lnB n.lines s = true) : 1 ≤ sumW (lnOf n.lines s).ps 0 ∧ sumW (lnOf n.lines s).ps 0 ≤ 800000 := by
  obtain ⟨i, l, h1, h2, h3, h4⟩ := lnB_some hb
  rw [h4]
  obtain ⟨_, z2, z3, z4⟩ := line_zero (netP_parts h).1 i l h2
  have := sumW_le (ps := l.ps) (s := 0) z4 (by omega) (by omega)
  omega
theorem has_in {n : Net} (h : netP n = 0) {s : List Nat} {m : Int} (hb : lnB n.lines s = true) (hm : hasB (lnOf n.lines s) m = true) : inR m := by
  have := len_in h hb
  unfold hasB at hm
  simp only [Bool.and_eq_true, Bool.not_eq_true', decide_eq_false_iff_not, decide_eq_true_eq] at hm
  exact ⟨by omega, by omega⟩
theorem place_in {n : Net} (h : netP n = 0) {s : List Nat} {m : Int} (hp : placeP n s m = 0) : lnB n.lines s = true ∧ inR m := by
  unfold placeP at hp
  have z1 := when_zero (by decide) (firstI_mem0 hp _ (List.mem_cons_self ..))
  have z2 := when_zero (by decide) (firstI_mem0 hp _ (List.mem_cons_of_mem _ (List.mem_cons_self ..)))
  simp only [Bool.not_eq_false'] at z1 z2
  exact ⟨z1, has_in h z1 z2⟩
theorem sw_zero {n : Net} (h : netP n = 0) : ∀ s ∈ n.sws, lnB n.lines s.line = true ∧ hasB (lnOf n.lines s.line) s.metre = true ∧ lnB n.lines s.other = true ∧ beqL s.line s.other = false := by
  intro s hs
  obtain ⟨i, hi⟩ := List.getElem?_of_mem hs
  have h2 := (netP_parts h).2
  unfold switchesP at h2
  split at h2
  · cases h2
  have h1 := allR_mem0 h2 i (List.getElem?_eq_some_iff.1 hi).1
  unfold switchP at h1
  rw [hi] at h1
  simp only [] at h1
  have z := firstI_mem0 h1
  have z1 := when_zero (by decide) (z (whenI (!lnB n.lines s.line) 10) (by simp))
  have z2 := when_zero (by decide) (z (whenI (!hasB (lnOf n.lines s.line) s.metre) 14) (by simp))
  have z3 := when_zero (by decide) (z (whenI (!lnB n.lines s.other) 10) (by simp))
  have z4 := when_zero (by decide) (z (whenI (beqL s.line s.other) 24) (by simp))
  simp only [Bool.not_eq_false'] at z1 z2 z3
  exact ⟨z1, z2, z3, z4⟩
theorem ends_in {n : Net} (h : netP n = 0) : ∀ i k, i < n.sws.length → lnB n.lines (endE n i k).1 = true ∧ inR (endE n i k).2 := by
  intro i k hi
  obtain ⟨z1, z2, z3, _⟩ := sw_zero h _ (List.getElem_mem hi)
  have e : endE n i k = if k then (n.sws[i].other, endM n n.sws[i]) else (n.sws[i].line, n.sws[i].metre) := by
    unfold endE
    rw [List.getElem?_eq_getElem hi]
  rw [e]
  cases k with
  | false => exact ⟨z1, has_in h z1 z2⟩
  | true =>
    refine ⟨z3, ?_⟩
    have hl := len_in h z3
    show inR (endM n n.sws[i])
    unfold endM
    split
    · have e1 : Int.sub (sumW (lnOf n.lines n.sws[i].other).ps 0) 1 = sumW (lnOf n.lines n.sws[i].other).ps 0 - 1 := rfl
      have e2 : wrapq .i64 (Int.sub (sumW (lnOf n.lines n.sws[i].other).ps 0) 1) = sumW (lnOf n.lines n.sws[i].other).ps 0 - 1 := wrapq_i64 (by rw [e1]; omega) (by rw [e1]; omega)
      rw [e2]; exact ⟨by omega, by omega⟩
    · exact ⟨by omega, by omega⟩
theorem findI_inj {n : Net} (_ : netP n = 0) : ∀ a b, lnB n.lines a = true → lnB n.lines b = true → findI n.lines a = findI n.lines b → a = b := by
  intro a b ha hb h
  obtain ⟨i, l, h1, h2, h3, h4⟩ := lnB_some ha
  obtain ⟨j, m, g1, g2, g3, g4⟩ := lnB_some hb
  unfold findI at h
  rw [h1, g1] at h
  have hij : i = j := by simp only [] at h; omega
  subst hij
  rw [h2] at g2; cases g2
  have e1 : beqL l.name a = true := by
    unfold findL at h1
    rw [List.findIdx?_eq_some_iff_getElem] at h1
    obtain ⟨hlt, h5, _⟩ := h1
    rw [(List.getElem?_eq_some_iff.1 h2).2] at h5; exact h5
  have e2 : beqL l.name b = true := by
    unfold findL at g1
    rw [List.findIdx?_eq_some_iff_getElem] at g1
    obtain ⟨hlt, h5, _⟩ := g1
    rw [(List.getElem?_eq_some_iff.1 h2).2] at h5; exact h5
  rw [← (beqL_iff _ _).1 e1, (beqL_iff _ _).1 e2]
/-! ### The best way -/
noncomputable def bestO (n : Net) (a b : Pt) : Option (List Leg) := open Classical in if h : ∃ w, Best (endE n) n.sws.length (findI n.lines) a b w then some h.choose else none
theorem bestO_of {n : Net} (h : netP n = 0) {a b : Pt} (ha : lnB n.lines a.1 = true) {s : Option (List Leg)} (hs : match s with
    | none => ∀ w, ¬ isWay (endE n) n.sws.length a b w
    | some w => Best (endE n) n.sws.length (findI n.lines) a b w) : s = bestO n a b := by
  unfold bestO
  cases s with
  | none =>
    rw [dif_neg]
    rintro ⟨w, hw⟩
    exact hs w hw.way
  | some w =>
    have hex : ∃ w, Best (endE n) n.sws.length (findI n.lines) a b w := ⟨w, hs⟩
    rw [dif_pos hex]
    exact congrArg some (Best.uniq (S := fun s => lnB n.lines s = true) (findI_inj h) (fun i k hi => (ends_in h i k hi).1) ha hs hex.choose_spec)
theorem wayS_bestO {n : Net} (h : netP n = 0) {a b : Pt} (ha : lnB n.lines a.1 = true) {L : Labs} (hL : Lab (endE n) n.sws.length (findI n.lines) a (lk L)) : wayS (endE n) n.sws.length (findI n.lines) a b L = bestO n a b :=
  bestO_of h ha (wayS_best (S := fun s => lnB n.lines s = true) (findI_inj h) (fun i k hi => (ends_in h i k hi).1) hL (by have := net_sws h; omega) ha)
end Go.Sim

/-
Ways, by the reference: all ways that use no switch twice.
-/
namespace Go.Sim
open Go Go.Proofs
set_option maxRecDepth 100000
set_option maxHeartbeats 4000000
section
variable (E : Nat → Bool → Pt) (N : Nat) (b : Pt)
def waysL : Nat → List Leg → Pt → List Bool → List (List Leg)
  | 0, _, _, _ => []
  | n + 1, w, a, used => (if a.1 = b.1 then [w ++ [⟨a.1, a.2, b.2⟩]] else []) ++ (List.range N).flatMap fun i => [false, true].flatMap fun k => if used.getD i true = true ∨ (E i k).1 ≠ a.1 then [] else waysL n (w ++ [⟨a.1, a.2, (E i k).2⟩]) (E i (!k)) (used.set i true)
theorem waysL_sound : ∀ (n : Nat) (w : List Leg) (a : Pt) (used : List Bool) (v : List Leg), v ∈ waysL E N b n w a used → ∃ σ, okS E N a σ b ∧ v = w ++ legsOf E a σ b
  | 0, _, _, _, _, h => by cases h
  | n + 1, w, a, used, v, h => by
    unfold waysL at h
    rcases List.mem_append.1 h with h | h
    · split at h
      · rename_i hab
        rw [List.mem_singleton.1 h]
        exact ⟨[], hab, by show _ = w ++ [_]; rw [hab]⟩
      · cases h
    · obtain ⟨i, hi, h⟩ := List.mem_flatMap.1 h
      obtain ⟨k, _, h⟩ := List.mem_flatMap.1 h
      split at h
      · cases h
      · rename_i hc
        have hE : (E i k).1 = a.1 := Classical.byContradiction fun q => hc (.inr q)
        obtain ⟨σ, s1, rfl⟩ := waysL_sound n _ _ _ _ h
        refine ⟨(i, k) :: σ, ⟨List.mem_range.1 hi, hE, s1⟩, ?_⟩
        rw [List.append_assoc]
        rfl
theorem waysL_all : ∀ (n : Nat) (w : List Leg) (a : Pt) (used : List Bool) (σ : List Stp), okS E N a σ b → (σ.map Prod.fst).Nodup → (∀ s ∈ σ, used.getD s.1 true = false) → σ.length < n → w ++ legsOf E a σ b ∈ waysL E N b n w a used
  | 0, _, _, _, _, _, _, _, h => absurd h (Nat.not_lt_zero _)
  | n + 1, w, a, used, σ, h, hd, hu, hl => by
    unfold waysL
    cases σ with
    | nil =>
      refine List.mem_append.2 (.inl ?_)
      have hab : a.1 = b.1 := h
      rw [if_pos hab]
      refine List.mem_singleton.2 ?_
      show w ++ [_] = _
      rw [hab]
    | cons s r =>
      refine List.mem_append.2 (.inr ?_)
      obtain ⟨i, k⟩ := s
      obtain ⟨h1, h2, h3⟩ := h
      refine List.mem_flatMap.2 ⟨i, List.mem_range.2 h1, List.mem_flatMap.2 ⟨k, by cases k <;> simp, ?_⟩⟩
      have hui := hu (i, k) (by simp)
      simp only at hui
      rw [if_neg (by rintro (q | q); · rw [hui] at q; cases q
                     · exact q h2)]
      have := waysL_all n (w ++ [⟨a.1, a.2, (E i k).2⟩]) (E i (!k)) (used.set i true) r h3 (by simp only [List.map_cons, List.nodup_cons] at hd; exact hd.2) (by
        intro s hs
        have hne : s.1 ≠ i := by
          simp only [List.map_cons, List.nodup_cons] at hd
          intro q
          exact hd.1 (by rw [← q]; exact List.mem_map.2 ⟨s, hs, rfl⟩)
        have := hu s (by simp [hs])
        rw [List.getD_eq_getElem?_getD, List.getElem?_set_ne (Ne.symm hne), ← List.getD_eq_getElem?_getD]; exact this) (by simpa using hl)
      rw [List.append_assoc] at this
      have e : legsOf E a ((i, k) :: r) b = [⟨a.1, a.2, (E i k).2⟩] ++ legsOf E (E i (!k)) r b := by
        show _ :: _ = _ :: _
        first | rfl | rw [h2]; rfl
      rw [e]; exact this
end
theorem fold_inv {ix : List Nat → Int} : ∀ (l : List (List Leg)) {Q : List Leg → Prop} {s : Option (List Leg)}, InvW ix Q s → InvW ix (fun v => Q v ∨ v ∈ l) (l.foldl (takeW ix) s)
  | [], Q, s, h => h.congr fun v => ⟨.inl, fun x => x.elim id fun y => by cases y⟩
  | x :: r, Q, s, h => (fold_inv r (takeW_inv h x)).congr fun v => by
    rw [List.mem_cons]
    exact or_assoc
theorem waysL_best {E : Nat → Bool → Pt} {N : Nat} {ix : List Nat → Int} {S : List Nat → Prop} (inj : ∀ a b, S a → S b → ix a = ix b → a = b) (hS : ∀ i k, i < N → S (E i k).1) {a b : Pt} (ha : S a.1) :
    match (waysL E N b (N + 1) [] a (List.replicate N false)).foldl (takeW ix) none with
    | none => ∀ w, ¬ isWay E N a b w
    | some w => Best E N ix a b w := by
  have hi := fold_inv (ix := ix) (waysL E N b (N + 1) [] a (List.replicate N false)) (Q := fun _ => False) (s := none) (fun v h => h)
  have hall : ∀ σ, okS E N a σ b → ∃ τ, okS E N a τ b ∧ legsOf E a τ b ∈ waysL E N b (N + 1) [] a (List.replicate N false) ∧ wLe ix (legsOf E a τ b) (legsOf E a σ b) := by
    intro σ hσ
    obtain ⟨τ, t1, t2, t3⟩ := cut_all E N σ.length (Nat.le_refl _) hσ
    have hlt : ∀ s ∈ τ, s.1 < N := okS_lt E N t1
    have hlen : τ.length ≤ N := simple_few t1 t2
    refine ⟨τ, t1, ?_, ?_⟩
    · have := waysL_all E N b (N + 1) [] a (List.replicate N false) τ t1 t2 (fun s hs => by rw [List.getD_eq_getElem?_getD, List.getElem?_replicate, if_pos (hlt s hs)]; rfl) (by omega)
      rwa [List.nil_append] at this
    · rcases t3 with rfl | ⟨t3, t4⟩
      · exact wLe_refl ix _
      · exact wLt_le ix (wLt_short ix t4 (by rw [legsOf_length, legsOf_length]; omega))
  cases hw : (waysL E N b (N + 1) [] a (List.replicate N false)).foldl (takeW ix) none with
  | none =>
    rw [hw] at hi
    rintro w ⟨σ, s1, _⟩
    obtain ⟨τ, _, t2, _⟩ := hall σ s1
    exact hi _ (.inr t2)
  | some w =>
    rw [hw] at hi
    obtain ⟨hm, hl⟩ := hi
    have hm := hm.resolve_left id
    obtain ⟨ρ, r1, r2⟩ := waysL_sound E N b _ _ _ _ _ hm
    rw [List.nil_append] at r2
    refine ⟨⟨ρ, r1, r2⟩, fun σ hσ => ?_⟩
    obtain ⟨τ, t1, t2, t3⟩ := hall σ hσ
    refine wLe_trans ix inj ?_ ?_ (hl _ (.inr t2)) t3
    · rw [r2]; exact legsOf_knownL hS ha r1
    · exact legsOf_knownL hS ha t1
end Go.Sim

/-
Ways: the reference's order is the order of ways.
-/
namespace Go.Sim
open Go Go.Proofs
set_option maxRecDepth 100000
set_option maxHeartbeats 4000000
theorem absR_len {l : Leg} (h1 : inR l.fr) (h2 : inR l.to) : absR (wrapq .i64 (Int.sub l.to l.fr)) = l.len ∧ 0 ≤ l.len ∧ l.len ≤ 800000 := by
  obtain ⟨a1, a2⟩ := h1
  obtain ⟨b1, b2⟩ := h2
  have e2 : Int.sub l.to l.fr = l.to - l.fr := rfl
  unfold absR
  rw [e2, wrap_small (x := l.to - l.fr) (by omega) (by omega)]
  have e1 : Int.sub 0 (l.to - l.fr) = 0 - (l.to - l.fr) := rfl
  have e3 : wrapq .i64 (Int.sub 0 (l.to - l.fr)) = 0 - (l.to - l.fr) := by rw [e1]; exact wrap_small (by omega) (by omega)
  rw [e3]
  unfold Leg.len maxI dI
  (repeat' split) <;> omega
theorem sumR_eq : ∀ {w : List Leg} {s : Int}, (∀ l ∈ w, inR l.fr ∧ inR l.to) → 0 ≤ s → s + 800000 * w.length ≤ 1000000000 → sumR w s = s + wSum w
  | [], s, _, _, _ => by simp [sumR, wSum]
  | l :: r, s, h, h0, h8 => by
    obtain ⟨h1, h2⟩ := h l (by simp)
    obtain ⟨e1, e2, e3⟩ := absR_len h1 h2
    have hc : ((l :: r).length : Int) = (r.length : Int) + 1 := by simp
    rw [hc] at h8
    have e : wrapq .i64 (Int.add s l.len) = s + l.len := wrapq_i64 (by show _ ≤ s + l.len; omega) (by show s + l.len ≤ _; omega)
    show sumR r (wrapq .i64 (Int.add s (absR (wrapq .i64 (Int.sub l.to l.fr))))) = s + (l.len + wSum r)
    rw [e1, e, sumR_eq (fun q hq => h q (by simp [hq])) (by omega) (by omega)]
    omega
theorem lexR_eq {n : Net} {S : List Nat → Prop} (inj : ∀ a b, S a → S b → findI n.lines a = findI n.lines b → a = b) : ∀ {a b : List Leg}, knownL S a → knownL S b → lexR n a b = lexLt (findI n.lines) a b
  | [], _, _, _ => by unfold lexR lexLt; rfl
  | _ :: _, [], _, _ => by unfold lexR lexLt; rfl
  | x :: r, y :: t, ha, hb => by
    have ih := lexR_eq inj (a := r) (b := t) (fun l hl => ha l (by simp [hl])) (fun l hl => hb l (by simp [hl]))
    have hx := ha x (by simp)
    have hy := hb y (by simp)
    show (if beqL x.line y.line = true then (if x.fr = y.fr then (if x.to = y.to then lexR n r t else decide (x.to < y.to)) else decide (x.fr < y.fr)) else decide (findI n.lines x.line < findI n.lines y.line)) = (legLt (findI n.lines) x y || (legSame (findI n.lines) x y && lexLt (findI n.lines) r t))
    rw [ih]
    unfold legLt legSame
    by_cases h1 : x.line = y.line
    · rw [if_pos ((beqL_iff _ _).2 h1), h1]
      by_cases h2 : x.fr = y.fr
      · rw [if_pos h2, h2]
        by_cases h3 : x.to = y.to
        · rw [if_pos h3, h3]; simp
        · rw [if_neg h3]; simp [h3]
      · rw [if_neg h2]; simp [h2]
    · have hne : ¬ (findI n.lines x.line = findI n.lines y.line) := fun q => h1 (inj _ _ hx hy q)
      rw [if_neg fun q => h1 ((beqL_iff _ _).1 q)]
      simp [hne]
theorem lessR_eq {n : Net} {S : List Nat → Prop} (inj : ∀ a b, S a → S b → findI n.lines a = findI n.lines b → a = b) {a b : List Leg} (ka : knownL S a) (kb : knownL S b) (ha : ∀ l ∈ a, inR l.fr ∧ inR l.to) (hb : ∀ l ∈ b, inR l.fr ∧ inR l.to) (la : a.length ≤ 100) (lb : b.length ≤ 100) : lessR n a b = wLt (findI n.lines) a b := by
  unfold lessR wLt
  rw [sumR_eq ha (by omega) (by omega), sumR_eq hb (by omega) (by omega), lexR_eq inj ka kb]
  simp only [Int.zero_add]
  by_cases h1 : wSum a = wSum b
  · rw [if_pos h1, h1]
    by_cases h2 : a.length = b.length
    · rw [if_pos h2, h2]; simp
    · rw [if_neg h2]; simp [h2]
  · rw [if_neg h1]; simp [h1]
end Go.Sim

/-
Ways: the reference's least way is the best one.
-/
namespace Go.Sim
open Go Go.Proofs
set_option maxRecDepth 100000
set_option maxHeartbeats 4000000
theorem waysL_len (E : Nat → Bool → Pt) (N : Nat) (b : Pt) : ∀ (n : Nat) (w : List Leg) (a : Pt) (used : List Bool) (v : List Leg), v ∈ waysL E N b n w a used → v.length ≤ w.length + n
  | 0, _, _, _, _, h => by cases h
  | n + 1, w, a, used, v, h => by
    unfold waysL at h
    rcases List.mem_append.1 h with h | h
    · split at h
      · rw [List.mem_singleton.1 h]; simp
      · cases h
    · obtain ⟨i, _, h⟩ := List.mem_flatMap.1 h
      obtain ⟨k, _, h⟩ := List.mem_flatMap.1 h
      split at h
      · cases h
      · have := waysL_len E N b n _ _ _ _ h
        simp only [List.length_append, List.length_cons, List.length_nil] at this
        omega
def takeR (n : Net) (s : Option (List Leg)) (w : List Leg) : Option (List Leg) := match s with
  | none => some w
  | some v => if lessR n w v = true then some w else some v
theorem foldR_eq {n : Net} {G : List Leg → Prop} (hG : ∀ a b, G a → G b → lessR n a b = wLt (findI n.lines) a b) : ∀ (l : List (List Leg)) (s : Option (List Leg)), (∀ v ∈ l, G v) → (∀ v, s = some v → G v) → l.foldl (takeR n) s = l.foldl (takeW (findI n.lines)) s
  | [], _, _, _ => rfl
  | x :: r, s, h, hs => by
    have hx := h x (by simp)
    have e : takeR n s x = takeW (findI n.lines) s x := by
      cases s with
      | none => rfl
      | some v =>
        show (if lessR n x v = true then some x else some v) = if wLt (findI n.lines) x v = true then some x else some v
        rw [hG x v hx (hs v rfl)]
    show r.foldl (takeR n) (takeR n s x) = r.foldl (takeW (findI n.lines)) (takeW (findI n.lines) s x)
    rw [e]
    refine foldR_eq hG r _ (fun v hv => h v (by simp [hv])) fun v hv => ?_
    cases s with
    | none => cases hv; exact hx
    | some u =>
      unfold takeW at hv
      simp only [] at hv
      split at hv
      · cases hv; exact hx
      · cases hv; exact hs _ rfl
theorem waysR_best {n : Net} (h : netP n = 0) {a b : Pt} (ha : lnB n.lines a.1 = true) (hRa : inR a.2) (hRb : inR b.2) : (waysL (endE n) n.sws.length b (n.sws.length + 1) [] a (List.replicate n.sws.length false)).foldl (takeR n) none = bestO n a b := by
  have h8 := net_sws h
  rw [foldR_eq (G := fun v => knownL (fun s => lnB n.lines s = true) v ∧ (∀ l ∈ v, inR l.fr ∧ inR l.to) ∧ v.length ≤ 100) (fun x y hx hy => lessR_eq (findI_inj h) hx.1 hy.1 hx.2.1 hy.2.1 hx.2.2 hy.2.2) _ none ?_ (fun v hv => by cases hv)]
  · exact bestO_of h ha (waysL_best (S := fun s => lnB n.lines s = true) (findI_inj h) (fun i k hi => (ends_in h i k hi).1) ha)
  · intro v hv
    have hl := waysL_len _ _ _ _ _ _ _ _ hv
    obtain ⟨σ, s1, s2⟩ := waysL_sound _ _ _ _ _ _ _ _ hv
    rw [List.nil_append] at s2
    refine ⟨?_, ?_, by simp at hl; omega⟩
    · rw [s2]; exact legsOf_knownL (fun i k hi => (ends_in h i k hi).1) ha s1
    · rw [s2]; exact legsOf_in (fun i k hi => (ends_in h i k hi).2) hRa hRb s1
end Go.Sim

/-
Ways: all ways, by the reference's walk.
-/
-- INJ Leg.row_iff lgs_iff
namespace Go.Sim
open Go Go.Proofs
set_option maxRecDepth 100000
set_option maxHeartbeats 16000000
variable {P : FuncId → Option (List AV → Option AV)}
theorem en147 {P : FuncId → Option (List AV → Option AV)} (hP : P 147 = none) {lo : Nat} {args : List AV} {H : Heap} {K : AV → Heap → Prop} : VO (aenter (NC.withPrims P) (R (NC.withPrims P)) lo 147 args H) K = AO (R (NC.withPrims P) (.call H.n 147 args H)) fun o => o.val.strip.pure = true ∧ K o.val.strip H := by
  refine enter_pure rfl ?_ (by kernel_rfl) (by kernel_rfl) (by kernel_rfl)
  show (match NC.prim 147 with | some p => some p | none => P 147) = none
  rw [hP]; kernel_rfl
def wayRow (w : List Leg) : List AV := [.ps .unk (w.map Leg.row)]
theorem wayRow_len (w : List Leg) : (wayRow w).length = 1 := rfl
/-! ### How many ways -/
theorem flatMap_few {α β : Type} {f : α → List β} {c : Nat} : ∀ {l : List α}, (∀ x ∈ l, (f x).length ≤ c) → (l.flatMap f).length ≤ l.length * c
  | [], _ => by simp
  | x :: r, h => by
    have h1 := h x (by simp)
    have h2 := flatMap_few (l := r) (f := f) (c := c) fun y hy => h y (by simp [hy])
    rw [List.flatMap_cons, List.length_append, List.length_cons, Nat.succ_mul]; omega
section
variable (E : Nat → Bool → Pt) (N : Nat) (b : Pt) (m : Nat) (w : List Leg) (a : Pt) (used : List Bool)
def wayFor (i : Nat) (k : Bool) : List (List Leg) := if used.getD i true = true ∨ (E i k).1 ≠ a.1 then [] else waysL E N b m (w ++ [⟨a.1, a.2, (E i k).2⟩]) (E i (!k)) (used.set i true)
def wayHere : List (List Leg) := if a.1 = b.1 then [w ++ [⟨a.1, a.2, b.2⟩]] else []
def waysTo (i : Nat) : List (List Leg) := wayHere b w a ++ (List.range i).flatMap fun i => [false, true].flatMap fun k => wayFor E N b m w a used i k
def waysK (i : Nat) : Nat → List (List Leg)
  | 0 => waysTo E N b m w a used i
  | 1 => waysTo E N b m w a used i ++ wayFor E N b m w a used i false
  | _ => (waysTo E N b m w a used i ++ wayFor E N b m w a used i false) ++ wayFor E N b m w a used i true
theorem waysL_succ : waysL E N b (m + 1) w a used = waysTo E N b m w a used N := rfl
theorem waysTo_zero : waysTo E N b m w a used 0 = wayHere b w a := by simp [waysTo]
theorem waysTo_succ (i : Nat) : waysTo E N b m w a used (i + 1) = waysK E N b m w a used i 2 := by
  unfold waysTo waysK waysTo
  rw [List.range_succ, List.flatMap_append]
  simp
end
theorem waysL_few {E : Nat → Bool → Pt} {N : Nat} {b : Pt} (hN : N ≤ 4) : ∀ (n : Nat) (w : List Leg) (a : Pt) (used : List Bool), (waysL E N b n w a used).length ≤ 9 ^ n
  | 0, _, _, _ => by simp [waysL]
  | n + 1, w, a, used => by
    rw [waysL_succ]
    unfold waysTo
    rw [List.length_append]
    have h1 : (wayHere b w a).length ≤ 1 := by unfold wayHere; split <;> simp
    have hk : ∀ i k, (wayFor E N b n w a used i k).length ≤ 9 ^ n := fun i k => by
      unfold wayFor
      split
      · simp
      · exact waysL_few hN n _ _ _
    have h2 := flatMap_few (l := List.range N) (c := 2 * 9 ^ n) (f := fun i => [false, true].flatMap fun k => wayFor E N b n w a used i k) (fun i _ => flatMap_few (l := [false, true]) (c := 9 ^ n) (fun k _ => hk i k))
    rw [List.length_range] at h2
    have h3 : N * (2 * 9 ^ n) ≤ 4 * (2 * 9 ^ n) := Nat.mul_le_mul_right _ hN
    have h4 : 0 < 9 ^ n := Nat.pow_pos (by decide)
    rw [Nat.pow_succ]; omega
theorem waysTo_few {E : Nat → Bool → Pt} {N : Nat} {b : Pt} (hN : N ≤ 4) (m : Nat) (w : List Leg) (a : Pt) (used : List Bool) {i : Nat} (hi : i ≤ 4) : (waysTo E N b m w a used i).length ≤ 9 ^ (m + 1) := by
  unfold waysTo
  rw [List.length_append]
  have h1 : (wayHere b w a).length ≤ 1 := by unfold wayHere; split <;> simp
  have hk : ∀ i k, (wayFor E N b m w a used i k).length ≤ 9 ^ m := fun i k => by
    unfold wayFor
    split
    · simp
    · exact waysL_few hN m _ _ _
  have h2 := flatMap_few (l := List.range i) (c := 2 * 9 ^ m) (f := fun i => [false, true].flatMap fun k => wayFor E N b m w a used i k) (fun i _ => flatMap_few (l := [false, true]) (c := 9 ^ m) (fun k _ => hk i k))
  rw [List.length_range] at h2
  have h3 : i * (2 * 9 ^ m) ≤ 4 * (2 * 9 ^ m) := Nat.mul_le_mul_right _ hi
  have h4 : 0 < 9 ^ m := Nat.pow_pos (by decide)
  rw [Nat.pow_succ]; omega
theorem waysK_few {E : Nat → Bool → Pt} {N : Nat} {b : Pt} (hN : N ≤ 4) {m : Nat} (hm : m ≤ 4) (w : List Leg) (a : Pt) (used : List Bool) {i k : Nat} (hi : i < 4) : (waysK E N b m w a used i k).length ≤ 59049 := by
  have h1 := waysTo_few (E := E) (b := b) hN m w a used (i := i + 1) (by omega)
  rw [waysTo_succ] at h1
  have h2 : 9 ^ (m + 1) ≤ 59049 := Nat.le_trans (Nat.pow_le_pow_right (by decide) (Nat.succ_le_succ hm)) (by decide)
  have h3 : (waysK E N b m w a used i 2).length = (waysTo E N b m w a used i).length + (wayFor E N b m w a used i false).length + (wayFor E N b m w a used i true).length := by simp [waysK]; omega
  match k with
  | 0 => show (waysTo E N b m w a used i).length ≤ _; omega
  | 1 => show (waysTo E N b m w a used i ++ wayFor E N b m w a used i false).length ≤ _; rw [List.length_append]; omega
  | k + 2 => show (waysK E N b m w a used i 2).length ≤ _; omega
/-! ### Appending -/
theorem app_bs {b : Nat} {H : Heap} {t : Tok} {rows : List (List AV)} {sz lo : Nat} {e : TypeId} (h : AppB b H t rows sz e) (hb : b ≤ H.n) (hlo : lo ≤ b) {rx : List (List AV)} (h1 : rows.length + rx.length ≤ maxRows) (h2 : rx.all pureRow = true) (h3 : 0 < sz) (h4 : rows.all (fun r => r.length = sz) = true) :
    ∃ t' H', appP lo H sz e (.ps t rows) rx = some (.ps t' (rows ++ rx.map (List.map AV.strip0)), H') ∧ AppB b H' t' (rows ++ rx.map (List.map AV.strip0)) sz e ∧ H.n ≤ H'.n ∧ Old b H H' ∧ (∀ i c u, i < H.n → H.get i = .cells c u → H'.get i = .cells c u) := by
  cases rx with
  | nil => exact ⟨t, H, by simp [appP], by simpa using h, Nat.le_refl _, ⟨hb, fun _ _ => rfl⟩, fun _ _ _ _ h => h⟩
  | cons x r =>
    have hne : rows ++ (x :: r).map (List.map AV.strip0) ≠ [] := by simp
    rcases h with ⟨rfl, rfl⟩ | ⟨j, rfl, h6, hj, h7, h8⟩
    · refine ⟨.tok H.n, H.push (.row [] sz e), app_first (by simp) (by simpa using h1) h2 h3, .inr ⟨H.n, rfl, hne, hb, by simp, by rw [Heap.get_push, if_pos rfl]⟩, by simp, ⟨by simp; omega, fun i hi => by rw [Heap.get_push, if_neg (by omega)]⟩, fun i c u hi hc => ?_⟩
      rw [Heap.get_push, if_neg (by omega)]; exact hc
    · refine ⟨.tok H.n, (H.set j .dead).push (.row [] sz e), app_next (by simp) h1 h2 h3 h4 h8 (by omega) h6, .inr ⟨H.n, rfl, hne, hb, by simp, by rw [Heap.get_push, if_pos (by simp)]⟩, by simp, ⟨by simp; omega, fun i hi => by rw [Heap.get_push, if_neg (by simp; omega), Heap.get_set, if_neg (by omega)]⟩, fun i c u hi hc => ?_⟩
      rw [Heap.get_push, if_neg (by simp; omega), Heap.get_set, if_neg (fun he => by rw [he, h8] at hc; cases hc)]; exact hc
/-! ### Slices of bools -/
def blR (x : Bool) : List AV := [.bool x]
theorem blR_len (x : Bool) : (blR x).length = 1 := rfl
def blF (l : List Bool) : List AV := (l.map blR).flatten
theorem blF_len (l : List Bool) : (blF l).length = l.length * 1 := by unfold blF; rw [fl_len (Even.map blR_len l), List.length_map]
theorem bl_at {l : List Bool} {k : Nat} {p : Bool} (h : l[k]? = some p) : ∃ rest, (blF l).drop (k * 1) = .bool p :: rest ∧ (k * 1 + 1 ≤ (blF l).length) = True := by
  obtain ⟨a, b, h1, h2, _⟩ := fl_split (Even.map blR_len l) (map_at (f := blR) h)
  have h1 : blF l = a ++ blR p ++ b := h1
  have hl : (blF l).length = k * 1 + 1 + b.length := by rw [h1, List.length_append, List.length_append, h2]; rfl
  refine ⟨b, ?_, by simp only [eq_iff_iff, iff_true]; omega⟩
  rw [h1, List.append_assoc, ← h2, List.drop_append]
  simp [blR]
theorem bl_over {l : List Bool} {k : Nat} {p : Bool} (h : l[k]? = some p) (q : Bool) : over (blF l) (k * 1) [.bool q] = blF (l.set k q) := by
  unfold blF
  rw [fl_over (Even.map blR_len l) (map_at (f := blR) h) (v := [.bool q]) rfl, List.map_set]
  rfl
theorem bl_chunks (l : List Bool) : chunks 1 l.length (blF l) = some (l.map blR) := by
  have := chunks_flat (Even.map blR_len l)
  rw [List.length_map] at this
  exact this
theorem bl_take (l : List Bool) : (blF l).take (l.length * 1) = blF l := by rw [← blF_len, List.take_length]
theorem app_used {lo : Nat} {H : Heap} {u : List Bool} (h0 : u ≠ []) (hl : u.length ≤ maxRows) : appR lo H 1 4 (.ps .exact []) (u.map blR) = some (.rs H.n 0 u.length 1 none, H.push (.row (blF u) 1 4)) := by
  cases u with
  | nil => exact absurd rfl h0
  | cons x r =>
    unfold appR
    have h1 : ((x :: r).map blR).all (fun r => r.all AV.one) = true := by
      rw [List.all_eq_true]
      intro y hy
      obtain ⟨z, _, rfl⟩ := List.mem_map.1 hy
      rfl
    have h3 : ([] : List (List AV)).length + ((x :: r).map blR).length = (x :: r).length := by simp
    have h5 : ((x :: r).map blR).flatten = blF (x :: r) := rfl
    simp only [List.map_cons] at h1 h3 h5 ⊢
    simp only [Tok.full, h1, h3, h5, hl, decide_true, List.all_nil, Bool.and_true, if_true, List.nil_append, Bool.true_and, Nat.zero_lt_one]
/-! ### Legs -/
theorem leg_pure : ∀ w : List Leg, (w.map Leg.row).all pureRow = true := by
  intro w
  rw [List.all_eq_true]
  intro y hy
  obtain ⟨z, _, rfl⟩ := List.mem_map.1 hy
  rfl
theorem leg_strip : ∀ w : List Leg, (w.map Leg.row).map (List.map AV.strip0) = w.map Leg.row
  | [] => rfl
  | _ :: r => congrArg _ (leg_strip r)
theorem way_pure : ∀ l : List (List Leg), (l.map wayRow).all pureRow = true := by
  intro w
  rw [List.all_eq_true]
  intro y hy
  obtain ⟨z, _, rfl⟩ := List.mem_map.1 hy
  rfl
theorem way_strip : ∀ l : List (List Leg), (l.map wayRow).map (List.map AV.strip0) = l.map wayRow
  | [] => rfl
  | _ :: r => congrArg _ (way_strip r)
theorem app_exR {lo : Nat} {H : Heap} {sz : Nat} {e : TypeId} {rx : List (List AV)} (h0 : rx ≠ []) (h1 : rx.length ≤ maxRows) (h2 : rx.all pureRow = true) (h3 : 0 < sz) :
    appP lo H sz e (.ps .exact []) rx = some (.ps (.tok H.n) (rx.map (List.map AV.strip0)), H.push (.row [] sz e)) := by
  cases rx with
  | nil => exact absurd rfl h0
  | cons a r =>
    unfold appP
    simp only [List.length_nil, Nat.zero_add, h1, h2, h3, decide_true, Bool.true_and, Bool.and_true, List.all_nil, if_true, List.nil_append]
theorem app_copy {lo : Nat} {H : Heap} {w : List Leg} (h0 : w ≠ []) (hl : w.length ≤ maxRows) : appP lo H 3 141 (.ps .exact []) (w.map Leg.row) = some (.ps (.tok H.n) (w.map Leg.row), H.push (.row [] 3 141)) := by
  rw [app_exR (by simpa using h0) (by simpa using hl) (leg_pure w) (by decide), leg_strip]
theorem app_one {lo : Nat} {H : Heap} (l : Leg) : appP lo H 3 141 (.ps .exact []) [l.row] = some (.ps (.tok H.n) [l.row], H.push (.row [] 3 141)) := app_copy (w := [l]) (by simp) (by unfold maxRows; simp)
theorem app_more {lo : Nat} {H : Heap} {w : List Leg} {k : Nat} (h0 : w ≠ []) (hl : w.length + 1 ≤ maxRows) (hk : H.get k = .row [] 3 141) (hlo : lo ≤ k) (l : Leg) : appP lo H 3 141 (.ps (.tok k) (w.map Leg.row)) [l.row] = some (.ps (.tok H.n) ((w ++ [l]).map Leg.row), (H.set k .dead).push (.row [] 3 141)) := by
  rw [app_next (rx := [l.row]) (by simp) (by simpa using hl) (leg_pure [l]) (by decide) (rows_all Leg.row_len w) hk hlo (by simpa using h0)]
  simp [Leg.row, AV.strip0]
theorem ref147u : (NC.withPrims P).refApp 147 254 = true := by kernel_rfl
theorem ref147l : (NC.withPrims P).refApp 147 138 = false := by kernel_rfl
theorem ref147w : (NC.withPrims P).refApp 147 252 = false := by kernel_rfl
theorem en207 (h : P 207 = some p207) {lo : Nat} {rec : Rec} {args : List AV} {H : Heap} {K : AV → Heap → Prop} : VO (aenter (NC.withPrims P) rec lo 207 args H) K = AO (p207 args) fun v => K v H := enter_prim (by rfl) (known h (by kernel_rfl))
theorem under_rsx (n id off k sz : Nat) (cap : Option Nat) : (AV.rs id off k sz cap).under n = Nat.blt id n := by simp [AV.under]
theorem under_tokx (n k : Nat) (rows : List (List AV)) : (AV.ps (.tok k) rows).under n = Nat.blt k n := by simp [AV.under]
theorem count_set {used : List Bool} {i : Nat} (h : used[i]? = some false) : (used.set i true).count false + 1 = used.count false := by
  induction used generalizing i with
  | nil => cases h
  | cons x r ih =>
    cases i with
    | zero =>
      obtain rfl : x = false := by simpa using h
      simp
    | succ i =>
      have := ih (i := i) (by simpa using h)
      simp only [List.set_cons_succ, List.count_cons]
      omega
theorem AppB.old {b : Nat} {H H' : Heap} {t : Tok} {rows : List (List AV)} {sz : Nat} {e : TypeId} (h : AppB b H t rows sz e) (hn : H.n ≤ H'.n) (ho : ∀ j, j < H.n → H'.get j = H.get j) : AppB b H' t rows sz e := by
  rcases h with h | ⟨j, h1, h2, h3, h4, h5⟩
  · exact .inl h
  · exact .inr ⟨j, h1, h2, h3, by omega, by rw [ho j h4]; exact h5⟩
theorem r147 (h207 : P 207 = some p207) (h147 : P 147 = none) (n : Net) (hn : n.fits) (hlk : ∀ s ∈ n.sws, s.last = true → ∃ i, findL n.lines s.other = some i) (hsw : n.sws.length ≤ 4) (b : Pt) : ∀ (m : Nat), m ≤ 5 → ∀ (w : List Leg) (a : Pt) (used : List Bool) (c : Option Nat) (lo id : Nat) (H : Heap), used.length = n.sws.length → w.length + m ≤ 100 → used.count false < m → lo ≤ H.n → id < H.n → (H.get id = .cells (blF used) 4 ∨ H.get id = .row (blF used) 1 4) →
    ∃ v H', R (NC.withPrims P) (.call lo 147 [.agg n.cells, .ps .unk (w.map Leg.row), .agg [.str a.1, .int .i64 a.2], .agg [.str b.1, .int .i64 b.2], .rs id 0 used.length 1 c] H) = some (.ofVal v H') ∧ v.strip = .ps .unk ((waysL (endE n) n.sws.length b m w a used).map wayRow)
  | 0, _, _, _, _, _, _, _, _, _, _, h, _, _, _ => absurd h (Nat.not_lt_zero _)
  | m + 1, hm5, w, a, used, c, lo, id, H, hu, hl, hc, hlo, hid, hg => by
    refine R_of_body (C := NC.withPrims P) (f := 147) (lo := lo) (args := [.agg n.cells, .ps .unk (w.map Leg.row), .agg [.str a.1, .int .i64 a.2], .agg [.str b.1, .int .i64 b.2], .rs id 0 used.length 1 c]) (H := H) (fn := Tryz.f147) (Q := fun v H' => v.strip = .ps .unk ((waysL (endE n) n.sws.length b (m + 1) w a used).map wayRow)) (by kernel_rfl) Tryz.func147 rfl rfl ?_
    have ih := r147 h207 h147 n hn hlk hsw b m (by omega)
    have hwl : w.length + 1 ≤ maxRows := by unfold maxRows; omega
    have hrw := rows_all Leg.row_len w
    rw [W_assoc, W_assoc]
    refine W_cut (fun T Ha M => M = [] ∧ getT T 1 = .ps .unk (w.map Leg.row) ∧ getT T 4 = .rs id 0 used.length 1 c ∧ getT T 5 = .ptr H.n 0 ∧ getT T 7 = .ptr (H.n + 1) 0 ∧ getT T 8 = .ptr (H.n + 2) 0 ∧ Ha.get H.n = .cells n.cells 26 ∧ Ha.get (H.n + 1) = .cells [.str a.1, .int .i64 a.2] 28 ∧ Ha.get (H.n + 2) = .cells [.str b.1, .int .i64 b.2] 28 ∧ H.n + 2 < Ha.n ∧ (∀ j, j < H.n → Ha.get j = H.get j) ∧ ∃ t, getT T 11 = .ps t ((wayHere b w a).map wayRow) ∧ AppB (H.n + 3) Ha t ((wayHere b w a).map wayRow) 1 138) ?_ ?_
    · have hlo3 : (lo ≤ H.n + 1 + 1 + 1) = True := by simp only [eq_iff_iff, iff_true]; omega
      cases hB : beqL a.1 b.1 with
      | false =>
        have hne : ¬ (a.1 = b.1) := fun e => by rw [e, beqL_self] at hB; cases hB
        have hw0 : wayHere b w a = [] := if_neg hne
        rw [hw0]
        simp only [go_sem, reduceIte, reduceEqDiff, reduceAdd, reduceMul, reduceSub, reduceLeDiff, reduceLT, Nat.reduceBEq, reduceCtorEq, hB, hlo3, Net.cells]
        refine ⟨fun j h => ?_, .nil, rfl, .inl ⟨rfl, rfl⟩⟩
        rw [if_neg (by omega), if_neg (by omega), if_neg (by omega)]
      | true =>
        have heq : a.1 = b.1 := (beqL_iff _ _).1 hB
        have hw0 : wayHere b w a = [w ++ [⟨a.1, a.2, b.2⟩]] := if_pos heq
        rw [hw0]
        have a2 : ∀ lo H r, appP lo H 1 138 (.ps .nil []) [[.ps .unk r]] = some (.ps (.tok H.n) [[.ps .unk r]], H.push (.row [] 1 138)) := fun lo H r =>
          app_first (by simp) (by show 1 ≤ 1073741824; decide) rfl (by decide)
        rcases Classical.em (w = []) with rfl | hw
        · have a1 := fun lo H => app_one (lo := lo) (H := H) ⟨a.1, a.2, b.2⟩
          simp only [Leg.row] at a1
          have a0 : ∀ lo H, appP lo H 3 141 (.ps .exact []) [] = some (.ps .exact [], H) := fun _ _ => rfl
          simp only [go_sem, reduceIte, reduceEqDiff, reduceAdd, reduceMul, reduceSub, reduceLeDiff, reduceLT, Nat.reduceBEq, reduceCtorEq, hB, hlo3, Net.cells, appO, ref147l, ref147w, a0, a1, a2]
          refine ⟨fun j h => ?_, _, rfl, .inr ⟨_, rfl, by simp, by omega, by simp, by rw [Heap.get_push, if_pos (by simp)]⟩⟩
          repeat rw [if_neg (by omega)]
        · have a0 := fun lo H => app_copy (lo := lo) (H := H) hw (by omega)
          have a1 := fun lo H k hk h2 => app_more (lo := lo) (H := H) (k := k) hw hwl hk h2 ⟨a.1, a.2, b.2⟩
          simp only [Leg.row] at a1
          have s5 : (H.n = H.n + 1 + 1 + 1 + 1 + 1) = False := by simp only [eq_iff_iff, iff_false]; omega
          have s51 : (H.n + 1 = H.n + 1 + 1 + 1 + 1 + 1) = False := by simp only [eq_iff_iff, iff_false]; omega
          have s52 : (H.n + 2 = H.n + 1 + 1 + 1 + 1 + 1) = False := by simp only [eq_iff_iff, iff_false]; omega
          have s53 : (H.n + 1 + 1 = H.n + 1 + 1 + 1 + 1 + 1) = False := by simp only [eq_iff_iff, iff_false]; omega
          simp only [go_sem, reduceIte, reduceEqDiff, reduceAdd, reduceMul, reduceSub, reduceLeDiff, reduceLT, Nat.reduceBEq, reduceCtorEq, hB, hlo3, Net.cells, appO, ref147l, ref147w, hrw, a0, a1, a2, s5, s51, s52, s53]
          refine ⟨fun j h => ?_, _, rfl, .inr ⟨_, rfl, by simp, by omega, by simp, by rw [Heap.get_push, if_pos (by simp)]⟩⟩
          repeat rw [if_neg (by omega)]
    rintro T Ha M ⟨rfl, t1, t4, t5, t7, t8, g0, g1, g2, hna, ho, t, t11, hA⟩
    have hNf : n.sws.length ≤ maxRows := by unfold maxRows; omega
    simp only [go_sem, reduceIte, reduceEqDiff, reduceAdd, reduceMul, reduceSub, reduceLeDiff, reduceLT, Nat.reduceBEq, reduceCtorEq, t1, t4, t5, t7, t8, t11]
    refine W_for (fun i T H' M => M = [] ∧ getT T 1 = .ps .unk (w.map Leg.row) ∧ getT T 4 = .rs id 0 used.length 1 c ∧ getT T 5 = .ptr H.n 0 ∧ getT T 7 = .ptr (H.n + 1) 0 ∧ getT T 8 = .ptr (H.n + 2) 0 ∧ getT T 12 = i64 (i : Nat) ∧ H'.get H.n = .cells n.cells 26 ∧ H'.get (H.n + 1) = .cells [.str a.1, .int .i64 a.2] 28 ∧ H'.get (H.n + 2) = .cells [.str b.1, .int .i64 b.2] 28 ∧ H.n + 2 < H'.n ∧ (∀ j, j < H.n → H'.get j = H.get j) ∧ ∃ t, getT T 11 = .ps t ((waysTo (endE n) n.sws.length b m w a used i).map wayRow) ∧ AppB (H.n + 3) H' t ((waysTo (endE n) n.sws.length b m w a used i).map wayRow) 1 138) n.sws.length ?_ ?_ ?_
    · simp only [go_sem, reduceIte, reduceEqDiff, reduceAdd, reduceMul, reduceSub, reduceLeDiff, reduceLT, Nat.reduceBEq, reduceCtorEq, t1, t4, t5, t7, t8, t11, waysTo_zero]
      exact ⟨g0, g1, g2, hna, ho, t, rfl, hA⟩
    · rintro i T H1 M hk ⟨rfl, t1, t4, t5, t7, t8, t12, g0, g1, g2, hn1, ho, t, t11, hA⟩
      obtain ⟨s, hs⟩ : ∃ p, n.sws[i]? = some p := ⟨n.sws[i], by simp⟩
      have hr := map_at (f := Sw.row) hs
      have hw12 := wrap_succ hk hNf
      have e207 := pe207 n s ⟨hn, hlk s (List.mem_of_getElem? hs)⟩
      have hE : endE n i = fun k => if k then (s.other, endM n s) else (s.line, s.metre) := by funext k; unfold endE; rw [hs]
      obtain ⟨u, hus⟩ : ∃ u, used[i]? = some u := ⟨used[i], by simp⟩
      rw [waysTo_succ]
      generalize endM n s = EM at e207 hE
      obtain ⟨w1, w2, w3, w4, w5⟩ := s
      simp only at hE
      have g0' := g0
      simp only [Sw.row, Net.cells, i64] at hr e207 g0'
      have hlo1 : (lo ≤ H1.n) = True := by simp only [eq_iff_iff, iff_true]; omega
      have y1 : (H.n = H1.n) = False ∧ (H.n + 1 = H1.n) = False ∧ (H.n + 2 = H1.n) = False := by simp only [eq_iff_iff, iff_false]; omega
      simp only [go_sem, reduceIte, reduceEqDiff, reduceAdd, reduceMul, reduceSub, reduceLeDiff, reduceLT, Nat.reduceBEq, reduceCtorEq, t1, t4, t5, t7, t8, t12, t11, List.length_map, Int.ofNat_lt, hk, hr, g0', hlo1, en207 h207, e207]
      refine W_for (fun k T H2 M => M = [] ∧ getT T 1 = .ps .unk (w.map Leg.row) ∧ getT T 4 = .rs id 0 used.length 1 c ∧ getT T 5 = .ptr H.n 0 ∧ getT T 7 = .ptr (H.n + 1) 0 ∧ getT T 8 = .ptr (H.n + 2) 0 ∧ getT T 12 = i64 (i : Nat) ∧ getT T 13 = .ptr H1.n 0 ∧ getT T 14 = i64 (k : Nat) ∧ H2.get H.n = .cells n.cells 26 ∧ H2.get (H.n + 1) = .cells [.str a.1, .int .i64 a.2] 28 ∧ H2.get (H.n + 2) = .cells [.str b.1, .int .i64 b.2] 28 ∧ H2.get H1.n = .cells [.str w2, .int .i64 w3, .str w4, .int .i64 EM] 137 ∧ H1.n < H2.n ∧ (∀ j, j < H.n → H2.get j = H.get j) ∧ ∃ t, getT T 11 = .ps t ((waysK (endE n) n.sws.length b m w a used i k).map wayRow) ∧ AppB (H.n + 3) H2 t ((waysK (endE n) n.sws.length b m w a used i k).map wayRow) 1 138) 2 ?_ ?_ ?_
      · simp only [go_sem, reduceIte, reduceEqDiff, reduceAdd, reduceMul, reduceSub, reduceLeDiff, reduceLT, Nat.reduceBEq, reduceCtorEq, t1, t4, t5, t7, t8, t12, t11, y1, g0, g1, g2]
        refine ⟨fun j h => ?_, t, rfl, hA.new _ _⟩
        rw [if_neg (by omega), if_neg (by omega)]
        exact ho j h
      · rintro k T H2 M hk2 ⟨rfl, t1, t4, t5, t7, t8, t12, t13, t14, g0, g1, g2, g3, hn2, ho, t, t11, hA⟩
        have hNe : used ≠ [] := by intro e; rw [e] at hus; cases hus
        obtain ⟨rest, ud, ul⟩ := bl_at hus
        have uo := bl_over hus true
        have ut := bl_take used
        have uc := bl_chunks used
        have ul1 : (used.length * 1 ≤ (blF used).length) = True := by rw [blF_len]; simp
        have hul : used.length ≤ maxRows := by unfold maxRows; omega
        have ea := fun lo H => app_used (lo := lo) (H := H) hNe hul
        have hg2 : H2.get id = .cells (blF used) 4 ∨ H2.get id = .row (blF used) 1 4 := by rw [ho id hid]; exact hg
        have hiu : (i < used.length) = True := by simp only [eq_iff_iff, iff_true]; omega
        simp only [over, List.length_cons, List.length_nil, reduceAdd, Nat.zero_add] at uo
        have d0 : (H.n = H2.n) = False ∧ (H.n = H2.n + 1) = False ∧ (H.n = H2.n + 1 + 1) = False := by simp only [eq_iff_iff, iff_false]; omega
        have d1 : (H.n + 1 = H2.n) = False ∧ (H.n + 1 = H2.n + 1) = False ∧ (H.n + 1 = H2.n + 1 + 1) = False := by simp only [eq_iff_iff, iff_false]; omega
        have d2 : (H.n + 2 = H2.n) = False ∧ (H.n + 2 = H2.n + 1) = False ∧ (H.n + 2 = H2.n + 1 + 1) = False := by simp only [eq_iff_iff, iff_false]; omega
        have d3 : (H1.n = H2.n) = False ∧ (H1.n = H2.n + 1) = False ∧ (H1.n = H2.n + 1 + 1) = False := by simp only [eq_iff_iff, iff_false]; omega
        have hlo2 : (lo ≤ H2.n) = True := by simp only [eq_iff_iff, iff_true]; omega
        have hlo3 : (lo ≤ H2.n + 1) = True := by simp only [eq_iff_iff, iff_true]; omega
        have hlo4 : (lo ≤ H2.n + 1 + 1) = True := by simp only [eq_iff_iff, iff_true]; omega
        have g0' := g0
        simp only [Net.cells] at g0'
        have hwk := waysK_few (E := endE n) (b := b) hsw (m := m) (by omega) w a used (i := i) (k := 2) (by omega)
        clear g0 hw12 e207 hr y1 hlo1
        rcases (show k = 0 ∨ k = 1 by omega) with rfl | rfl
        · rcases hg2 with hblk | hblk
          all_goals
            have hpt : endE n i false = (w2, w3) := by rw [hE]; rfl
            have hqt : endE n i (!false) = (w4, EM) := by rw [hE]; rfl
            have hnext : waysK (endE n) n.sws.length b m w a used i (0 + 1) = waysK (endE n) n.sws.length b m w a used i 0 ++ wayFor (endE n) n.sws.length b m w a used i false := rfl
            have hwfl : (waysK (endE n) n.sws.length b m w a used i 0).length + (wayFor (endE n) n.sws.length b m w a used i false).length ≤ 59049 := by
              have := waysK_few (E := endE n) (b := b) hsw (m := m) (by omega) w a used (i := i) (k := 0 + 1) (by omega)
              rw [hnext, List.length_append] at this; exact this
            have hWF : wayFor (endE n) n.sws.length b m w a used i false = if used.getD i true = true ∨ w2 ≠ a.1 then [] else waysL (endE n) n.sws.length b m (w ++ [⟨a.1, a.2, w3⟩]) (w4, EM) (used.set i true) := by
              unfold wayFor
              rw [hpt, hqt]
            have hug : used.getD i true = u := by rw [List.getD_eq_getElem?_getD, hus]; rfl
            rw [hug] at hWF
            have w14 : wrapq .i64 (Int.add 0 1) = ((0 + 1 : Nat) : Int) := rfl
            have w1k : wrapq .i64 (Int.sub 1 0) = 1 := rfl
            rw [hnext]
            obtain ⟨W0, hW0e⟩ : ∃ W0, W0 = waysK (endE n) n.sws.length b m w a used i 0 := ⟨_, rfl⟩
            have t11' : getT T 11 = .ps t (W0.map wayRow) := by rw [hW0e]; exact t11
            have hA' : AppB (H.n + 3) H2 t (W0.map wayRow) 1 138 := by rw [hW0e]; exact hA
            rw [← hW0e] at hwfl ⊢
            clear hW0e t11 hA
            cases u with
            | true =>
              have hW0 : wayFor (endE n) n.sws.length b m w a used i false = [] := by rw [hWF]; exact if_pos (.inl rfl)
              rw [hW0, List.append_nil]
              simp only [go_sem, reduceIte, reduceEqDiff, reduceAdd, reduceMul, reduceSub, reduceLeDiff, reduceLT, Nat.reduceBEq, reduceCtorEq, t1, t4, t5, t7, t8, t12, t13, t14, t11', i02, i12, cast1, wl01, wl12, hiu, hblk, ud, ul, w14]
              exact ⟨g0', g1, g2, g3, hn2, ho, t, rfl, hA'⟩
            | false =>
            cases hB : beqL w2 a.1 with
            | false =>
              have hne : w2 ≠ a.1 := fun e => by rw [e, beqL_self] at hB; cases hB
              have hW0 : wayFor (endE n) n.sws.length b m w a used i false = [] := by rw [hWF]; exact if_pos (.inr hne)
              rw [hW0, List.append_nil]
              simp only [go_sem, reduceIte, reduceEqDiff, reduceAdd, reduceMul, reduceSub, reduceLeDiff, reduceLT, Nat.reduceBEq, reduceCtorEq, t1, t4, t5, t7, t8, t12, t13, t14, t11', i02, i12, cast1, wl01, wl12, hiu, hblk, ud, ul, w14, g1, g3, hB]
              exact ⟨g0', g2, hn2, ho, t, rfl, hA'⟩
            | true =>
              have heq : w2 = a.1 := (beqL_iff _ _).1 hB
              have hW1 : wayFor (endE n) n.sws.length b m w a used i false = waysL (endE n) n.sws.length b m (w ++ [⟨a.1, a.2, w3⟩]) (w4, EM) (used.set i true) := by rw [hWF]; exact if_neg (fun q => q.elim (fun q => by cases q) (fun q => q heq))
              have hcnt : (used.set i true).count false < m := by
                have := count_set hus
                omega
              have e147 : ∀ {lo' : Nat} {H' : Heap} {K : AV → Heap → Prop}, (H2.n < H'.n) → H'.get H2.n = .row (blF (used.set i true)) 1 4 → VO (aenter (NC.withPrims P) (R (NC.withPrims P)) lo' 147 [.agg n.cells, .ps .unk ((w ++ [(⟨a.1, a.2, w3⟩ : Leg)]).map Leg.row), .agg [.str w4, .int .i64 EM], .agg [.str b.1, .int .i64 b.2], .rs H2.n 0 used.length 1 none] H') K = K (.ps .unk ((wayFor (endE n) n.sws.length b m w a used i false).map wayRow)) H' := by
                intro lo' H' K hx1 hx2
                obtain ⟨v, H3, q1, q2⟩ := ih (w ++ [(⟨a.1, a.2, w3⟩ : Leg)]) (w4, EM) (used.set i true) none H'.n H2.n H' (by rw [List.length_set]; exact hu) (by rw [List.length_append]; simp; omega) hcnt (Nat.le_refl _) hx1 (.inr hx2)
                rw [List.length_set] at q1
                rw [en147 h147, q1, AO_some, ofVal_v, q2, hW1]
                simp only [eq_iff_iff, and_iff_right_iff_imp]
                intro _; rfl
              clear hW1 hWF hcnt
              generalize wayFor (endE n) n.sws.length b m w a used i false = WF at e147 hwfl ⊢
              have hrf := rows_all wayRow_len WF
              have hrl : (W0.map wayRow).length + (WF.map wayRow).length ≤ maxRows := by rw [List.length_map, List.length_map]; unfold maxRows; omega
              have n2 : (H2.n < H2.n + 1 + 1) = True := by simp only [eq_iff_iff, iff_true]; omega
              have n3 : (H2.n < H2.n + 1 + 1 + 1) = True := by simp only [eq_iff_iff, iff_true]; omega
              simp only [Net.cells] at e147
              rcases Classical.em (w = []) with rfl | hw
              · have a0 : ∀ lo H, appP lo H 3 141 (.ps .exact []) [] = some (.ps .exact [], H) := fun _ _ => rfl
                have a1 := fun lo H => app_one (lo := lo) (H := H) ⟨a.1, a.2, w3⟩
                simp only [List.nil_append, List.map_cons, List.map_nil] at e147
                simp only [Leg.row, i64] at a1 e147
                have hold : ∀ j, j < H2.n → (((H2.push (.row (blF used) 1 4)).set H2.n (.row (blF (used.set i true)) 1 4)).push (.row [] 3 141)).get j = H2.get j := fun j h => by rw [Heap.get_push, if_neg (by simp; omega), Heap.get_set, if_neg (by omega), Heap.get_push, if_neg (by omega)]
                obtain ⟨t', H3, ha, hA3, hn3, hO3, hc3⟩ := app_bs (lo := lo) (rx := WF.map wayRow) (hA'.old (H' := ((H2.push (.row (blF used) 1 4)).set H2.n (.row (blF (used.set i true)) 1 4)).push (.row [] 3 141)) (by simp; omega) hold) (by simp; omega) (by omega) hrl (way_pure WF) (by decide) (rows_all wayRow_len W0)
                rw [way_strip] at ha hA3
                generalize h12 : Code.region 12 _ _ = c12
                generalize h13 : Code.region 13 _ _ = c13
                generalize h14 : Code.region 14 _ _ = c14
                generalize h15 : Code.region 15 _ _ = c15
                simp only [go_sem, reduceIte, reduceEqDiff, reduceAdd, reduceMul, reduceSub, reduceLeDiff, reduceLT, Nat.reduceBEq, reduceCtorEq, t1, t4, t5, t7, t8, t12, t13, t14, t11', cast1, hiu, i02, i12, wl01, wl12, hblk, ud, ul, w14, g1, g3, hB]
                rw [← h12]
                simp only [go_sem, reduceIte, reduceEqDiff, reduceAdd, reduceMul, reduceSub, reduceLeDiff, reduceLT, Nat.reduceBEq, reduceCtorEq, t1, t4, t5, t7, t8, t12, t13, t14, t11', cast1, hiu, hblk, ul1, ut, uc, appO, ref147u, ea]
                rw [← h13]
                simp only [go_sem, reduceIte, reduceEqDiff, reduceAdd, reduceMul, reduceSub, reduceLeDiff, reduceLT, Nat.reduceBEq, reduceCtorEq, t1, t4, t5, t7, t8, t12, t13, t14, t11', cast1, hiu, ud, ul, uo, hlo2]
                rw [← h14]
                simp only [go_sem, reduceIte, reduceEqDiff, reduceAdd, reduceMul, reduceSub, reduceLeDiff, reduceLT, Nat.reduceBEq, reduceCtorEq, t1, t4, t5, t7, t8, t12, t13, t14, t11', cast1, hiu, g1, g3, appO, ref147l, hlo2, hlo3, hlo4, d0, d1, d2, d3, a0, a1]
                rw [← h15]
                simp only [go_sem, reduceIte, reduceEqDiff, reduceAdd, reduceMul, reduceSub, reduceLeDiff, reduceLT, Nat.reduceBEq, reduceCtorEq, t1, t4, t5, t7, t8, t12, t13, t14, t11', cast1, hiu, g0', g1, g2, g3, w1k, appO, ref147w, hlo2, hlo3, hlo4, d0, d1, d2, d3, under_rsx, under_tokx, e147, n2, n3, hrf, ha, w14]
                have hn3' : H2.n < H3.n := by simp at hn3; omega
                refine ⟨hc3 _ _ _ (by simp; omega) ((hold _ (by omega)).trans g0'), hc3 _ _ _ (by simp; omega) ((hold _ (by omega)).trans g1), hc3 _ _ _ (by simp; omega) ((hold _ (by omega)).trans g2), hc3 _ _ _ (by simp; omega) ((hold _ (by omega)).trans g3), by omega, fun j h => (hO3.2 j (by omega)).trans ((hold j (by omega)).trans (ho j h)), t', by rw [List.map_append], by rw [List.map_append]; exact hA3⟩
              · have a0 := fun lo H => app_copy (lo := lo) (H := H) hw (by omega)
                have a1 := fun lo H k hk h2 => app_more (lo := lo) (H := H) (k := k) hw hwl hk h2 ⟨a.1, a.2, w3⟩
                simp only [Leg.row, i64] at a1
                have hold : ∀ j, j < H2.n → (((((H2.push (.row (blF used) 1 4)).set H2.n (.row (blF (used.set i true)) 1 4)).push (.row [] 3 141)).set (H2.n + 1) .dead).push (.row [] 3 141)).get j = H2.get j := fun j h => by rw [Heap.get_push, if_neg (by simp; omega), Heap.get_set, if_neg (by omega), Heap.get_push, if_neg (by simp; omega), Heap.get_set, if_neg (by omega), Heap.get_push, if_neg (by omega)]
                obtain ⟨t', H3, ha, hA3, hn3, hO3, hc3⟩ := app_bs (lo := lo) (rx := WF.map wayRow) (hA'.old (H' := ((((H2.push (.row (blF used) 1 4)).set H2.n (.row (blF (used.set i true)) 1 4)).push (.row [] 3 141)).set (H2.n + 1) .dead).push (.row [] 3 141)) (by simp; omega) hold) (by simp; omega) (by omega) hrl (way_pure WF) (by decide) (rows_all wayRow_len W0)
                rw [way_strip] at ha hA3
                generalize h12 : Code.region 12 _ _ = c12
                generalize h13 : Code.region 13 _ _ = c13
                generalize h14 : Code.region 14 _ _ = c14
                generalize h15 : Code.region 15 _ _ = c15
                simp only [go_sem, reduceIte, reduceEqDiff, reduceAdd, reduceMul, reduceSub, reduceLeDiff, reduceLT, Nat.reduceBEq, reduceCtorEq, t1, t4, t5, t7, t8, t12, t13, t14, t11', cast1, hiu, i02, i12, wl01, wl12, hblk, ud, ul, w14, g1, g3, hB]
                rw [← h12]
                simp only [go_sem, reduceIte, reduceEqDiff, reduceAdd, reduceMul, reduceSub, reduceLeDiff, reduceLT, Nat.reduceBEq, reduceCtorEq, t1, t4, t5, t7, t8, t12, t13, t14, t11', cast1, hiu, hblk, ul1, ut, uc, appO, ref147u, ea]
                rw [← h13]
                simp only [go_sem, reduceIte, reduceEqDiff, reduceAdd, reduceMul, reduceSub, reduceLeDiff, reduceLT, Nat.reduceBEq, reduceCtorEq, t1, t4, t5, t7, t8, t12, t13, t14, t11', cast1, hiu, ud, ul, uo, hlo2]
                rw [← h14]
                simp only [go_sem, reduceIte, reduceEqDiff, reduceAdd, reduceMul, reduceSub, reduceLeDiff, reduceLT, Nat.reduceBEq, reduceCtorEq, t1, t4, t5, t7, t8, t12, t13, t14, t11', cast1, hiu, g1, g3, appO, ref147l, hlo2, hlo3, hlo4, d0, d1, d2, d3, hrw, a0, a1]
                rw [← h15]
                simp only [go_sem, reduceIte, reduceEqDiff, reduceAdd, reduceMul, reduceSub, reduceLeDiff, reduceLT, Nat.reduceBEq, reduceCtorEq, t1, t4, t5, t7, t8, t12, t13, t14, t11', cast1, hiu, g0', g1, g2, g3, w1k, appO, ref147w, hlo2, hlo3, hlo4, d0, d1, d2, d3, under_rsx, under_tokx, e147, n3, hrf, ha, w14]
                have hn3' : H2.n < H3.n := by simp at hn3; omega
                refine ⟨hc3 _ _ _ (by simp; omega) ((hold _ (by omega)).trans g0'), hc3 _ _ _ (by simp; omega) ((hold _ (by omega)).trans g1), hc3 _ _ _ (by simp; omega) ((hold _ (by omega)).trans g2), hc3 _ _ _ (by simp; omega) ((hold _ (by omega)).trans g3), by omega, fun j h => (hO3.2 j (by omega)).trans ((hold j (by omega)).trans (ho j h)), t', by rw [List.map_append], by rw [List.map_append]; exact hA3⟩
        · rcases hg2 with hblk | hblk
          all_goals
            have hpt : endE n i true = (w4, EM) := by rw [hE]; rfl
            have hqt : endE n i (!true) = (w2, w3) := by rw [hE]; rfl
            have hnext : waysK (endE n) n.sws.length b m w a used i (1 + 1) = waysK (endE n) n.sws.length b m w a used i 1 ++ wayFor (endE n) n.sws.length b m w a used i true := rfl
            have hwfl : (waysK (endE n) n.sws.length b m w a used i 1).length + (wayFor (endE n) n.sws.length b m w a used i true).length ≤ 59049 := by
              have := waysK_few (E := endE n) (b := b) hsw (m := m) (by omega) w a used (i := i) (k := 1 + 1) (by omega)
              rw [hnext, List.length_append] at this; exact this
            have hWF : wayFor (endE n) n.sws.length b m w a used i true = if used.getD i true = true ∨ w4 ≠ a.1 then [] else waysL (endE n) n.sws.length b m (w ++ [⟨a.1, a.2, EM⟩]) (w2, w3) (used.set i true) := by
              unfold wayFor
              rw [hpt, hqt]
            have hug : used.getD i true = u := by rw [List.getD_eq_getElem?_getD, hus]; rfl
            rw [hug] at hWF
            have w14 : wrapq .i64 (Int.add 1 1) = ((1 + 1 : Nat) : Int) := rfl
            have w1k : wrapq .i64 (Int.sub 1 1) = 0 := rfl
            rw [hnext]
            obtain ⟨W0, hW0e⟩ : ∃ W0, W0 = waysK (endE n) n.sws.length b m w a used i 1 := ⟨_, rfl⟩
            have t11' : getT T 11 = .ps t (W0.map wayRow) := by rw [hW0e]; exact t11
            have hA' : AppB (H.n + 3) H2 t (W0.map wayRow) 1 138 := by rw [hW0e]; exact hA
            rw [← hW0e] at hwfl ⊢
            clear hW0e t11 hA
            cases u with
            | true =>
              have hW0 : wayFor (endE n) n.sws.length b m w a used i true = [] := by rw [hWF]; exact if_pos (.inl rfl)
              rw [hW0, List.append_nil]
              simp only [go_sem, reduceIte, reduceEqDiff, reduceAdd, reduceMul, reduceSub, reduceLeDiff, reduceLT, Nat.reduceBEq, reduceCtorEq, t1, t4, t5, t7, t8, t12, t13, t14, t11', i02, i12, cast1, wl01, wl12, hiu, hblk, ud, ul, w14]
              exact ⟨g0', g1, g2, g3, hn2, ho, t, rfl, hA'⟩
            | false =>
            cases hB : beqL w4 a.1 with
            | false =>
              have hne : w4 ≠ a.1 := fun e => by rw [e, beqL_self] at hB; cases hB
              have hW0 : wayFor (endE n) n.sws.length b m w a used i true = [] := by rw [hWF]; exact if_pos (.inr hne)
              rw [hW0, List.append_nil]
              simp only [go_sem, reduceIte, reduceEqDiff, reduceAdd, reduceMul, reduceSub, reduceLeDiff, reduceLT, Nat.reduceBEq, reduceCtorEq, t1, t4, t5, t7, t8, t12, t13, t14, t11', i02, i12, cast1, wl01, wl12, hiu, hblk, ud, ul, w14, g1, g3, hB]
              exact ⟨g0', g2, hn2, ho, t, rfl, hA'⟩
            | true =>
              have heq : w4 = a.1 := (beqL_iff _ _).1 hB
              have hW1 : wayFor (endE n) n.sws.length b m w a used i true = waysL (endE n) n.sws.length b m (w ++ [⟨a.1, a.2, EM⟩]) (w2, w3) (used.set i true) := by rw [hWF]; exact if_neg (fun q => q.elim (fun q => by cases q) (fun q => q heq))
              have hcnt : (used.set i true).count false < m := by
                have := count_set hus
                omega
              have e147 : ∀ {lo' : Nat} {H' : Heap} {K : AV → Heap → Prop}, (H2.n < H'.n) → H'.get H2.n = .row (blF (used.set i true)) 1 4 → VO (aenter (NC.withPrims P) (R (NC.withPrims P)) lo' 147 [.agg n.cells, .ps .unk ((w ++ [(⟨a.1, a.2, EM⟩ : Leg)]).map Leg.row), .agg [.str w2, .int .i64 w3], .agg [.str b.1, .int .i64 b.2], .rs H2.n 0 used.length 1 none] H') K = K (.ps .unk ((wayFor (endE n) n.sws.length b m w a used i true).map wayRow)) H' := by
                intro lo' H' K hx1 hx2
                obtain ⟨v, H3, q1, q2⟩ := ih (w ++ [(⟨a.1, a.2, EM⟩ : Leg)]) (w2, w3) (used.set i true) none H'.n H2.n H' (by rw [List.length_set]; exact hu) (by rw [List.length_append]; simp; omega) hcnt (Nat.le_refl _) hx1 (.inr hx2)
                rw [List.length_set] at q1
                rw [en147 h147, q1, AO_some, ofVal_v, q2, hW1]
                simp only [eq_iff_iff, and_iff_right_iff_imp]
                intro _; rfl
              clear hW1 hWF hcnt
              generalize wayFor (endE n) n.sws.length b m w a used i true = WF at e147 hwfl ⊢
              have hrf := rows_all wayRow_len WF
              have hrl : (W0.map wayRow).length + (WF.map wayRow).length ≤ maxRows := by rw [List.length_map, List.length_map]; unfold maxRows; omega
              have n2 : (H2.n < H2.n + 1 + 1) = True := by simp only [eq_iff_iff, iff_true]; omega
              have n3 : (H2.n < H2.n + 1 + 1 + 1) = True := by simp only [eq_iff_iff, iff_true]; omega
              simp only [Net.cells] at e147
              rcases Classical.em (w = []) with rfl | hw
              · have a0 : ∀ lo H, appP lo H 3 141 (.ps .exact []) [] = some (.ps .exact [], H) := fun _ _ => rfl
                have a1 := fun lo H => app_one (lo := lo) (H := H) ⟨a.1, a.2, EM⟩
                simp only [List.nil_append, List.map_cons, List.map_nil] at e147
                simp only [Leg.row, i64] at a1 e147
                have hold : ∀ j, j < H2.n → (((H2.push (.row (blF used) 1 4)).set H2.n (.row (blF (used.set i true)) 1 4)).push (.row [] 3 141)).get j = H2.get j := fun j h => by rw [Heap.get_push, if_neg (by simp; omega), Heap.get_set, if_neg (by omega), Heap.get_push, if_neg (by omega)]
                obtain ⟨t', H3, ha, hA3, hn3, hO3, hc3⟩ := app_bs (lo := lo) (rx := WF.map wayRow) (hA'.old (H' := ((H2.push (.row (blF used) 1 4)).set H2.n (.row (blF (used.set i true)) 1 4)).push (.row [] 3 141)) (by simp; omega) hold) (by simp; omega) (by omega) hrl (way_pure WF) (by decide) (rows_all wayRow_len W0)
                rw [way_strip] at ha hA3
                generalize h12 : Code.region 12 _ _ = c12
                generalize h13 : Code.region 13 _ _ = c13
                generalize h14 : Code.region 14 _ _ = c14
                generalize h15 : Code.region 15 _ _ = c15
                simp only [go_sem, reduceIte, reduceEqDiff, reduceAdd, reduceMul, reduceSub, reduceLeDiff, reduceLT, Nat.reduceBEq, reduceCtorEq, t1, t4, t5, t7, t8, t12, t13, t14, t11', cast1, hiu, i02, i12, wl01, wl12, hblk, ud, ul, w14, g1, g3, hB]
                rw [← h12]
                simp only [go_sem, reduceIte, reduceEqDiff, reduceAdd, reduceMul, reduceSub, reduceLeDiff, reduceLT, Nat.reduceBEq, reduceCtorEq, t1, t4, t5, t7, t8, t12, t13, t14, t11', cast1, hiu, hblk, ul1, ut, uc, appO, ref147u, ea]
                rw [← h13]
                simp only [go_sem, reduceIte, reduceEqDiff, reduceAdd, reduceMul, reduceSub, reduceLeDiff, reduceLT, Nat.reduceBEq, reduceCtorEq, t1, t4, t5, t7, t8, t12, t13, t14, t11', cast1, hiu, ud, ul, uo, hlo2]
                rw [← h14]
                simp only [go_sem, reduceIte, reduceEqDiff, reduceAdd, reduceMul, reduceSub, reduceLeDiff, reduceLT, Nat.reduceBEq, reduceCtorEq, t1, t4, t5, t7, t8, t12, t13, t14, t11', cast1, hiu, g1, g3, appO, ref147l, hlo2, hlo3, hlo4, d0, d1, d2, d3, a0, a1]
                rw [← h15]
                simp only [go_sem, reduceIte, reduceEqDiff, reduceAdd, reduceMul, reduceSub, reduceLeDiff, reduceLT, Nat.reduceBEq, reduceCtorEq, t1, t4, t5, t7, t8, t12, t13, t14, t11', cast1, hiu, g0', g1, g2, g3, w1k, appO, ref147w, hlo2, hlo3, hlo4, d0, d1, d2, d3, under_rsx, under_tokx, e147, n2, n3, hrf, ha, w14]
                have hn3' : H2.n < H3.n := by simp at hn3; omega
                refine ⟨hc3 _ _ _ (by simp; omega) ((hold _ (by omega)).trans g0'), hc3 _ _ _ (by simp; omega) ((hold _ (by omega)).trans g1), hc3 _ _ _ (by simp; omega) ((hold _ (by omega)).trans g2), hc3 _ _ _ (by simp; omega) ((hold _ (by omega)).trans g3), by omega, fun j h => (hO3.2 j (by omega)).trans ((hold j (by omega)).trans (ho j h)), t', by rw [List.map_append], by rw [List.map_append]; exact hA3⟩
              · have a0 := fun lo H => app_copy (lo := lo) (H := H) hw (by omega)
                have a1 := fun lo H k hk h2 => app_more (lo := lo) (H := H) (k := k) hw hwl hk h2 ⟨a.1, a.2, EM⟩
                simp only [Leg.row, i64] at a1
                have hold : ∀ j, j < H2.n → (((((H2.push (.row (blF used) 1 4)).set H2.n (.row (blF (used.set i true)) 1 4)).push (.row [] 3 141)).set (H2.n + 1) .dead).push (.row [] 3 141)).get j = H2.get j := fun j h => by rw [Heap.get_push, if_neg (by simp; omega), Heap.get_set, if_neg (by omega), Heap.get_push, if_neg (by simp; omega), Heap.get_set, if_neg (by omega), Heap.get_push, if_neg (by omega)]
                obtain ⟨t', H3, ha, hA3, hn3, hO3, hc3⟩ := app_bs (lo := lo) (rx := WF.map wayRow) (hA'.old (H' := ((((H2.push (.row (blF used) 1 4)).set H2.n (.row (blF (used.set i true)) 1 4)).push (.row [] 3 141)).set (H2.n + 1) .dead).push (.row [] 3 141)) (by simp; omega) hold) (by simp; omega) (by omega) hrl (way_pure WF) (by decide) (rows_all wayRow_len W0)
                rw [way_strip] at ha hA3
                generalize h12 : Code.region 12 _ _ = c12
                generalize h13 : Code.region 13 _ _ = c13
                generalize h14 : Code.region 14 _ _ = c14
                generalize h15 : Code.region 15 _ _ = c15
                simp only [go_sem, reduceIte, reduceEqDiff, reduceAdd, reduceMul, reduceSub, reduceLeDiff, reduceLT, Nat.reduceBEq, reduceCtorEq, t1, t4, t5, t7, t8, t12, t13, t14, t11', cast1, hiu, i02, i12, wl01, wl12, hblk, ud, ul, w14, g1, g3, hB]
                rw [← h12]
                simp only [go_sem, reduceIte, reduceEqDiff, reduceAdd, reduceMul, reduceSub, reduceLeDiff, reduceLT, Nat.reduceBEq, reduceCtorEq, t1, t4, t5, t7, t8, t12, t13, t14, t11', cast1, hiu, hblk, ul1, ut, uc, appO, ref147u, ea]
                rw [← h13]
                simp only [go_sem, reduceIte, reduceEqDiff, reduceAdd, reduceMul, reduceSub, reduceLeDiff, reduceLT, Nat.reduceBEq, reduceCtorEq, t1, t4, t5, t7, t8, t12, t13, t14, t11', cast1, hiu, ud, ul, uo, hlo2]
                rw [← h14]
                simp only [go_sem, reduceIte, reduceEqDiff, reduceAdd, reduceMul, reduceSub, reduceLeDiff, reduceLT, Nat.reduceBEq, reduceCtorEq, t1, t4, t5, t7, t8, t12, t13, t14, t11', cast1, hiu, g1, g3, appO, ref147l, hlo2, hlo3, hlo4, d0, d1, d2, d3, hrw, a0, a1]
                rw [← h15]
                simp only [go_sem, reduceIte, reduceEqDiff, reduceAdd, reduceMul, reduceSub, reduceLeDiff, reduceLT, Nat.reduceBEq, reduceCtorEq, t1, t4, t5, t7, t8, t12, t13, t14, t11', cast1, hiu, g0', g1, g2, g3, w1k, appO, ref147w, hlo2, hlo3, hlo4, d0, d1, d2, d3, under_rsx, under_tokx, e147, n3, hrf, ha, w14]
                have hn3' : H2.n < H3.n := by simp at hn3; omega
                refine ⟨hc3 _ _ _ (by simp; omega) ((hold _ (by omega)).trans g0'), hc3 _ _ _ (by simp; omega) ((hold _ (by omega)).trans g1), hc3 _ _ _ (by simp; omega) ((hold _ (by omega)).trans g2), hc3 _ _ _ (by simp; omega) ((hold _ (by omega)).trans g3), by omega, fun j h => (hO3.2 j (by omega)).trans ((hold j (by omega)).trans (ho j h)), t', by rw [List.map_append], by rw [List.map_append]; exact hA3⟩
      · rintro T H2 M ⟨rfl, t1, t4, t5, t7, t8, t12, t13, t14, g0, g1, g2, g3, hn2, ho, t, t11, hA⟩
        simp only [go_sem, reduceIte, reduceEqDiff, reduceAdd, reduceMul, reduceSub, reduceLeDiff, reduceLT, Nat.reduceBEq, reduceCtorEq, t1, t4, t5, t7, t8, t12, t13, t14, t11, hw12, cast2, i22, g0, g1, g2]
        exact ⟨by omega, ho, t, rfl, hA⟩
    · rintro T H2 M ⟨rfl, t1, t4, t5, t7, t8, t12, g0, g1, g2, hn1, ho, t, t11, hA⟩
      have g0' := g0
      simp only [Net.cells] at g0'
      simp only [go_sem, reduceIte, reduceEqDiff, reduceAdd, reduceMul, reduceSub, reduceLeDiff, reduceLT, Nat.reduceBEq, reduceCtorEq, t1, t4, t5, t7, t8, t12, t11, g0', List.length_map, Int.ofNat_lt, Nat.lt_irrefl, waysL_succ]
end Go.Sim

/-
Ways: Way, by the program.
-/
-- INJ Leg.row_iff lgs_iff pts_iff ptr_iff
namespace Go.Sim
open Go Go.Proofs
set_option maxRecDepth 100000
set_option maxHeartbeats 64000000
variable {P : FuncId → Option (List AV → Option AV)}
theorem ptr_iff (p q : Pt) : ptRow p = ptRow q ↔ p = q := ⟨ptRow_inj p q, fun h => by rw [h]⟩
theorem en142 {P : FuncId → Option (List AV → Option AV)} (hP : P 142 = none) {lo : Nat} {args : List AV} {H : Heap} {K : AV → Heap → Prop} : VO (aenter (NC.withPrims P) (R (NC.withPrims P)) lo 142 args H) K = AO (R (NC.withPrims P) (.call H.n 142 args H)) fun o => o.val.strip.pure = true ∧ K o.val.strip H := by
  refine enter_pure rfl ?_ (by kernel_rfl) (by kernel_rfl) (by kernel_rfl)
  show (match NC.prim 142 with | some p => some p | none => P 142) = none
  rw [hP]; kernel_rfl
noncomputable def wayP (n : Net) (a b : Pt) : List AV := if placesP n [a, b] = 0 then (match bestO n a b with
  | none => [.ps .unk [], i64 0, i64 18]
  | some w => [.ps .unk (w.map Leg.row), i64 (wSum w), i64 0]) else [.ps .unk [], i64 0, i64 (placesP n [a, b])]
theorem wayP_pure (n : Net) (a b : Pt) : (AV.tup (wayP n a b)).pure = true := by
  unfold wayP
  repeat' split
  all_goals rfl
theorem places_zero {n : Net} {m : List Pt} (h : placesP n m = 0) : netP n = 0 ∧ ∀ p ∈ m, placeP n p.1 p.2 = 0 := by
  unfold placesP at h
  by_cases hn : netP n = 0
  · rw [if_pos hn] at h
    exact ⟨hn, fun p hp => firstI_mem0 h _ (List.mem_map.2 ⟨p, hp, rfl⟩)⟩
  · rw [if_neg hn] at h; exact absurd h hn
noncomputable def PPF71 : FuncId → Option (List AV → Option AV) := addPrim 204 p204 (addPrim 203 p203 (addPrim 151 p151 (addPrim 114 p114 (fun _ => none))))
theorem primsF71 : PrimsOk NC PPF71 := primsOk_add (primsOk_add (primsOk_add (primsOk_add (primsOk_none) (by kernel_rfl) (by kernel_rfl) pok114) (by kernel_rfl) (by kernel_rfl) pok151) (by kernel_rfl) (by kernel_rfl) pok203) (by kernel_rfl) (by kernel_rfl) pok204
theorem enF71_114 : En PPF71 114 p114 := enter_prim (by rfl) (by kernel_rfl)
theorem enF71_151 : En PPF71 151 p151 := enter_prim (by rfl) (by kernel_rfl)
theorem enF71_203 : En PPF71 203 p203 := enter_prim (by rfl) (by kernel_rfl)
theorem enF71_204 : En PPF71 204 p204 := enter_prim (by rfl) (by kernel_rfl)
attribute [go_sem ↓] enF71_114 enF71_151 enF71_203 enF71_204
theorem c71 (n : Net) (a b : Pt) (hp : n.Ok) : ∀ lo H, CallOk NC lo 71 [.agg n.cells, .agg (ptRow a), .agg (ptRow b)] H (.tup (wayP n a b)) H := by
  refine contract saneNC primsF71 (fn := Tryz.f71) (by kernel_rfl) Tryz.func71 rfl rfl (by rfl) (wayP_pure n a b) ?_
  have e114 := pe114 n [a, b] ⟨hp, by unfold maxRows; simp⟩
  unfold wayP
  obtain ⟨a1, a2⟩ := a
  obtain ⟨b1, b2⟩ := b
  simp only [Net.cells, i64, ptRow, List.map_cons, List.map_nil] at e114
  rcases Classical.propComplete (placesP n [(a1, a2), (b1, b2)] = 0) with z | z
  case inr =>
    generalize placesP n [(a1, a2), (b1, b2)] = E at e114 z ⊢
    simp only [go_sem, reduceIte, reduceEqDiff, reduceAdd, reduceMul, reduceSub, reduceLeDiff, reduceLT, Nat.reduceBEq, reduceCtorEq, Net.cells, ptRow, e114, z]
  have hz := places_zero (of_eq_true z)
  have hA := place_in hz.1 (hz.2 (a1, a2) (by simp))
  have hB := place_in hz.1 (hz.2 (b1, b2) (by simp))
  obtain ⟨v, H', hr, L, hL, rfl, hlen, _⟩ := r142 (P := PPF71) rfl rfl rfl rfl rfl rfl n hp (by have := net_sws hz.1; unfold maxRows; omega) (a1, a2) (b1, b2) hA.2 hB.2 (fun i k hi => (ends_in hz.1 i k hi).2) 3 (((Heap.empty.push (.cells n.cells 40)).push (.cells [.str a1, .int .i64 a2] 45)).push (.cells [.str b1, .int .i64 b2] 45)) (by rw [hn_push, hn_push, hn_push]; exact Nat.le_refl 3)
  rw [wayS_bestO hz.1 hA.1 hL] at hr hlen
  generalize placesP n [(a1, a2), (b1, b2)] = E at e114 z ⊢
  generalize bestO n (a1, a2) (b1, b2) = o at hr hlen ⊢
  simp only [Net.cells] at hr
  cases o with
  | none =>
    simp only [optC, Option.isSome_none] at hr
    simp only [go_sem, reduceIte, reduceEqDiff, reduceAdd, reduceMul, reduceSub, reduceLeDiff, reduceLT, Nat.reduceBEq, reduceCtorEq, Net.cells, ptRow, e114, z, en142 (show PPF71 142 = none from rfl), hr]
    rfl
  | some w =>
    simp only [optC, Option.isSome_some] at hr
    simp only [go_sem, reduceIte, reduceEqDiff, reduceAdd, reduceMul, reduceSub, reduceLeDiff, reduceLT, Nat.reduceBEq, reduceCtorEq, Net.cells, ptRow, e114, z, en142 (show PPF71 142 = none from rfl), hr]
    rfl
noncomputable def p71 : List AV → Option AV := primOf (α := (Net) × (Pt) × (Pt)) (fun x => [.agg x.1.cells, .agg (ptRow x.2.1), .agg (ptRow x.2.2)]) (fun x => x.1.Ok) (fun x => .tup (wayP x.1 x.2.1 x.2.2))
theorem pok71 : ∀ args v, p71 args = some v → ∀ lo H, CallOk NC lo 71 args H v H := by
  intro args v h
  obtain ⟨x, rfl, hp, rfl⟩ := primOf_inv h
  exact c71 x.1 x.2.1 x.2.2 hp
theorem pe71 (n : Net) (a b : Pt) (hp : n.Ok) : p71 [.agg n.cells, .agg (ptRow a), .agg (ptRow b)] = some (.tup (wayP n a b)) := primOf_enc (α := (Net) × (Pt) × (Pt)) (enc := fun x => [.agg x.1.cells, .agg (ptRow x.2.1), .agg (ptRow x.2.2)]) (pre := fun x => x.1.Ok) (spec := fun x => .tup (wayP x.1 x.2.1 x.2.2)) (by intro x y h; (simp only [List.cons.injEq, AV.agg.injEq, AV.str.injEq, AV.int.injEq, AV.ps.injEq, AV.bool.injEq, Net.cells_iff, Ln.row_iff, Pc.row_iff, Mv.row_iff, lns_iff, pcs_iff, mvs_iff, Leg.row_iff, lgs_iff, pts_iff, ptr_iff, true_and, and_true] at h; first | simpa only [Prod.ext_iff] using h | simpa only [Prod.ext_iff, and_assoc] using h)) (n, a, b) hp
end Go.Sim
