/-
The parts NetM3, NetM4, NetM5, NetD1, NetD2, NetAwake, NetZ1, NetD3, NetD4 of one proof, joined: each begins with a remark that says what it shows.
-/
import Derived.Test.YtepaopekeidlmaaGreatDoorT14
set_option linter.unusedSimpArgs false
set_option linter.unusedVariables false

/-
Maps: Fits, of the program and of the reference; what a map carries.
-/
namespace Go.Sim
open Go Go.Proofs
set_option maxRecDepth 100000
set_option maxHeartbeats 8000000
noncomputable def PPF133 : FuncId → Option (List AV → Option AV) := addPrim 111 p111 (addPrim 183 p183 (addPrim 121 p121 (addPrim 98 p98 (fun _ => none))))
theorem primsF133 : PrimsOk NC PPF133 := primsOk_add (primsOk_add (primsOk_add (primsOk_add (primsOk_none) (by kernel_rfl) (by kernel_rfl) pok98) (by kernel_rfl) (by kernel_rfl) pok121) (by kernel_rfl) (by kernel_rfl) pok183) (by kernel_rfl) (by kernel_rfl) pok111
theorem enF133_98 {rec : Rec} {lo : Nat} {args : List AV} {H : Heap} {K : AV → Heap → Prop} : VO (aenter (NC.withPrims PPF133) rec lo 98 args H) K = AO (p98 args) fun v => K v H := enter_prim (by rfl) (by kernel_rfl)
theorem enF133_121 {rec : Rec} {lo : Nat} {args : List AV} {H : Heap} {K : AV → Heap → Prop} : VO (aenter (NC.withPrims PPF133) rec lo 121 args H) K = AO (p121 args) fun v => K v H := enter_prim (by rfl) (by kernel_rfl)
theorem enF133_183 {rec : Rec} {lo : Nat} {args : List AV} {H : Heap} {K : AV → Heap → Prop} : VO (aenter (NC.withPrims PPF133) rec lo 183 args H) K = AO (p183 args) fun v => K v H := enter_prim (by rfl) (by kernel_rfl)
theorem enF133_111 {rec : Rec} {lo : Nat} {args : List AV} {H : Heap} {K : AV → Heap → Prop} : VO (aenter (NC.withPrims PPF133) rec lo 111 args H) K = AO (p111 args) fun v => K v H := enter_prim (by rfl) (by kernel_rfl)
attribute [go_sem ↓] enF133_98 enF133_121 enF133_183 enF133_111
theorem c133 (n : Net) (s : List Nat) (fr till : Int) (hp : n.Ok) : ∀ lo H, CallOk NC lo 133 [.agg n.cells, .str s, .agg [i64 fr, i64 till]] H (i64 (metresI n.lines s fr till)) H := by
  refine contract saneNC primsF133 (fn := Tryz.f133) (by kernel_rfl) Tryz.func133 rfl rfl (by rfl) (by first | rfl | (split <;> first | rfl | (split <;> rfl))) ?_
  have e98 := pe98 (n, s) hp.lines
  have hfit : (lnOf n.lines s).ps.length ≤ maxRows := lnOf_fits fun l hl => (hp.line l hl).2
  have e183 := pe183 (lnOf n.lines s, fr, till) hfit
  rw [← metres_same]
  simp only [Net.cells, Ln.row, i64] at e98 e183
  simp only [go_sem, reduceIte, Nat.reduceEqDiff, Nat.reduceAdd, Nat.reduceMul, Nat.reduceSub, Nat.reduceLeDiff, Nat.reduceLT, Nat.reduceBEq, reduceCtorEq, Net.cells, Ln.row, e98, e183, e121, e111_2]
noncomputable def p133 : List AV → Option AV := primOf (α := (Net) × (List Nat) × (Int) × (Int)) (fun x => [.agg x.1.cells, .str x.2.1, .agg [i64 x.2.2.1, i64 x.2.2.2]]) (fun x => x.1.Ok) (fun x => i64 (metresI x.1.lines x.2.1 x.2.2.1 x.2.2.2))
theorem pok133 : ∀ args v, p133 args = some v → ∀ lo H, CallOk NC lo 133 args H v H := by
  intro args v h
  obtain ⟨x, rfl, hp, rfl⟩ := primOf_inv h
  exact c133 x.1 x.2.1 x.2.2.1 x.2.2.2 hp
theorem pe133 (n : Net) (s : List Nat) (fr till : Int) (hp : n.Ok) : p133 [.agg n.cells, .str s, .agg [.int .i64 fr, .int .i64 till]] = some (.int .i64 (metresI n.lines s fr till)) := primOf_enc (α := (Net) × (List Nat) × (Int) × (Int)) (enc := fun x => [.agg x.1.cells, .str x.2.1, .agg [i64 x.2.2.1, i64 x.2.2.2]]) (pre := fun x => x.1.Ok) (spec := fun x => i64 (metresI x.1.lines x.2.1 x.2.2.1 x.2.2.2)) (by intro x y h; (simp only [List.cons.injEq, AV.agg.injEq, AV.str.injEq, AV.int.injEq, AV.ps.injEq, AV.bool.injEq, Net.cells_iff, Ln.row_iff, Pc.row_iff, Mv.row_iff, lns_iff, pcs_iff, mvs_iff, true_and, and_true] at h; first | simpa only [Prod.ext_iff] using h | simpa only [Prod.ext_iff, and_assoc] using h)) (n, s, fr, till) hp
variable {P : FuncId → Option (List AV → Option AV)}
def fitsI (a b : Net) (x : Mv) : Int := firstI [metresI a.lines x.line x.fr (endI x), metresI b.lines x.other x.to (wrapq .i64 (Int.add x.to x.len))]
theorem en132 {P : FuncId → Option (List AV → Option AV)} (hP : P 132 = none) {lo : Nat} {args : List AV} {H : Heap} {K : AV → Heap → Prop} : VO (aenter (NC.withPrims P) (R (NC.withPrims P)) lo 132 args H) K = AO (R (NC.withPrims P) (.call H.n 132 args H)) fun o => o.val.strip.pure = true ∧ K o.val.strip H := by
  refine enter_pure rfl ?_ (by kernel_rfl) (by kernel_rfl) (by kernel_rfl)
  show (match NC.prim 132 with | some p => some p | none => P 132) = none
  rw [hP]; kernel_rfl
theorem en131 {P : FuncId → Option (List AV → Option AV)} (hP : P 131 = none) {lo : Nat} {args : List AV} {H : Heap} {K : AV → Heap → Prop} : VO (aenter (NC.withPrims P) (R (NC.withPrims P)) lo 131 args H) K = AO (R (NC.withPrims P) (.call H.n 131 args H)) fun o => o.val.strip.pure = true ∧ K o.val.strip H := by
  refine enter_pure rfl ?_ (by kernel_rfl) (by kernel_rfl) (by kernel_rfl)
  show (match NC.prim 131 with | some p => some p | none => P 131) = none
  rw [hP]; kernel_rfl
theorem r132 (h128 : P 128 = some p128) (h133 : P 133 = some p133) (h111 : P 111 = some p111) (lo : Nat) (a b : Net) (ha : a.Ok) (hb : b.Ok) (x : Mv) (ca cb : Nat) (H : Heap) (hca : ca < H.n) (hcb : cb < H.n) (sa : H.get ca = .cells a.cells 40) (sb : H.get cb = .cells b.cells 40) :
    ∃ H', R (NC.withPrims P) (.call lo 132 [.agg x.row, .ptr ca 0, .ptr cb 0] H) = some (.ofVal (i64 (fitsI a b x)) H') := by
  have n1 : (ca = H.n) = False := by simp; omega
  have n2 : (cb = H.n) = False := by simp; omega
  have en128 : ∀ {rec lo args H K}, VO (aenter (NC.withPrims P) rec lo 128 args H) K = AO (p128 args) fun v => K v H := enter_prim rfl (by show (match NC.prim 128 with | some p => some p | none => P 128) = _; rw [h128]; kernel_rfl)
  have en133 : ∀ {rec lo args H K}, VO (aenter (NC.withPrims P) rec lo 133 args H) K = AO (p133 args) fun v => K v H := enter_prim rfl (by show (match NC.prim 133 with | some p => some p | none => P 133) = _; rw [h133]; kernel_rfl)
  have en111 : ∀ {rec lo args H K}, VO (aenter (NC.withPrims P) rec lo 111 args H) K = AO (p111 args) fun v => K v H := enter_prim rfl (by show (match NC.prim 111 with | some p => some p | none => P 111) = _; rw [h111]; kernel_rfl)
  have e128 := pe128 x
  have ea := pe133 a x.line x.fr (endI x) ha
  have eb := pe133 b x.other x.to (wrapq .i64 (Int.add x.to x.len)) hb
  obtain ⟨v, H', h1, h2⟩ := R_of_body (C := NC.withPrims P) (f := 132) (lo := lo) (args := [.agg x.row, .ptr ca 0, .ptr cb 0]) (H := H) (fn := Tryz.f132) (Q := fun v H' => v = i64 (fitsI a b x)) (by kernel_rfl) Tryz.func132 rfl rfl (by
    unfold fitsI
    obtain ⟨x1, x2, x3, x4, x5, x6⟩ := x
    simp only [Mv.row, Net.cells, i64] at e128 ea eb sa sb
    simp only [go_sem, reduceIte, Nat.reduceEqDiff, Nat.reduceAdd, Nat.reduceMul, Nat.reduceSub, Nat.reduceLeDiff, Nat.reduceLT, Nat.reduceBEq, reduceCtorEq, Mv.row, Net.cells, sa, sb, n1, n2, ↓en128, ↓en133, ↓en111, e128, ea, eb, e111_2])
  exact ⟨H', by rw [h1, h2]⟩
theorem r131 (hP : P 132 = none) (lo : Nat) (m : List Mv) (F : Mv → Int) (caps : List AV) (hc : caps.map AV.strip = caps) (H : Heap) (hlo : lo ≤ H.n) (hl : m.length ≤ maxRows)
    (hcall : ∀ lo x H', Old H.n H H' → ∃ H2, R (NC.withPrims P) (.call lo 132 (.agg x.row :: caps) H') = some (.ofVal (i64 (F x)) H2)) :
    ∃ t H', R (NC.withPrims P) (.call lo 131 [.ps .unk (m.map Mv.row), .fn 132 [] caps] H) = some (.ofVal (.ps t (intRows (m.map F))) H') := by
  suffices hh : ∃ v H', R (NC.withPrims P) (.call lo 131 [.ps .unk (m.map Mv.row), .fn 132 [] caps] H) = some (.ofVal v H') ∧ ∃ t, v = .ps t (intRows (m.map F)) by
    obtain ⟨v, H', h1, t, rfl⟩ := hh; exact ⟨t, H', h1⟩
  refine R_of_body (C := NC.withPrims P) (f := 131) (lo := lo) (args := [.ps .unk (m.map Mv.row), .fn 132 [] caps]) (H := H) (fn := Tryz.f131) (Q := fun v H' => ∃ t, v = .ps t (intRows (m.map F))) (by kernel_rfl) Tryz.func131 rfl rfl ?_
  simp only [go_sem, reduceIte, Nat.reduceEqDiff, Nat.reduceAdd, Nat.reduceMul, Nat.reduceSub, Nat.reduceLeDiff, Nat.reduceLT, Nat.reduceBEq, reduceCtorEq]
  refine W_for (fun k T H' M => M = [] ∧ getT T 1 = .fn 132 [] caps ∧ getT T 8 = .ps .unk (m.map Mv.row) ∧ getT T 9 = i64 (m.length : Nat) ∧ getT T 10 = i64 k ∧ Old H.n H H' ∧ ∃ t, getT T 5 = .ps t (intRows ((m.take k).map F)) ∧ AppB H.n H' t (intRows ((m.take k).map F)) 1 33) m.length ?_ ?_ ?_
  · simp only [go_sem, reduceIte, Nat.reduceEqDiff, Nat.reduceAdd, Nat.reduceMul, Nat.reduceSub, Nat.reduceLeDiff, Nat.reduceLT, Nat.reduceBEq, reduceCtorEq]; exact ⟨Old.refl H, .nil, rfl, .inl ⟨rfl, rfl⟩⟩
  · rintro k T H' M hk ⟨rfl, g1, g8, g9, g10, hO, t, g5, hA⟩
    obtain ⟨x, hx⟩ : ∃ p, m[k]? = some p := ⟨m[k], by simp⟩
    have hr := map_at (f := Mv.row) hx
    have hw := wrap_succ hk hl
    have htk : intRows ((m.take (k + 1)).map F) = intRows ((m.take k).map F) ++ [[i64 (F x)]] := by rw [take_map hx]; simp [intRows]
    have hcl := fun lo H' h => ex_eq (hcall lo x H' h)
    have hlo' : lo ≤ H'.n := Nat.le_trans hlo hO.1
    obtain ⟨t', H2, ha, hA2, hn2, hO2, _⟩ := app_b (lo := lo) (hA.new (.cells [.str [], .int .i64 0, .int .i64 0, .str [], .int .i64 0, .bool false] 130) (.cells x.row 130)) (by have := hO.1; simp; omega) hlo (r := [i64 (F x)]) (by simp [intRows]; omega) rfl (by decide) (intRows_all _)
    have hO1 := hO.new (.cells [.str [], .int .i64 0, .int .i64 0, .str [], .int .i64 0, .bool false] 130) (.cells x.row 130)
    obtain ⟨a, b, c, d, e, f⟩ := x
    simp only [Mv.row] at hr hcl ha hO1
    simp only [go_sem, reduceIte, Nat.reduceEqDiff, Nat.reduceAdd, Nat.reduceMul, Nat.reduceSub, Nat.reduceLeDiff, Nat.reduceLT, Nat.reduceBEq, reduceCtorEq, g1, g8, g9, g10, g5, hk, hr, hw, en132 hP, hc, hcl, hO1, hlo', appO, isIntT_slice, rowsIn, ha]
    rw [htk]
    exact ⟨(hO.new _ _).trans hO2 |> fun h => ⟨h.1, h.2⟩, t', rfl, hA2⟩
  · rintro T H' M ⟨rfl, g1, g8, g9, g10, hO, t, g5, hA⟩
    simp only [go_sem, reduceIte, Nat.reduceEqDiff, Nat.reduceAdd, Nat.reduceMul, Nat.reduceSub, Nat.reduceLeDiff, Nat.reduceLT, Nat.reduceBEq, reduceCtorEq, g1, g8, g9, g10, g5, Nat.lt_irrefl, List.take_length]
    exact ⟨t, rfl⟩
def fitsP (a b : Net) (m : List Mv) : Int :=
  let e := firstI [mapP m, netP a, netP b]
  if e = 0 then firstI (m.map (fitsI a b)) else e
noncomputable def PPF50 : FuncId → Option (List AV → Option AV) := addPrim 133 p133 (addPrim 128 p128 (addPrim 111 p111 (addPrim 29 p29 (addPrim 49 p49 (fun _ => none)))))
theorem primsF50 : PrimsOk NC PPF50 := primsOk_add (primsOk_add (primsOk_add (primsOk_add (primsOk_add (primsOk_none) (by kernel_rfl) (by kernel_rfl) pok49) (by kernel_rfl) (by kernel_rfl) pok29) (by kernel_rfl) (by kernel_rfl) pok111) (by kernel_rfl) (by kernel_rfl) pok128) (by kernel_rfl) (by kernel_rfl) pok133
theorem enF50_49 {rec : Rec} {lo : Nat} {args : List AV} {H : Heap} {K : AV → Heap → Prop} : VO (aenter (NC.withPrims PPF50) rec lo 49 args H) K = AO (p49 args) fun v => K v H := enter_prim (by rfl) (by kernel_rfl)
theorem enF50_29 {rec : Rec} {lo : Nat} {args : List AV} {H : Heap} {K : AV → Heap → Prop} : VO (aenter (NC.withPrims PPF50) rec lo 29 args H) K = AO (p29 args) fun v => K v H := enter_prim (by rfl) (by kernel_rfl)
theorem enF50_111 {rec : Rec} {lo : Nat} {args : List AV} {H : Heap} {K : AV → Heap → Prop} : VO (aenter (NC.withPrims PPF50) rec lo 111 args H) K = AO (p111 args) fun v => K v H := enter_prim (by rfl) (by kernel_rfl)
theorem enF50_128 {rec : Rec} {lo : Nat} {args : List AV} {H : Heap} {K : AV → Heap → Prop} : VO (aenter (NC.withPrims PPF50) rec lo 128 args H) K = AO (p128 args) fun v => K v H := enter_prim (by rfl) (by kernel_rfl)
theorem enF50_133 {rec : Rec} {lo : Nat} {args : List AV} {H : Heap} {K : AV → Heap → Prop} : VO (aenter (NC.withPrims PPF50) rec lo 133 args H) K = AO (p133 args) fun v => K v H := enter_prim (by rfl) (by kernel_rfl)
attribute [go_sem ↓] enF50_49 enF50_29 enF50_111 enF50_128 enF50_133
theorem c50 (m : List Mv) (a b : Net) (hp : MapOk m ∧ a.Ok ∧ b.Ok) : ∀ lo H, CallOk NC lo 50 [.ps .unk (m.map Mv.row), .agg a.cells, .agg b.cells] H (i64 (fitsP a b m)) H := by
  refine contract saneNC primsF50 (fn := Tryz.f50) (by kernel_rfl) Tryz.func50 rfl rfl (by rfl) (by first | rfl | (split <;> first | rfl | (split <;> rfl))) ?_
  have hl := hp.1.few
  have e49 := pe49 m hp.1
  have ea := pe29 a hp.2.1
  have eb := pe29 b hp.2.2
  have e111 := pe111 (m.map (fitsI a b)) (by simpa using hl)
  generalize hE : firstI [mapP m, netP a, netP b] = E
  have hsp : fitsP a b m = if E = 0 then firstI (m.map (fitsI a b)) else E := by unfold fitsP; simp only [hE]
  rw [hsp]
  simp only [Net.cells, i64] at ea eb e111
  rcases Classical.propComplete (E = 0) with z | z
  case inr => simp only [go_sem, reduceIte, Nat.reduceEqDiff, Nat.reduceAdd, Nat.reduceMul, Nat.reduceSub, Nat.reduceLeDiff, Nat.reduceLT, Nat.reduceBEq, reduceCtorEq, Net.cells, e49, ea, eb, e111_3, hE, z]
  obtain ⟨tk, H', hr⟩ := r131 (P := PPF50) rfl 2 m (fitsI a b) [.ptr 0 0, .ptr 1 0] rfl ((Heap.empty.push (.cells a.cells 40)).push (.cells b.cells 40)) (by simp [empty_n]) hl (fun lo x H' hO => r132 rfl rfl rfl lo a b hp.2.1 hp.2.2 x 0 1 H' (by have := hO.1; simp [empty_n] at this; omega) (by have := hO.1; simp [empty_n] at this; omega) (by rw [hO.2 0 (by simp [empty_n])]; simp [Heap.get_push, empty_n]) (by rw [hO.2 1 (by simp [empty_n])]; simp [Heap.get_push, empty_n]))
  simp only [Net.cells, i64] at hr
  simp only [go_sem, reduceIte, Nat.reduceEqDiff, Nat.reduceAdd, Nat.reduceMul, Nat.reduceSub, Nat.reduceLeDiff, Nat.reduceLT, Nat.reduceBEq, reduceCtorEq, Net.cells, e49, ea, eb, e111_3, hE, z, en131 (show PPF50 131 = none from rfl), hr, e111]
  trace_state
noncomputable def p50 : List AV → Option AV := primOf (α := (List Mv) × (Net) × (Net)) (fun x => [.ps .unk (x.1.map Mv.row), .agg x.2.1.cells, .agg x.2.2.cells]) (fun x => MapOk x.1 ∧ x.2.1.Ok ∧ x.2.2.Ok) (fun x => i64 (fitsP x.2.1 x.2.2 x.1))
theorem pok50 : ∀ args v, p50 args = some v → ∀ lo H, CallOk NC lo 50 args H v H := by
  intro args v h
  obtain ⟨x, rfl, hp, rfl⟩ := primOf_inv h
  exact c50 x.1 x.2.1 x.2.2 hp
theorem pe50 (m : List Mv) (a b : Net) (hp : MapOk m ∧ a.Ok ∧ b.Ok) : p50 [.ps .unk (m.map Mv.row), .agg a.cells, .agg b.cells] = some (.int .i64 (fitsP a b m)) := primOf_enc (α := (List Mv) × (Net) × (Net)) (enc := fun x => [.ps .unk (x.1.map Mv.row), .agg x.2.1.cells, .agg x.2.2.cells]) (pre := fun x => MapOk x.1 ∧ x.2.1.Ok ∧ x.2.2.Ok) (spec := fun x => i64 (fitsP x.2.1 x.2.2 x.1)) (by intro x y h; (simp only [List.cons.injEq, AV.agg.injEq, AV.str.injEq, AV.int.injEq, AV.ps.injEq, AV.bool.injEq, Net.cells_iff, Ln.row_iff, Pc.row_iff, Mv.row_iff, lns_iff, pcs_iff, mvs_iff, true_and, and_true] at h; first | simpa only [Prod.ext_iff] using h | simpa only [Prod.ext_iff, and_assoc] using h)) (m, a, b) hp
/-! ### What is carried -/
def hitMv (s : List Nat) (k : Int) (x : Mv) : Bool := beqL x.line s && !decide (k < x.fr) && decide (k < endI x)
def carP (m : List Mv) (s : List Nat) (k : Int) : List AV := match m.find? (hitMv s k) with
  | none => [noPlace, .bool false]
  | some x => [.agg [.str x.other, i64 (atI x k)], .bool true]
theorem carP_pure (m : List Mv) (s : List Nat) (k : Int) : (AV.tup (carP m s k)).pure = true := by
  unfold carP; split <;> rfl
theorem find_at {α : Type} {f : α → Bool} {l : List α} {k : Nat} {x : α} (h0 : ∀ j y, j < k → l[j]? = some y → f y = false) (hk : l[k]? = some x) (hf : f x = true) : l.find? f = some x := by
  have hlt := (List.getElem?_eq_some_iff.1 hk)
  rw [List.find?_eq_some_iff_getElem]
  refine ⟨hf, k, hlt.1, hlt.2, fun j hj => ?_⟩
  have := h0 j (l[j]'(by have := hlt.1; omega)) hj (by simp)
  simp [this]
theorem find_no {α : Type} {f : α → Bool} {l : List α} (h0 : ∀ j y, j < l.length → l[j]? = some y → f y = false) : l.find? f = none := by
  rw [List.find?_eq_none]
  intro y hy
  obtain ⟨j, hj⟩ := List.mem_iff_getElem?.1 hy
  simp [h0 j y (List.getElem?_eq_some_iff.1 hj).1 hj]
noncomputable def PPF124 : FuncId → Option (List AV → Option AV) := addPrim 192 p192 (addPrim 128 p128 (fun _ => none))
theorem primsF124 : PrimsOk NC PPF124 := primsOk_add (primsOk_add (primsOk_none) (by kernel_rfl) (by kernel_rfl) pok128) (by kernel_rfl) (by kernel_rfl) pok192
theorem enF124_128 {rec : Rec} {lo : Nat} {args : List AV} {H : Heap} {K : AV → Heap → Prop} : VO (aenter (NC.withPrims PPF124) rec lo 128 args H) K = AO (p128 args) fun v => K v H := enter_prim (by rfl) (by kernel_rfl)
theorem enF124_192 {rec : Rec} {lo : Nat} {args : List AV} {H : Heap} {K : AV → Heap → Prop} : VO (aenter (NC.withPrims PPF124) rec lo 192 args H) K = AO (p192 args) fun v => K v H := enter_prim (by rfl) (by kernel_rfl)
attribute [go_sem ↓] enF124_128 enF124_192
theorem c124 (m : List Mv) (s : List Nat) (q : Int) (hp : m.length ≤ maxRows) : ∀ lo H, CallOk NC lo 124 [.ps .unk (m.map Mv.row), .agg [.str s, i64 q]] H (.tup (carP m s q)) H := by
  refine contract saneNC primsF124 (fn := Tryz.f124) (by kernel_rfl) Tryz.func124 rfl rfl (by rfl) (carP_pure m s q) ?_
  simp only [go_sem, reduceIte, Nat.reduceEqDiff, Nat.reduceAdd, Nat.reduceMul, Nat.reduceSub, Nat.reduceLeDiff, Nat.reduceLT, Nat.reduceBEq, reduceCtorEq]
  refine W_for (fun k T H M => M = [] ∧ getT T 3 = .ptr 0 0 ∧ getT T 4 = .ptr 1 0 ∧ H.get 0 = .cells [.str s, i64 q] 45 ∧ H.get 1 = .cells [.str [], i64 0] 45 ∧ 1 < H.n ∧ getT T 8 = .ps .unk (m.map Mv.row) ∧ getT T 9 = i64 (m.length : Nat) ∧ getT T 10 = i64 k ∧ ∀ j x, j < k → m[j]? = some x → hitMv s q x = false) m.length ?_ ?_ ?_
  · simp only [go_sem, reduceIte, Nat.reduceEqDiff, Nat.reduceAdd, Nat.reduceMul, Nat.reduceSub, Nat.reduceLeDiff, Nat.reduceLT, Nat.reduceBEq, reduceCtorEq]; exact fun j x hj => absurd hj (by omega)
  · rintro k T H M hk ⟨rfl, g3, g4, h0, h1, hn, g8, g9, g10, hf⟩
    obtain ⟨x, hx⟩ : ∃ p, m[k]? = some p := ⟨m[k], by simp⟩
    have hr := map_at (f := Mv.row) hx
    have hw := wrap_succ hk hp
    have e128 := pe128 x
    have e192 := pe192 x q
    have b0 : (0 = H.n) = False := by simp; omega
    have b1 : (1 = H.n) = False := by simp; omega
    have b2 : 1 < H.n + 1 := by omega
    have hnext : hitMv s q x = false → ∀ j y, j < k + 1 → m[j]? = some y → hitMv s q y = false := fun hh j y hj hy => by
      by_cases e : j = k
      · subst e; rw [hx] at hy; cases hy; exact hh
      · exact hf j y (by omega) hy
    have hhit : hitMv s q x = true → carP m s q = [.agg [.str x.other, i64 (atI x q)], .bool true] := fun hh => by unfold carP; rw [find_at hf hx hh]
    have hh : hitMv s q x = (beqL x.line s && !decide (q < x.fr) && decide (q < endI x)) := rfl
    rw [hh] at hnext hhit
    clear hh
    obtain ⟨a, b, c, d, e, f⟩ := x
    simp only [Mv.row] at hr e128 e192
    simp only [go_sem, reduceIte, Nat.reduceEqDiff, Nat.reduceAdd, Nat.reduceMul, Nat.reduceSub, Nat.reduceLeDiff, Nat.reduceLT, Nat.reduceBEq, reduceCtorEq, g3, g4, h0, h1, g8, g9, g10, hk, hr, hw, b0, b1]
    repeat' (first
      | (refine branch_cases (fun hc => ?_) (fun hc => ?_) <;> (try simp only [decide_eq_true_eq, decide_eq_false_iff_not, Bool.not_eq_true', Bool.not_eq_false', Bool.and_eq_true, Bool.or_eq_false_iff] at hc) <;> (try simp only [go_sem, reduceIte, Nat.reduceEqDiff, Nat.reduceAdd, Nat.reduceMul, Nat.reduceSub, Nat.reduceLeDiff, Nat.reduceLT, Nat.reduceBEq, reduceCtorEq, b0, b1, *]))
      | (refine guardT_cases (fun hc => ?_) (fun hc => ?_) <;> (try simp only [decide_eq_true_eq, decide_eq_false_iff_not, Bool.not_eq_true', Bool.not_eq_false', Bool.and_eq_true, Bool.or_eq_false_iff] at hc) <;> (try simp only [go_sem, reduceIte, Nat.reduceEqDiff, Nat.reduceAdd, Nat.reduceMul, Nat.reduceSub, Nat.reduceLeDiff, Nat.reduceLT, Nat.reduceBEq, reduceCtorEq, b0, b1, *]))
      | (refine guardF_cases (fun hc => ?_) (fun hc => ?_) <;> (try simp only [decide_eq_true_eq, decide_eq_false_iff_not, Bool.not_eq_true', Bool.not_eq_false', Bool.and_eq_true, Bool.or_eq_false_iff] at hc) <;> (try simp only [go_sem, reduceIte, Nat.reduceEqDiff, Nat.reduceAdd, Nat.reduceMul, Nat.reduceSub, Nat.reduceLeDiff, Nat.reduceLT, Nat.reduceBEq, reduceCtorEq, b0, b1, *]))
      | (refine pick_cases (fun hc => ?_) (fun hc => ?_) <;> (try simp only [decide_eq_true_eq, decide_eq_false_iff_not, Bool.not_eq_true', Bool.not_eq_false', Bool.and_eq_true, Bool.or_eq_false_iff] at hc) <;> (try simp only [go_sem, reduceIte, Nat.reduceEqDiff, Nat.reduceAdd, Nat.reduceMul, Nat.reduceSub, Nat.reduceLeDiff, Nat.reduceLT, Nat.reduceBEq, reduceCtorEq, b0, b1, *])))
    all_goals first | (rw [hhit (by simp [*])]; done) | exact ⟨h0, h1, b2, hnext (by simp [*])⟩ | exact ⟨b2, hnext (by simp [*])⟩ | exact hnext (by simp [*]) | skip
  · rintro T H M ⟨rfl, g3, g4, h0, h1, hn, g8, g9, g10, hf⟩
    simp only [go_sem, reduceIte, Nat.reduceEqDiff, Nat.reduceAdd, Nat.reduceMul, Nat.reduceSub, Nat.reduceLeDiff, Nat.reduceLT, Nat.reduceBEq, reduceCtorEq, g3, g4, h0, h1, g8, g9, g10, Nat.lt_irrefl]
    unfold carP
    rw [find_no hf]
    rfl
noncomputable def p124 : List AV → Option AV := primOf (α := (List Mv) × (List Nat) × (Int)) (fun x => [.ps .unk (x.1.map Mv.row), .agg [.str x.2.1, i64 x.2.2]]) (fun x => x.1.length ≤ maxRows) (fun x => .tup (carP x.1 x.2.1 x.2.2))
theorem pok124 : ∀ args v, p124 args = some v → ∀ lo H, CallOk NC lo 124 args H v H := by
  intro args v h
  obtain ⟨x, rfl, hp, rfl⟩ := primOf_inv h
  exact c124 x.1 x.2.1 x.2.2 hp
theorem pe124 (m : List Mv) (s : List Nat) (q : Int) (hp : m.length ≤ maxRows) : p124 [.ps .unk (m.map Mv.row), .agg [.str s, .int .i64 q]] = some (.tup (carP m s q)) := primOf_enc (α := (List Mv) × (List Nat) × (Int)) (enc := fun x => [.ps .unk (x.1.map Mv.row), .agg [.str x.2.1, i64 x.2.2]]) (pre := fun x => x.1.length ≤ maxRows) (spec := fun x => .tup (carP x.1 x.2.1 x.2.2)) (by intro x y h; (simp only [List.cons.injEq, AV.agg.injEq, AV.str.injEq, AV.int.injEq, AV.ps.injEq, AV.bool.injEq, Net.cells_iff, Ln.row_iff, Pc.row_iff, Mv.row_iff, lns_iff, pcs_iff, mvs_iff, true_and, and_true] at h; first | simpa only [Prod.ext_iff] using h | simpa only [Prod.ext_iff, and_assoc] using h)) (m, s, q) hp
end Go.Sim

/-
Maps: the reference's CheckMap, Fits, Carried; the program's Carried; the law's own helpers.
-/
namespace Go.Sim
open Go Go.Proofs
set_option maxRecDepth 100000
set_option maxHeartbeats 8000000
def mvR (m : List Mv) (i : Nat) : Int := match m[i]? with
  | none => 0
  | some x =>
    let e := firstI [whenI (!nameB x.line) 8, whenI (!nameB x.other) 8, rangeI x.fr 0 800000, rangeI x.len 1 800000, rangeI x.to 0 800000]
    if e = 0 then (if decide (800000 < endI x) || decide (800000 < wrapq .i64 (Int.add x.to x.len)) then 4 else
      if (match i with | 0 => false | j + 1 => match m[j]? with | none => false | some l => orderB l x) then 11 else if (m.take i).any (fun y => overB y x) then 15 else 0) else e
def mapR (m : List Mv) : Int := if (24 : Int) < m.length then 5 else allR (mvR m) m.length
theorem e34_5 (a b c d e : Int) : p34 [.ps .unk [[.int .i64 a], [.int .i64 b], [.int .i64 c], [.int .i64 d], [.int .i64 e]]] = some (.int .i64 (firstI [a, b, c, d, e])) := pe34 [a, b, c, d, e] (by show 5 ≤ 1073741824; decide)
theorem any_take {α : Type} {f : α → Bool} {m : List α} {i k : Nat} {y : α} (hk : k < i) (hy : m[k]? = some y) (hb : f y = true) : (m.take i).any f = true := by
  rw [List.any_eq_true]
  exact ⟨y, List.mem_of_getElem? (i := k) (by rw [List.getElem?_take_of_lt hk]; exact hy), hb⟩
theorem any_take_no {α : Type} {f : α → Bool} {m : List α} {i : Nat} (h : ∀ (j : Nat) (x : α), j < i → m[j]? = some x → f x = false) : (m.take i).any f = false := by
  rw [List.any_eq_false]
  intro x hx
  obtain ⟨j, hj⟩ := List.mem_iff_getElem?.1 hx
  rw [List.getElem?_take] at hj
  split at hj
  · rename_i hlt; simp [h j x hlt hj]
  · cases hj
noncomputable def PPF44 : FuncId → Option (List AV → Option AV) := addPrim 125 p125 (addPrim 34 p34 (addPrim 35 p35 (addPrim 36 p36 (fun _ => none))))
theorem primsF44 : PrimsOk NC PPF44 := primsOk_add (primsOk_add (primsOk_add (primsOk_add (primsOk_none) (by kernel_rfl) (by kernel_rfl) pok36) (by kernel_rfl) (by kernel_rfl) pok35) (by kernel_rfl) (by kernel_rfl) pok34) (by kernel_rfl) (by kernel_rfl) pok125
theorem enF44_36 {rec : Rec} {lo : Nat} {args : List AV} {H : Heap} {K : AV → Heap → Prop} : VO (aenter (NC.withPrims PPF44) rec lo 36 args H) K = AO (p36 args) fun v => K v H := enter_prim (by rfl) (by kernel_rfl)
theorem enF44_35 {rec : Rec} {lo : Nat} {args : List AV} {H : Heap} {K : AV → Heap → Prop} : VO (aenter (NC.withPrims PPF44) rec lo 35 args H) K = AO (p35 args) fun v => K v H := enter_prim (by rfl) (by kernel_rfl)
theorem enF44_34 {rec : Rec} {lo : Nat} {args : List AV} {H : Heap} {K : AV → Heap → Prop} : VO (aenter (NC.withPrims PPF44) rec lo 34 args H) K = AO (p34 args) fun v => K v H := enter_prim (by rfl) (by kernel_rfl)
theorem enF44_125 {rec : Rec} {lo : Nat} {args : List AV} {H : Heap} {K : AV → Heap → Prop} : VO (aenter (NC.withPrims PPF44) rec lo 125 args H) K = AO (p125 args) fun v => K v H := enter_prim (by rfl) (by kernel_rfl)
attribute [go_sem ↓] enF44_36 enF44_35 enF44_34 enF44_125
theorem c44 (m : List Mv) (hp : m.length ≤ maxRows) : ∀ lo H, CallOk NC lo 44 [.ps .unk (m.map Mv.row)] H (i64 (mapR m)) H := by
  refine contract saneNC primsF44 (fn := Tryz.f44) (by kernel_rfl) Tryz.func44 rfl rfl (by rfl) (by first | rfl | (split <;> first | rfl | (split <;> rfl))) ?_
  have hl := hp
  rcases Classical.propComplete ((24 : Int) < m.length) with q1 | q1
  · simp only [go_sem, reduceIte, Nat.reduceEqDiff, Nat.reduceAdd, Nat.reduceMul, Nat.reduceSub, Nat.reduceLeDiff, Nat.reduceLT, Nat.reduceBEq, reduceCtorEq, q1]
    simp [mapR, q1]
  simp only [go_sem, reduceIte, Nat.reduceEqDiff, Nat.reduceAdd, Nat.reduceMul, Nat.reduceSub, Nat.reduceLeDiff, Nat.reduceLT, Nat.reduceBEq, reduceCtorEq, q1]
  refine W_for (fun k T H M => M = [] ∧ getT T 0 = .ps .unk (m.map Mv.row) ∧ getT T 3 = i64 k ∧ allR (mvR m) m.length = firstI (((List.range m.length).map (mvR m)).drop k)) m.length ?_ ?_ ?_
  · simp only [go_sem, reduceIte, Nat.reduceEqDiff, Nat.reduceAdd, Nat.reduceMul, Nat.reduceSub, Nat.reduceLeDiff, Nat.reduceLT, Nat.reduceBEq, reduceCtorEq]; rfl
  · rintro k T H M hk ⟨rfl, g0, g3, hf⟩
    obtain ⟨x, hx⟩ : ∃ p, m[k]? = some p := ⟨m[k], by simp⟩
    have hr := map_at (f := Mv.row) hx
    have hw := wrap_succ hk hl
    have hfd := allR_step (f := mvR m) hk
    have hwp : 0 < k → wrapq .i64 (Int.sub (k : Int) 1) = ((k - 1 : Nat) : Int) := fun h => wrap_pred h (Nat.le_of_lt hk) hl
    obtain ⟨l, hl1⟩ : ∃ p, m[k - 1]? = some p := ⟨m[k - 1]'(by omega), by simp⟩
    have hr1 := map_at (f := Mv.row) hl1
    have hk1 : (k - 1 < m.length) = True := by simp; omega
    have hpos : ((0 : Int) < (k : Int)) = (0 < k) := by simp
    generalize hE : firstI [whenI (!nameB x.line) 8, whenI (!nameB x.other) 8, rangeI x.fr 0 800000, rangeI x.len 1 800000, rangeI x.to 0 800000] = E
    have hms : mvR m k = if E = 0 then (if decide (800000 < endI x) || decide (800000 < wrapq .i64 (Int.add x.to x.len)) then 4 else
      if decide (0 < k) && orderB l x then 11 else if (m.take k).any (fun y => overB y x) then 15 else 0) else E := by
      unfold mvR
      simp only [hx, hE]
      cases k with
      | zero => simp
      | succ j => simp at hl1; simp [hl1]
    obtain ⟨a, b, c, d, e, f⟩ := x
    obtain ⟨a', b', c', d', e', f'⟩ := l
    have h36a := e36 a
    have h36d := e36 d
    simp only [Mv.row] at hr hr1
    simp only at hE
    rcases Classical.propComplete (E = 0) with z | z
    case inr =>
      simp only [go_sem, reduceIte, Nat.reduceEqDiff, Nat.reduceAdd, Nat.reduceMul, Nat.reduceSub, Nat.reduceLeDiff, Nat.reduceLT, Nat.reduceBEq, reduceCtorEq, g0, g3, List.length_map, hk, hr, hw, e36, e35, e34_5, hE, z]
      simp [mapR, q1, hf, hfd, hms, z]
    rcases Classical.propComplete (800000 < endI ⟨a, b, c, d, e, f⟩) with z1 | z1 <;> rcases Classical.propComplete (800000 < wrapq .i64 (Int.add e c)) with z2 | z2
    case inr.inr =>
      have z1' := z1
      unfold endI at z1'
      simp only at z1'
      generalize hOr : (decide (0 < k) && orderB ⟨a', b', c', d', e', f'⟩ ⟨a, b, c, d, e, f⟩) = O at hms
      have hA : (O = true ∧ (0 < k) = True ∧ (strLt a a' = true ∨ (strLt a a' = false ∧ beqL a a' = true ∧ (b < wrapq .i64 (Int.add b' c')) = True))) ∨
          (O = false ∧ ((0 < k) = False ∨ ((0 < k) = True ∧ strLt a a' = false ∧ (beqL a a' = false ∨ (beqL a a' = true ∧ (b < wrapq .i64 (Int.add b' c')) = False))))) := by
        rw [← hOr]
        unfold orderB endI
        generalize wrapq .i64 (Int.add b' c') = W
        by_cases h1 : 0 < k <;> cases h2 : strLt a a' <;> cases h3 : beqL a a' <;> by_cases h4 : b < W <;> simp [h1, h4] <;> omega
      rcases hA with ⟨hO, h1, h2⟩ | ⟨hO, hB⟩
      · have h4 : mvR m k = 11 := by rw [hms]; unfold endI; simp only [z, z1', z2, hO, if_true, if_false, decide_false, Bool.or_self, Bool.false_eq_true]
        have hwp' := hwp (of_eq_true h1)
        rcases h2 with h2 | ⟨h2, h3, h5⟩
        · simp only [go_sem, reduceIte, Nat.reduceEqDiff, Nat.reduceAdd, Nat.reduceMul, Nat.reduceSub, Nat.reduceLeDiff, Nat.reduceLT, Nat.reduceBEq, reduceCtorEq, g0, g3, List.length_map, hk, hr, hw, e36, e35, e34_5, hE, z, z1', z2, hpos, h1, h2, hwp', hk1, hr1]
          simp [mapR, q1, hf, hfd, h4]
        · simp only [go_sem, reduceIte, Nat.reduceEqDiff, Nat.reduceAdd, Nat.reduceMul, Nat.reduceSub, Nat.reduceLeDiff, Nat.reduceLT, Nat.reduceBEq, reduceCtorEq, g0, g3, List.length_map, hk, hr, hw, e36, e35, e34_5, hE, z, z1', z2, hpos, h1, h2, h3, h5, hwp', hk1, hr1]
          simp [mapR, q1, hf, hfd, h4]
      · have h4 : mvR m k = if (m.take k).any (fun y => overB y ⟨a, b, c, d, e, f⟩) then 15 else 0 := by rw [hms]; unfold endI; simp only [z, z1', z2, hO, if_true, if_false, decide_false, Bool.or_self, Bool.false_eq_true]
        have hwp' : (0 < k) = True → wrapq .i64 (Int.sub (k : Int) 1) = ((k - 1 : Nat) : Int) := fun h => hwp (of_eq_true h)
        rcases hB with h1 | ⟨h1, h2, h3 | ⟨h3, h5⟩⟩
        · clear hwp'
          simp only [go_sem, reduceIte, Nat.reduceEqDiff, Nat.reduceAdd, Nat.reduceMul, Nat.reduceSub, Nat.reduceLeDiff, Nat.reduceLT, Nat.reduceBEq, reduceCtorEq, g0, g3, List.length_map, hk, hr, hw, e36, e35, e34_5, hE, z, z1', z2, hpos, h1]
          refine W_for (fun j T' H' M => M = [] ∧ getT T' 0 = .ps .unk (m.map Mv.row) ∧ getT T' 3 = i64 k ∧ getT T' 4 = .ptr H.n 0 ∧ getT T' 7 = i64 j ∧ H'.get H.n = .cells [.str a, i64 b, i64 c, .str d, i64 e, .bool f] 128 ∧ ∀ i y, i < j → m[i]? = some y → overB y ⟨a, b, c, d, e, f⟩ = false) k ?_ ?_ ?_
          · simp only [go_sem, reduceIte, Nat.reduceEqDiff, Nat.reduceAdd, Nat.reduceMul, Nat.reduceSub, Nat.reduceLeDiff, Nat.reduceLT, Nat.reduceBEq, reduceCtorEq, g0, g3]
            exact fun i y hi => absurd hi (by omega)
          · rintro j T' H' M' hj ⟨rfl, i0, i3, i4, i7, ih, hno⟩
            obtain ⟨y, hy⟩ : ∃ p, m[j]? = some p := ⟨m[j]'(by omega), by simp⟩
            have hry := map_at (f := Mv.row) hy
            have e125 := pe125 y ⟨a, b, c, d, e, f⟩
            have hjw : wrapq .i64 (Int.add (j : Int) 1) = ((j + 1 : Nat) : Int) := wrap_succ (Nat.lt_trans hj hk) hl
            have hjl : (j < m.length) = True := by simp; omega
            cases ho : overB y ⟨a, b, c, d, e, f⟩ with
            | true =>
              rw [ho] at e125
              obtain ⟨y1, y2, y3, y4, y5, y6⟩ := y
              simp only [Mv.row, i64] at hry e125
              simp only [go_sem, reduceIte, Nat.reduceEqDiff, Nat.reduceAdd, Nat.reduceMul, Nat.reduceSub, Nat.reduceLeDiff, Nat.reduceLT, Nat.reduceBEq, reduceCtorEq, i0, i3, i4, i7, ih, hj, hjl, List.length_map, hry, e125]
              have h5' : mvR m k = 15 := by rw [h4, any_take hj hy ho]; rfl
              simp [mapR, q1, hf, hfd, h5']
            | false =>
              rw [ho] at e125
              have hno' : ∀ i z, i < j + 1 → m[i]? = some z → overB z ⟨a, b, c, d, e, f⟩ = false := fun i z hi hz => by
                by_cases e : i = j
                · subst e; rw [hy] at hz; cases hz; exact ho
                · exact hno i z (by omega) hz
              obtain ⟨y1, y2, y3, y4, y5, y6⟩ := y
              simp only [Mv.row, i64] at hry e125
              simp only [go_sem, reduceIte, Nat.reduceEqDiff, Nat.reduceAdd, Nat.reduceMul, Nat.reduceSub, Nat.reduceLeDiff, Nat.reduceLT, Nat.reduceBEq, reduceCtorEq, i0, i3, i4, i7, ih, hj, hjl, List.length_map, hry, e125, hjw]
              exact hno'
          · rintro T' H' M' ⟨rfl, i0, i3, i4, i7, ih, hno⟩
            have h5' : mvR m k = 0 := by rw [h4, any_take_no hno]; rfl
            simp only [go_sem, reduceIte, Nat.reduceEqDiff, Nat.reduceAdd, Nat.reduceMul, Nat.reduceSub, Nat.reduceLeDiff, Nat.reduceLT, Nat.reduceBEq, reduceCtorEq, i0, i3, i4, i7, ih, Nat.lt_irrefl, hw]
            rw [hf, hfd, h5', if_pos rfl]
        · have hwp'' := hwp' h1
          simp only [go_sem, reduceIte, Nat.reduceEqDiff, Nat.reduceAdd, Nat.reduceMul, Nat.reduceSub, Nat.reduceLeDiff, Nat.reduceLT, Nat.reduceBEq, reduceCtorEq, g0, g3, List.length_map, hk, hr, hw, e36, e35, e34_5, hE, z, z1', z2, hpos, h1, h2, h3, hwp'', hk1, hr1]
          refine W_for (fun j T' H' M => M = [] ∧ getT T' 0 = .ps .unk (m.map Mv.row) ∧ getT T' 3 = i64 k ∧ getT T' 4 = .ptr H.n 0 ∧ getT T' 7 = i64 j ∧ H'.get H.n = .cells [.str a, i64 b, i64 c, .str d, i64 e, .bool f] 128 ∧ ∀ i y, i < j → m[i]? = some y → overB y ⟨a, b, c, d, e, f⟩ = false) k ?_ ?_ ?_
          · simp only [go_sem, reduceIte, Nat.reduceEqDiff, Nat.reduceAdd, Nat.reduceMul, Nat.reduceSub, Nat.reduceLeDiff, Nat.reduceLT, Nat.reduceBEq, reduceCtorEq, g0, g3]
            exact fun i y hi => absurd hi (by omega)
          · rintro j T' H' M' hj ⟨rfl, i0, i3, i4, i7, ih, hno⟩
            obtain ⟨y, hy⟩ : ∃ p, m[j]? = some p := ⟨m[j]'(by omega), by simp⟩
            have hry := map_at (f := Mv.row) hy
            have e125 := pe125 y ⟨a, b, c, d, e, f⟩
            have hjw : wrapq .i64 (Int.add (j : Int) 1) = ((j + 1 : Nat) : Int) := wrap_succ (Nat.lt_trans hj hk) hl
            have hjl : (j < m.length) = True := by simp; omega
            cases ho : overB y ⟨a, b, c, d, e, f⟩ with
            | true =>
              rw [ho] at e125
              obtain ⟨y1, y2, y3, y4, y5, y6⟩ := y
              simp only [Mv.row, i64] at hry e125
              simp only [go_sem, reduceIte, Nat.reduceEqDiff, Nat.reduceAdd, Nat.reduceMul, Nat.reduceSub, Nat.reduceLeDiff, Nat.reduceLT, Nat.reduceBEq, reduceCtorEq, i0, i3, i4, i7, ih, hj, hjl, List.length_map, hry, e125]
              have h5' : mvR m k = 15 := by rw [h4, any_take hj hy ho]; rfl
              simp [mapR, q1, hf, hfd, h5']
            | false =>
              rw [ho] at e125
              have hno' : ∀ i z, i < j + 1 → m[i]? = some z → overB z ⟨a, b, c, d, e, f⟩ = false := fun i z hi hz => by
                by_cases e : i = j
                · subst e; rw [hy] at hz; cases hz; exact ho
                · exact hno i z (by omega) hz
              obtain ⟨y1, y2, y3, y4, y5, y6⟩ := y
              simp only [Mv.row, i64] at hry e125
              simp only [go_sem, reduceIte, Nat.reduceEqDiff, Nat.reduceAdd, Nat.reduceMul, Nat.reduceSub, Nat.reduceLeDiff, Nat.reduceLT, Nat.reduceBEq, reduceCtorEq, i0, i3, i4, i7, ih, hj, hjl, List.length_map, hry, e125, hjw]
              exact hno'
          · rintro T' H' M' ⟨rfl, i0, i3, i4, i7, ih, hno⟩
            have h5' : mvR m k = 0 := by rw [h4, any_take_no hno]; rfl
            simp only [go_sem, reduceIte, Nat.reduceEqDiff, Nat.reduceAdd, Nat.reduceMul, Nat.reduceSub, Nat.reduceLeDiff, Nat.reduceLT, Nat.reduceBEq, reduceCtorEq, i0, i3, i4, i7, ih, Nat.lt_irrefl, hw]
            rw [hf, hfd, h5', if_pos rfl]
        · have hwp'' := hwp' h1
          simp only [go_sem, reduceIte, Nat.reduceEqDiff, Nat.reduceAdd, Nat.reduceMul, Nat.reduceSub, Nat.reduceLeDiff, Nat.reduceLT, Nat.reduceBEq, reduceCtorEq, g0, g3, List.length_map, hk, hr, hw, e36, e35, e34_5, hE, z, z1', z2, hpos, h1, h2, h3, h5, hwp'', hk1, hr1]
          refine W_for (fun j T' H' M => M = [] ∧ getT T' 0 = .ps .unk (m.map Mv.row) ∧ getT T' 3 = i64 k ∧ getT T' 4 = .ptr H.n 0 ∧ getT T' 7 = i64 j ∧ H'.get H.n = .cells [.str a, i64 b, i64 c, .str d, i64 e, .bool f] 128 ∧ ∀ i y, i < j → m[i]? = some y → overB y ⟨a, b, c, d, e, f⟩ = false) k ?_ ?_ ?_
          · simp only [go_sem, reduceIte, Nat.reduceEqDiff, Nat.reduceAdd, Nat.reduceMul, Nat.reduceSub, Nat.reduceLeDiff, Nat.reduceLT, Nat.reduceBEq, reduceCtorEq, g0, g3]
            exact fun i y hi => absurd hi (by omega)
          · rintro j T' H' M' hj ⟨rfl, i0, i3, i4, i7, ih, hno⟩
            obtain ⟨y, hy⟩ : ∃ p, m[j]? = some p := ⟨m[j]'(by omega), by simp⟩
            have hry := map_at (f := Mv.row) hy
            have e125 := pe125 y ⟨a, b, c, d, e, f⟩
            have hjw : wrapq .i64 (Int.add (j : Int) 1) = ((j + 1 : Nat) : Int) := wrap_succ (Nat.lt_trans hj hk) hl
            have hjl : (j < m.length) = True := by simp; omega
            cases ho : overB y ⟨a, b, c, d, e, f⟩ with
            | true =>
              rw [ho] at e125
              obtain ⟨y1, y2, y3, y4, y5, y6⟩ := y
              simp only [Mv.row, i64] at hry e125
              simp only [go_sem, reduceIte, Nat.reduceEqDiff, Nat.reduceAdd, Nat.reduceMul, Nat.reduceSub, Nat.reduceLeDiff, Nat.reduceLT, Nat.reduceBEq, reduceCtorEq, i0, i3, i4, i7, ih, hj, hjl, List.length_map, hry, e125]
              have h5' : mvR m k = 15 := by rw [h4, any_take hj hy ho]; rfl
              simp [mapR, q1, hf, hfd, h5']
            | false =>
              rw [ho] at e125
              have hno' : ∀ i z, i < j + 1 → m[i]? = some z → overB z ⟨a, b, c, d, e, f⟩ = false := fun i z hi hz => by
                by_cases e : i = j
                · subst e; rw [hy] at hz; cases hz; exact ho
                · exact hno i z (by omega) hz
              obtain ⟨y1, y2, y3, y4, y5, y6⟩ := y
              simp only [Mv.row, i64] at hry e125
              simp only [go_sem, reduceIte, Nat.reduceEqDiff, Nat.reduceAdd, Nat.reduceMul, Nat.reduceSub, Nat.reduceLeDiff, Nat.reduceLT, Nat.reduceBEq, reduceCtorEq, i0, i3, i4, i7, ih, hj, hjl, List.length_map, hry, e125, hjw]
              exact hno'
          · rintro T' H' M' ⟨rfl, i0, i3, i4, i7, ih, hno⟩
            have h5' : mvR m k = 0 := by rw [h4, any_take_no hno]; rfl
            simp only [go_sem, reduceIte, Nat.reduceEqDiff, Nat.reduceAdd, Nat.reduceMul, Nat.reduceSub, Nat.reduceLeDiff, Nat.reduceLT, Nat.reduceBEq, reduceCtorEq, i0, i3, i4, i7, ih, Nat.lt_irrefl, hw]
            rw [hf, hfd, h5', if_pos rfl]
    all_goals
      unfold endI at z1
      simp only at z1
      simp only [go_sem, reduceIte, Nat.reduceEqDiff, Nat.reduceAdd, Nat.reduceMul, Nat.reduceSub, Nat.reduceLeDiff, Nat.reduceLT, Nat.reduceBEq, reduceCtorEq, g0, g3, List.length_map, hk, hr, hw, e36, e35, e34_5, hE, z, z1, z2]
      have h4 : mvR m k = 4 := by rw [hms]; unfold endI; simp only [z, z1, z2, if_true, decide_true, Bool.true_or, Bool.or_true]
      simp [mapR, q1, hf, hfd, h4]
  · rintro T H M ⟨rfl, g0, g3, hf⟩
    rw [allR_end] at hf
    simp only [go_sem, reduceIte, Nat.reduceEqDiff, Nat.reduceAdd, Nat.reduceMul, Nat.reduceSub, Nat.reduceLeDiff, Nat.reduceLT, Nat.reduceBEq, reduceCtorEq, g0, g3, Nat.lt_irrefl]
    simp [mapR, q1, hf]
noncomputable def p44 : List AV → Option AV := primOf (α := (List Mv)) (fun x => [.ps .unk (x.map Mv.row)]) (fun x => x.length ≤ maxRows) (fun x => i64 (mapR x))
theorem pok44 : ∀ args v, p44 args = some v → ∀ lo H, CallOk NC lo 44 args H v H := by
  intro args v h
  obtain ⟨x, rfl, hp, rfl⟩ := primOf_inv h
  exact c44 x hp
theorem pe44 (m : List Mv) (hp : m.length ≤ maxRows) : p44 [.ps .unk (m.map Mv.row)] = some (.int .i64 (mapR m)) := primOf_enc (α := (List Mv)) (enc := fun x => [.ps .unk (x.map Mv.row)]) (pre := fun x => x.length ≤ maxRows) (spec := fun x => i64 (mapR x)) (by intro x y h; (simp only [List.cons.injEq, AV.agg.injEq, AV.str.injEq, AV.int.injEq, AV.ps.injEq, AV.bool.injEq, Net.cells_iff, Ln.row_iff, Pc.row_iff, Mv.row_iff, lns_iff, pcs_iff, mvs_iff, true_and, and_true] at h; first | simpa only [Prod.ext_iff] using h | simpa only [Prod.ext_iff, and_assoc] using h)) m hp
def fitsR (a b : Net) (m : List Mv) : Int := firstI (m.map (fitsI a b))
theorem errs_drop {α : Type} {f : α → Int} {l : List α} {k : Nat} {x : α} (h : l[k]? = some x) : firstI ((l.map f).drop k) = if f x = 0 then firstI ((l.map f).drop (k + 1)) else f x := firstI_drop (by simp [h])
noncomputable def PPF45 : FuncId → Option (List AV → Option AV) := addPrim 34 p34 (addPrim 126 p126 (fun _ => none))
theorem primsF45 : PrimsOk NC PPF45 := primsOk_add (primsOk_add (primsOk_none) (by kernel_rfl) (by kernel_rfl) pok126) (by kernel_rfl) (by kernel_rfl) pok34
theorem enF45_126 {rec : Rec} {lo : Nat} {args : List AV} {H : Heap} {K : AV → Heap → Prop} : VO (aenter (NC.withPrims PPF45) rec lo 126 args H) K = AO (p126 args) fun v => K v H := enter_prim (by rfl) (by kernel_rfl)
theorem enF45_34 {rec : Rec} {lo : Nat} {args : List AV} {H : Heap} {K : AV → Heap → Prop} : VO (aenter (NC.withPrims PPF45) rec lo 34 args H) K = AO (p34 args) fun v => K v H := enter_prim (by rfl) (by kernel_rfl)
attribute [go_sem ↓] enF45_126 enF45_34
theorem c45 (m : List Mv) (a b : Net) (hp : m.length ≤ maxRows ∧ a.fits ∧ b.fits) : ∀ lo H, CallOk NC lo 45 [.ps .unk (m.map Mv.row), .agg a.cells, .agg b.cells] H (i64 (fitsR a b m)) H := by
  refine contract saneNC primsF45 (fn := Tryz.f45) (by kernel_rfl) Tryz.func45 rfl rfl (by rfl) (by first | rfl | (split <;> first | rfl | (split <;> rfl))) ?_
  have hl := hp.1
  simp only [go_sem, reduceIte, Nat.reduceEqDiff, Nat.reduceAdd, Nat.reduceMul, Nat.reduceSub, Nat.reduceLeDiff, Nat.reduceLT, Nat.reduceBEq, reduceCtorEq, Net.cells, List.length_map]
  refine W_for (fun k T H M => M = [] ∧ getT T 0 = .ps .unk (m.map Mv.row) ∧ getT T 4 = .ptr 0 0 ∧ getT T 5 = .ptr 1 0 ∧ getT T 7 = i64 k ∧ H.get 0 = .cells a.cells 26 ∧ H.get 1 = .cells b.cells 26 ∧ 1 < H.n ∧ fitsR a b m = firstI ((m.map (fitsI a b)).drop k)) m.length ?_ ?_ ?_
  · simp only [go_sem, reduceIte, Nat.reduceEqDiff, Nat.reduceAdd, Nat.reduceMul, Nat.reduceSub, Nat.reduceLeDiff, Nat.reduceLT, Nat.reduceBEq, reduceCtorEq, Net.cells]
    try exact rfl
  · rintro k T H M hk ⟨rfl, g0, g4, g5, g7, h0, h1, hn, hf⟩
    obtain ⟨x, hx⟩ : ∃ p, m[k]? = some p := ⟨m[k], by simp⟩
    have hr := map_at (f := Mv.row) hx
    have hw := wrap_succ hk hl
    rw [errs_drop hx] at hf
    have b0 : (0 = H.n) = False := by simp; omega
    have b1 : (1 = H.n) = False := by simp; omega
    have b2 : 1 < H.n + 1 := by omega
    have ea := pe126 (a, x.line, x.fr, endI x) hp.2.1
    have eb := pe126 (b, x.other, x.to, wrapq .i64 (Int.add x.to x.len)) hp.2.2
    generalize hE : fitsI a b x = E at hf
    unfold fitsI at hE
    obtain ⟨x1, x2, x3, x4, x5, x6⟩ := x
    unfold endI at ea hE
    simp only [Mv.row, Net.cells, i64] at hr ea eb h0 h1 hE
    rcases Classical.propComplete (E = 0) with z | z
    · simp only [go_sem, reduceIte, Nat.reduceEqDiff, Nat.reduceAdd, Nat.reduceMul, Nat.reduceSub, Nat.reduceLeDiff, Nat.reduceLT, Nat.reduceBEq, reduceCtorEq, g0, g4, g5, g7, h0, h1, b0, b1, hk, hr, hw, ea, eb, e34_2, hE, z, List.length_map]
      simp [hf, z, Net.cells, b2]
    · simp only [go_sem, reduceIte, Nat.reduceEqDiff, Nat.reduceAdd, Nat.reduceMul, Nat.reduceSub, Nat.reduceLeDiff, Nat.reduceLT, Nat.reduceBEq, reduceCtorEq, g0, g4, g5, g7, h0, h1, b0, b1, hk, hr, hw, ea, eb, e34_2, hE, z, List.length_map]
      simp [hf, z]
  · rintro T H M ⟨rfl, g0, g4, g5, g7, h0, h1, hn, hf⟩
    rw [List.drop_eq_nil_of_le (by simp)] at hf
    simp only [go_sem, reduceIte, Nat.reduceEqDiff, Nat.reduceAdd, Nat.reduceMul, Nat.reduceSub, Nat.reduceLeDiff, Nat.reduceLT, Nat.reduceBEq, reduceCtorEq, g0, g4, g5, g7, Nat.lt_irrefl, List.length_map]
    rw [hf]; rfl
noncomputable def p45 : List AV → Option AV := primOf (α := (List Mv) × (Net) × (Net)) (fun x => [.ps .unk (x.1.map Mv.row), .agg x.2.1.cells, .agg x.2.2.cells]) (fun x => x.1.length ≤ maxRows ∧ x.2.1.fits ∧ x.2.2.fits) (fun x => i64 (fitsR x.2.1 x.2.2 x.1))
theorem pok45 : ∀ args v, p45 args = some v → ∀ lo H, CallOk NC lo 45 args H v H := by
  intro args v h
  obtain ⟨x, rfl, hp, rfl⟩ := primOf_inv h
  exact c45 x.1 x.2.1 x.2.2 hp
theorem pe45 (m : List Mv) (a b : Net) (hp : m.length ≤ maxRows ∧ a.fits ∧ b.fits) : p45 [.ps .unk (m.map Mv.row), .agg a.cells, .agg b.cells] = some (.int .i64 (fitsR a b m)) := primOf_enc (α := (List Mv) × (Net) × (Net)) (enc := fun x => [.ps .unk (x.1.map Mv.row), .agg x.2.1.cells, .agg x.2.2.cells]) (pre := fun x => x.1.length ≤ maxRows ∧ x.2.1.fits ∧ x.2.2.fits) (spec := fun x => i64 (fitsR x.2.1 x.2.2 x.1)) (by intro x y h; (simp only [List.cons.injEq, AV.agg.injEq, AV.str.injEq, AV.int.injEq, AV.ps.injEq, AV.bool.injEq, Net.cells_iff, Ln.row_iff, Pc.row_iff, Mv.row_iff, lns_iff, pcs_iff, mvs_iff, true_and, and_true] at h; first | simpa only [Prod.ext_iff] using h | simpa only [Prod.ext_iff, and_assoc] using h)) (m, a, b) hp
def kR (x : Mv) (q : Int) : Int := wrapq .i64 (Int.sub q x.fr)
def atR (x : Mv) (k : Int) : Int := if x.turned then wrapq .i64 (Int.sub (wrapq .i64 (Int.sub (wrapq .i64 (Int.add x.to x.len)) 1)) k) else wrapq .i64 (Int.add x.to k)
def hitR (s : List Nat) (q : Int) (x : Mv) : Bool := beqL x.line s && !decide (kR x q < 0) && decide (kR x q < x.len)
def carR (m : List Mv) (s : List Nat) (q : Int) : List AV := match m.find? (hitR s q) with
  | none => [noPlace, .bool false]
  | some x => [.agg [.str x.other, i64 (atR x (kR x q))], .bool true]
theorem carR_pure (m : List Mv) (s : List Nat) (k : Int) : (AV.tup (carR m s k)).pure = true := by
  unfold carR; split <;> rfl
noncomputable def PPF47 : FuncId → Option (List AV → Option AV) := fun _ => none
theorem primsF47 : PrimsOk NC PPF47 := primsOk_none
theorem c47 (m : List Mv) (s : List Nat) (q : Int) (hp : m.length ≤ maxRows) : ∀ lo H, CallOk NC lo 47 [.ps .unk (m.map Mv.row), .agg [.str s, i64 q]] H (.tup (carR m s q)) H := by
  refine contract saneNC primsF47 (fn := Tryz.f47) (by kernel_rfl) Tryz.func47 rfl rfl (by rfl) (carR_pure m s q) ?_
  simp only [go_sem, reduceIte, Nat.reduceEqDiff, Nat.reduceAdd, Nat.reduceMul, Nat.reduceSub, Nat.reduceLeDiff, Nat.reduceLT, Nat.reduceBEq, reduceCtorEq]
  refine W_for (fun k T H M => M = [] ∧ getT T 0 = .ps .unk (m.map Mv.row) ∧ getT T 3 = .ptr 0 0 ∧ getT T 4 = .ptr 1 0 ∧ getT T 6 = i64 k ∧ H.get 0 = .cells [.str s, i64 q] 28 ∧ H.get 1 = .cells [.str [], i64 0] 28 ∧ 1 < H.n ∧ ∀ j x, j < k → m[j]? = some x → hitR s q x = false) m.length ?_ ?_ ?_
  · simp only [go_sem, reduceIte, Nat.reduceEqDiff, Nat.reduceAdd, Nat.reduceMul, Nat.reduceSub, Nat.reduceLeDiff, Nat.reduceLT, Nat.reduceBEq, reduceCtorEq]; exact fun j x hj => absurd hj (by omega)
  · rintro k T H M hk ⟨rfl, g0, g3, g4, g6, h0, h1, hn, hf⟩
    obtain ⟨x, hx⟩ : ∃ p, m[k]? = some p := ⟨m[k], by simp⟩
    have hr := map_at (f := Mv.row) hx
    have hw := wrap_succ hk hp
    have b0 : (0 = H.n) = False := by simp; omega
    have b1 : (1 = H.n) = False := by simp; omega
    have b2 : 1 < H.n + 1 := by omega
    have hnext : hitR s q x = false → ∀ j y, j < k + 1 → m[j]? = some y → hitR s q y = false := fun hh j y hj hy => by
      by_cases e : j = k
      · subst e; rw [hx] at hy; cases hy; exact hh
      · exact hf j y (by omega) hy
    have hhit : hitR s q x = true → carR m s q = [.agg [.str x.other, i64 (atR x (kR x q))], .bool true] := fun hh => by unfold carR; rw [find_at hf hx hh]
    have hh : hitR s q x = (beqL x.line s && !decide (kR x q < 0) && decide (kR x q < x.len)) := rfl
    rw [hh] at hnext hhit
    clear hh
    unfold kR at hnext
    unfold kR atR at hhit
    obtain ⟨a, b, c, d, e, f⟩ := x
    simp only [Mv.row] at hr
    simp only at hnext hhit
    cases h2 : beqL a s <;> rcases Classical.propComplete (wrapq .i64 (Int.sub q b) < 0) with h3 | h3 <;> rcases Classical.propComplete (wrapq .i64 (Int.sub q b) < c) with h4 | h4 <;> cases f <;> simp only [go_sem, reduceIte, Nat.reduceEqDiff, Nat.reduceAdd, Nat.reduceMul, Nat.reduceSub, Nat.reduceLeDiff, Nat.reduceLT, Nat.reduceBEq, reduceCtorEq, g0, g3, g4, g6, h0, h1, b0, b1, hk, hr, hw, h2, h3, h4, List.length_map]
    all_goals first | (rw [hhit (by simp [h2, h3, h4])]; done) | (rw [hhit (by simp [h2, h3, h4])]; rfl) | exact ⟨b2, hnext (by simp [h2, h3, h4])⟩ | exact ⟨h0, h1, b2, hnext (by simp [h2, h3, h4])⟩ | skip
  · rintro T H M ⟨rfl, g0, g3, g4, g6, h0, h1, hn, hf⟩
    simp only [go_sem, reduceIte, Nat.reduceEqDiff, Nat.reduceAdd, Nat.reduceMul, Nat.reduceSub, Nat.reduceLeDiff, Nat.reduceLT, Nat.reduceBEq, reduceCtorEq, g0, g3, g4, g6, h0, h1, Nat.lt_irrefl, List.length_map]
    unfold carR
    rw [find_no hf]
    rfl
noncomputable def p47 : List AV → Option AV := primOf (α := (List Mv) × (List Nat) × (Int)) (fun x => [.ps .unk (x.1.map Mv.row), .agg [.str x.2.1, i64 x.2.2]]) (fun x => x.1.length ≤ maxRows) (fun x => .tup (carR x.1 x.2.1 x.2.2))
theorem pok47 : ∀ args v, p47 args = some v → ∀ lo H, CallOk NC lo 47 args H v H := by
  intro args v h
  obtain ⟨x, rfl, hp, rfl⟩ := primOf_inv h
  exact c47 x.1 x.2.1 x.2.2 hp
theorem pe47 (m : List Mv) (s : List Nat) (q : Int) (hp : m.length ≤ maxRows) : p47 [.ps .unk (m.map Mv.row), .agg [.str s, .int .i64 q]] = some (.tup (carR m s q)) := primOf_enc (α := (List Mv) × (List Nat) × (Int)) (enc := fun x => [.ps .unk (x.1.map Mv.row), .agg [.str x.2.1, i64 x.2.2]]) (pre := fun x => x.1.length ≤ maxRows) (spec := fun x => .tup (carR x.1 x.2.1 x.2.2)) (by intro x y h; (simp only [List.cons.injEq, AV.agg.injEq, AV.str.injEq, AV.int.injEq, AV.ps.injEq, AV.bool.injEq, Net.cells_iff, Ln.row_iff, Pc.row_iff, Mv.row_iff, lns_iff, pcs_iff, mvs_iff, true_and, and_true] at h; first | simpa only [Prod.ext_iff] using h | simpa only [Prod.ext_iff, and_assoc] using h)) (m, s, q) hp
def shortMv (x : Mv) : Bool := shortB x.line && shortB x.other
def shortM (m : List Mv) : Bool := m.all shortMv && !decide ((25 : Int) < m.length)
noncomputable def PPF41 : FuncId → Option (List AV → Option AV) := addPrim 97 p97 (fun _ => none)
theorem primsF41 : PrimsOk NC PPF41 := primsOk_add (primsOk_none) (by kernel_rfl) (by kernel_rfl) pok97
theorem enF41_97 {rec : Rec} {lo : Nat} {args : List AV} {H : Heap} {K : AV → Heap → Prop} : VO (aenter (NC.withPrims PPF41) rec lo 97 args H) K = AO (p97 args) fun v => K v H := enter_prim (by rfl) (by kernel_rfl)
attribute [go_sem ↓] enF41_97
theorem c41 (m : List Mv) (hp : m.length ≤ 9223372036854775807) : ∀ lo H, CallOk NC lo 41 [.ps .unk (m.map Mv.row)] H (.bool (shortM m)) H := by
  refine contract saneNC primsF41 (fn := Tryz.f41) (by kernel_rfl) Tryz.func41 rfl rfl (by rfl) (by first | rfl | (split <;> first | rfl | (split <;> rfl))) ?_
  have hl := hp
  simp only [go_sem, reduceIte, Nat.reduceEqDiff, Nat.reduceAdd, Nat.reduceMul, Nat.reduceSub, Nat.reduceLeDiff, Nat.reduceLT, Nat.reduceBEq, reduceCtorEq]
  refine W_for (fun k T H M => M = [] ∧ getT T 0 = .ps .unk (m.map Mv.row) ∧ getT T 3 = i64 k ∧ ∀ (j : Nat) x, j < k → m[j]? = some x → shortMv x = true) m.length ?_ ?_ ?_
  · simp only [go_sem, reduceIte, Nat.reduceEqDiff, Nat.reduceAdd, Nat.reduceMul, Nat.reduceSub, Nat.reduceLeDiff, Nat.reduceLT, Nat.reduceBEq, reduceCtorEq]; exact fun j x hj => absurd hj (by omega)
  · rintro k T H M hk ⟨rfl, g0, g3, hall⟩
    obtain ⟨x, hx⟩ : ∃ p, m[k]? = some p := ⟨m[k], by simp⟩
    have hr := map_at (f := Mv.row) hx
    have hw : wrapq .i64 (Int.add (k : Int) 1) = ((k + 1 : Nat) : Int) := wrap_nat (n := k + 1) (by omega)
    simp only [Mv.row] at hr
    cases d1 : shortB x.line <;> cases d2 : shortB x.other <;> simp only [go_sem, reduceIte, Nat.reduceEqDiff, Nat.reduceAdd, Nat.reduceMul, Nat.reduceSub, Nat.reduceLeDiff, Nat.reduceLT, Nat.reduceBEq, reduceCtorEq, g0, g3, List.length_map, hk, hr, hw, e97, d1, d2]
    case true.true =>
      refine fun j y hj hy => ?_
      by_cases e : j = k
      · subst e; rw [hx] at hy; cases hy; simp [shortMv, d1, d2]
      · exact hall j y (by omega) hy
    all_goals unfold shortM; rw [all_false hx (by simp [shortMv, d1, d2])]; try rfl
  · rintro T H M ⟨rfl, g0, g3, hall⟩
    simp only [go_sem, reduceIte, Nat.reduceEqDiff, Nat.reduceAdd, Nat.reduceMul, Nat.reduceSub, Nat.reduceLeDiff, Nat.reduceLT, Nat.reduceBEq, reduceCtorEq, g0, g3, List.length_map, Nat.lt_irrefl]
    unfold shortM; rw [all_true hall]; rfl
noncomputable def p41 : List AV → Option AV := primOf (α := (List Mv)) (fun x => [.ps .unk (x.map Mv.row)]) (fun x => x.length ≤ 9223372036854775807) (fun x => .bool (shortM x))
theorem pok41 : ∀ args v, p41 args = some v → ∀ lo H, CallOk NC lo 41 args H v H := by
  intro args v h
  obtain ⟨x, rfl, hp, rfl⟩ := primOf_inv h
  exact c41 x hp
theorem pe41 (m : List Mv) (hp : m.length ≤ 9223372036854775807) : p41 [.ps .unk (m.map Mv.row)] = some (.bool (shortM m)) := primOf_enc (α := (List Mv)) (enc := fun x => [.ps .unk (x.map Mv.row)]) (pre := fun x => x.length ≤ 9223372036854775807) (spec := fun x => .bool (shortM x)) (by intro x y h; (simp only [List.cons.injEq, AV.agg.injEq, AV.str.injEq, AV.int.injEq, AV.ps.injEq, AV.bool.injEq, Net.cells_iff, Ln.row_iff, Pc.row_iff, Mv.row_iff, lns_iff, pcs_iff, mvs_iff, true_and, and_true] at h; first | simpa only [Prod.ext_iff] using h | simpa only [Prod.ext_iff, and_assoc] using h)) m hp
noncomputable def PPF43 : FuncId → Option (List AV → Option AV) := fun _ => none
theorem primsF43 : PrimsOk NC PPF43 := primsOk_none
theorem c43 (m : List Mv) (hp : m.length ≤ maxRows) : ∀ lo H, CallOk NC lo 43 [.ps .unk (m.map Mv.row)] H (.ps .unk (m.map Mv.row)) H := by
  refine contract saneNC primsF43 (fn := Tryz.f43) (by kernel_rfl) Tryz.func43 rfl rfl (by rfl) (by first | rfl | (split <;> first | rfl | (split <;> rfl))) ?_
  have hl := hp
  simp only [go_sem, reduceIte, Nat.reduceEqDiff, Nat.reduceAdd, Nat.reduceMul, Nat.reduceSub, Nat.reduceLeDiff, Nat.reduceLT, Nat.reduceBEq, reduceCtorEq]
  refine W_for (fun k T H M => M = [] ∧ getT T 6 = .ps .unk (m.map Mv.row) ∧ getT T 7 = i64 (m.length : Nat) ∧ getT T 8 = i64 k ∧ ∃ t, getT T 3 = .ps t ((m.take k).map Mv.row) ∧ App H t ((m.take k).map Mv.row) 6 130) m.length ?_ ?_ ?_
  · simp only [go_sem, reduceIte, Nat.reduceEqDiff, Nat.reduceAdd, Nat.reduceMul, Nat.reduceSub, Nat.reduceLeDiff, Nat.reduceLT, Nat.reduceBEq, reduceCtorEq, List.length_map]; exact ⟨.nil, by simp, .inl ⟨rfl, rfl⟩⟩
  · rintro k T H M hk ⟨rfl, g6, g7, g8, t, g3, hA⟩
    obtain ⟨x, hx⟩ : ∃ p, m[k]? = some p := ⟨m[k], by simp⟩
    have hr := map_at (f := Mv.row) hx
    have hw := wrap_succ hk hl
    have htk := take_map (f := Mv.row) hx
    obtain ⟨t', H1, ha, hB, hn1, hc1, _⟩ := app_any (H := (H.push (.cells [.str [], .int .i64 0, .int .i64 0, .str [], .int .i64 0, .bool false] 128)).set H.n (.cells x.row 128)) (hA.fresh _ _ rfl) (r := x.row) (by simp; omega) rfl (by decide) (rows_all Mv.row_len _)
    obtain ⟨a, b, c, d, e, f⟩ := x
    simp only [Mv.row] at hr ha
    simp only [go_sem, reduceIte, Nat.reduceEqDiff, Nat.reduceAdd, Nat.reduceMul, Nat.reduceSub, Nat.reduceLeDiff, Nat.reduceLT, Nat.reduceBEq, reduceCtorEq, g6, g7, g8, g3, List.length_map, hk, hr, hw, appO, ha]
    rw [htk]
    exact ⟨t', rfl, hB⟩
  · rintro T H M ⟨rfl, g6, g7, g8, t, g3, hA⟩
    simp only [go_sem, reduceIte, Nat.reduceEqDiff, Nat.reduceAdd, Nat.reduceMul, Nat.reduceSub, Nat.reduceLeDiff, Nat.reduceLT, Nat.reduceBEq, reduceCtorEq, g6, g7, g8, g3, List.take_length, Nat.lt_irrefl]
noncomputable def p43 : List AV → Option AV := primOf (α := (List Mv)) (fun x => [.ps .unk (x.map Mv.row)]) (fun x => x.length ≤ maxRows) (fun x => .ps .unk (x.map Mv.row))
theorem pok43 : ∀ args v, p43 args = some v → ∀ lo H, CallOk NC lo 43 args H v H := by
  intro args v h
  obtain ⟨x, rfl, hp, rfl⟩ := primOf_inv h
  exact c43 x hp
theorem pe43 (m : List Mv) (hp : m.length ≤ maxRows) : p43 [.ps .unk (m.map Mv.row)] = some (.ps .unk (m.map Mv.row)) := primOf_enc (α := (List Mv)) (enc := fun x => [.ps .unk (x.map Mv.row)]) (pre := fun x => x.length ≤ maxRows) (spec := fun x => .ps .unk (x.map Mv.row)) (by intro x y h; (simp only [List.cons.injEq, AV.agg.injEq, AV.str.injEq, AV.int.injEq, AV.ps.injEq, AV.bool.injEq, Net.cells_iff, Ln.row_iff, Pc.row_iff, Mv.row_iff, lns_iff, pcs_iff, mvs_iff, true_and, and_true] at h; first | simpa only [Prod.ext_iff] using h | simpa only [Prod.ext_iff, and_assoc] using h)) m hp
def carriedP (m : List Mv) (s : List Nat) (q : Int) : List AV :=
  let e := firstI [mapP m, whenI (!nameB s) 8, rangeI q 0 800000]
  if e = 0 then (match m.find? (hitMv s q) with
    | none => [noPlace, i64 7]
    | some x => [.agg [.str x.other, i64 (atI x q)], i64 0]) else [noPlace, i64 e]
theorem carriedP_pure (m : List Mv) (s : List Nat) (k : Int) : (AV.tup (carriedP m s k)).pure = true := by
  unfold carriedP; simp only []; repeat' split
  all_goals rfl
theorem carP_shape (m : List Mv) (s : List Nat) (q : Int) : ∃ s' k b, carP m s q = [.agg [.str s', .int .i64 k], .bool b] ∧ carriedP m s q = (let e := firstI [mapP m, whenI (!nameB s) 8, rangeI q 0 800000]; if e = 0 then [.agg [.str s', .int .i64 k], i64 (whenI (!b) 7)] else [noPlace, i64 e]) := by
  unfold carP carriedP
  cases m.find? (hitMv s q) with
  | none => exact ⟨_, _, _, rfl, rfl⟩
  | some x => exact ⟨_, _, _, rfl, rfl⟩
noncomputable def PPF42 : FuncId → Option (List AV → Option AV) := addPrim 121 p121 (addPrim 124 p124 (addPrim 111 p111 (addPrim 115 p115 (addPrim 120 p120 (addPrim 49 p49 (fun _ => none))))))
theorem primsF42 : PrimsOk NC PPF42 := primsOk_add (primsOk_add (primsOk_add (primsOk_add (primsOk_add (primsOk_add (primsOk_none) (by kernel_rfl) (by kernel_rfl) pok49) (by kernel_rfl) (by kernel_rfl) pok120) (by kernel_rfl) (by kernel_rfl) pok115) (by kernel_rfl) (by kernel_rfl) pok111) (by kernel_rfl) (by kernel_rfl) pok124) (by kernel_rfl) (by kernel_rfl) pok121
theorem enF42_49 {rec : Rec} {lo : Nat} {args : List AV} {H : Heap} {K : AV → Heap → Prop} : VO (aenter (NC.withPrims PPF42) rec lo 49 args H) K = AO (p49 args) fun v => K v H := enter_prim (by rfl) (by kernel_rfl)
theorem enF42_120 {rec : Rec} {lo : Nat} {args : List AV} {H : Heap} {K : AV → Heap → Prop} : VO (aenter (NC.withPrims PPF42) rec lo 120 args H) K = AO (p120 args) fun v => K v H := enter_prim (by rfl) (by kernel_rfl)
theorem enF42_115 {rec : Rec} {lo : Nat} {args : List AV} {H : Heap} {K : AV → Heap → Prop} : VO (aenter (NC.withPrims PPF42) rec lo 115 args H) K = AO (p115 args) fun v => K v H := enter_prim (by rfl) (by kernel_rfl)
theorem enF42_111 {rec : Rec} {lo : Nat} {args : List AV} {H : Heap} {K : AV → Heap → Prop} : VO (aenter (NC.withPrims PPF42) rec lo 111 args H) K = AO (p111 args) fun v => K v H := enter_prim (by rfl) (by kernel_rfl)
theorem enF42_124 {rec : Rec} {lo : Nat} {args : List AV} {H : Heap} {K : AV → Heap → Prop} : VO (aenter (NC.withPrims PPF42) rec lo 124 args H) K = AO (p124 args) fun v => K v H := enter_prim (by rfl) (by kernel_rfl)
theorem enF42_121 {rec : Rec} {lo : Nat} {args : List AV} {H : Heap} {K : AV → Heap → Prop} : VO (aenter (NC.withPrims PPF42) rec lo 121 args H) K = AO (p121 args) fun v => K v H := enter_prim (by rfl) (by kernel_rfl)
attribute [go_sem ↓] enF42_49 enF42_120 enF42_115 enF42_111 enF42_124 enF42_121
theorem c42 (m : List Mv) (s : List Nat) (q : Int) (hp : MapOk m ∧ s.length ≤ maxRows) : ∀ lo H, CallOk NC lo 42 [.ps .unk (m.map Mv.row), .agg [.str s, i64 q]] H (.tup (carriedP m s q)) H := by
  refine contract saneNC primsF42 (fn := Tryz.f42) (by kernel_rfl) Tryz.func42 rfl rfl (by rfl) (carriedP_pure m s q) ?_
  obtain ⟨s', k, b, hc, hcp⟩ := carP_shape m s q
  have e49 := pe49 m hp.1
  have e124 := pe124 m s q hp.1.few
  have e120' := e120 s hp.2
  rw [hc] at e124
  rw [hcp]
  generalize hE : firstI [mapP m, whenI (!nameB s) 8, rangeI q 0 800000] = E
  rcases Classical.propComplete (E = 0) with z | z
  · simp only [go_sem, reduceIte, Nat.reduceEqDiff, Nat.reduceAdd, Nat.reduceMul, Nat.reduceSub, Nat.reduceLeDiff, Nat.reduceLT, Nat.reduceBEq, reduceCtorEq, e49, e120', e115, e111_3, hE, z, e124, e121]
  · simp only [go_sem, reduceIte, Nat.reduceEqDiff, Nat.reduceAdd, Nat.reduceMul, Nat.reduceSub, Nat.reduceLeDiff, Nat.reduceLT, Nat.reduceBEq, reduceCtorEq, e49, e120', e115, e111_3, hE, z, noPlace]
noncomputable def p42 : List AV → Option AV := primOf (α := (List Mv) × (List Nat) × (Int)) (fun x => [.ps .unk (x.1.map Mv.row), .agg [.str x.2.1, i64 x.2.2]]) (fun x => MapOk x.1 ∧ x.2.1.length ≤ maxRows) (fun x => .tup (carriedP x.1 x.2.1 x.2.2))
theorem pok42 : ∀ args v, p42 args = some v → ∀ lo H, CallOk NC lo 42 args H v H := by
  intro args v h
  obtain ⟨x, rfl, hp, rfl⟩ := primOf_inv h
  exact c42 x.1 x.2.1 x.2.2 hp
theorem pe42 (m : List Mv) (s : List Nat) (q : Int) (hp : MapOk m ∧ s.length ≤ maxRows) : p42 [.ps .unk (m.map Mv.row), .agg [.str s, .int .i64 q]] = some (.tup (carriedP m s q)) := primOf_enc (α := (List Mv) × (List Nat) × (Int)) (enc := fun x => [.ps .unk (x.1.map Mv.row), .agg [.str x.2.1, i64 x.2.2]]) (pre := fun x => MapOk x.1 ∧ x.2.1.length ≤ maxRows) (spec := fun x => .tup (carriedP x.1 x.2.1 x.2.2)) (by intro x y h; (simp only [List.cons.injEq, AV.agg.injEq, AV.str.injEq, AV.int.injEq, AV.ps.injEq, AV.bool.injEq, Net.cells_iff, Ln.row_iff, Pc.row_iff, Mv.row_iff, lns_iff, pcs_iff, mvs_iff, true_and, and_true] at h; first | simpa only [Prod.ext_iff] using h | simpa only [Prod.ext_iff, and_assoc] using h)) (m, s, q) hp
end Go.Sim

/-
The plain law of maps: the program's errors are the reference's; what a valid map carries.
-/
namespace Go.Sim
open Go
theorem firstI_append (a b : List Int) : firstI (a ++ b) = if firstI a = 0 then firstI b else firstI a := by
  induction a with
  | nil => simp [firstI]
  | cons x r ih =>
    rw [List.cons_append, firstI_cons, firstI_cons, ih]
    by_cases h : x = 0
    · simp [h]
    · simp [h]
theorem any_same {α : Type} {f g : α → Bool} : ∀ {l : List α}, (∀ x ∈ l, f x = g x) → l.any f = l.any g
  | [], _ => rfl
  | a :: r, h => by rw [List.any_cons, List.any_cons, h a (by simp), any_same fun x hx => h x (by simp [hx])]
theorem find_same {α : Type} {f g : α → Bool} : ∀ {l : List α}, (∀ x ∈ l, f x = g x) → l.find? f = l.find? g
  | [], _ => rfl
  | a :: r, h => by rw [List.find?_cons, List.find?_cons, h a (by simp), find_same fun x hx => h x (by simp [hx])]
theorem allR_succ (f : Nat → Int) (n : Nat) : allR f (n + 1) = if allR f n = 0 then f n else allR f n := by
  unfold allR
  rw [List.range_succ, List.map_append, firstI_append]
  simp only [List.map_cons, List.map_nil, firstI_cons, firstI_nil]
  split
  · split
    · rename_i h; exact h.symm
    · rfl
  · rfl
theorem allR_same {f g : Nat → Int} : ∀ {n : Nat}, (∀ i, i < n → (∀ j, j < i → f j = 0) → f i = g i) → allR f n = allR g n
  | 0, _ => rfl
  | n + 1, h => by
    rw [allR_succ, allR_succ, ← allR_same (n := n) (fun i hi => h i (by omega))]
    split
    · rename_i hz
      exact h n (by omega) fun j hj => allR_zero hz hj
    · rfl
structure Mv.Good (x : Mv) : Prop where
  line : nameB x.line = true
  other : nameB x.other = true
  fr : 0 ≤ x.fr
  len : 1 ≤ x.len
  to : 0 ≤ x.to
  frl : x.fr + x.len ≤ 800000
  tol : x.to + x.len ≤ 800000
theorem when_name {s : List Nat} (h : whenI (!nameB s) 8 = 0) : nameB s = true := by
  cases hb : nameB s with
  | true => rfl
  | false => rw [hb] at h; simp [whenI] at h
theorem mv_ranges {x : Mv} (h : firstI [whenI (!nameB x.line) 8, whenI (!nameB x.other) 8, rangeI x.fr 0 800000, rangeI x.len 1 800000, rangeI x.to 0 800000] = 0) :
    nameB x.line = true ∧ nameB x.other = true ∧ (0 ≤ x.fr ∧ x.fr ≤ 800000) ∧ (1 ≤ x.len ∧ x.len ≤ 800000) ∧ 0 ≤ x.to ∧ x.to ≤ 800000 := by
  have hm := firstI_zero h
  exact ⟨when_name (hm _ (by simp)), when_name (hm _ (by simp)), rangeI_zero (hm (rangeI x.fr 0 800000) (by simp)), rangeI_zero (hm (rangeI x.len 1 800000) (by simp)), rangeI_zero (hm (rangeI x.to 0 800000) (by simp))⟩
theorem maxI_lt {a b c : Int} : maxI a b < c ↔ a < c ∧ b < c := by unfold maxI; split <;> omega
theorem lt_minI {a b c : Int} : c < minI a b ↔ c < a ∧ c < b := by unfold minI; split <;> omega
theorem maxI_or (a b : Int) : maxI a b = a ∨ maxI a b = b := by unfold maxI; split <;> simp
theorem mvP_good {x : Mv} (h : mvP x = 0) : x.Good := by
  unfold mvP at h
  simp only [] at h
  split at h
  · rename_i he
    obtain ⟨a, b, c, d, e, f⟩ := mv_ranges he
    have hs : Int.add (maxI x.fr x.to) x.len = maxI x.fr x.to + x.len := rfl
    have hb := maxI_or x.fr x.to
    rw [hs, wrap_small (by rcases hb with hb | hb <;> omega) (by rcases hb with hb | hb <;> omega)] at h
    have hn : ¬ (800000 < maxI x.fr x.to + x.len) := by
      intro hc; rw [decide_eq_true hc] at h; simp [whenI] at h
    have hm : x.fr ≤ maxI x.fr x.to ∧ x.to ≤ maxI x.fr x.to := by unfold maxI; split <;> omega
    exact ⟨a, b, c.1, d.1, e, by omega, by omega⟩
  · rename_i he; exact absurd h he
theorem Mv.Good.end_ {x : Mv} (h : x.Good) : endI x = x.fr + x.len := by
  have e : Int.add x.fr x.len = x.fr + x.len := rfl
  have := h.fr; have := h.len; have := h.frl
  unfold endI; rw [e, wrap_small (by omega) (by omega)]
theorem Mv.Good.till {x : Mv} (h : x.Good) : wrapq .i64 (Int.add x.to x.len) = x.to + x.len := by
  have e : Int.add x.to x.len = x.to + x.len := rfl
  have := h.to; have := h.len; have := h.tol
  rw [e, wrap_small (by omega) (by omega)]
theorem meet_same {x y : Mv} (hx : x.Good) (hy : y.Good) : meetB x y = overB y x := by
  unfold meetB overB
  rw [hx.till, hy.till]
  have := hx.len; have := hy.len
  have : (maxI y.to x.to < minI (y.to + y.len) (x.to + x.len)) ↔ (y.to < x.to + x.len ∧ x.to < y.to + y.len) := by
    rw [maxI_lt, lt_minI, lt_minI]
    omega
  rw [Bool.and_assoc]
  congr 1
  rw [Bool.eq_iff_iff]
  simp only [decide_eq_true_eq, Bool.and_eq_true]
  exact this
theorem move_same (m : List Mv) (i : Nat) (hz : ∀ j, j < i → moveP m j = 0) : moveP m i = mvR m i := by
  unfold moveP mvR
  cases hx : m[i]? with
  | none => rfl
  | some x =>
    simp only []
    unfold mvP
    simp only []
    by_cases he : firstI [whenI (!nameB x.line) 8, whenI (!nameB x.other) 8, rangeI x.fr 0 800000, rangeI x.len 1 800000, rangeI x.to 0 800000] = 0
    · simp only [he, if_true]
      obtain ⟨a, b, c, d, e, f⟩ := mv_ranges he
      have hb := maxI_or x.fr x.to
      have hm : x.fr ≤ maxI x.fr x.to ∧ x.to ≤ maxI x.fr x.to := by unfold maxI; split <;> omega
      have hs : Int.add (maxI x.fr x.to) x.len = maxI x.fr x.to + x.len := rfl
      have hs1 : Int.add x.to x.len = x.to + x.len := rfl
      have hs2 : endI x = x.fr + x.len := by
        have e : Int.add x.fr x.len = x.fr + x.len := rfl
        unfold endI; rw [e, wrap_small (by omega) (by omega)]
      rw [hs, hs1, hs2, wrap_small (x := maxI x.fr x.to + x.len) (by rcases hb with hb | hb <;> omega) (by rcases hb with hb | hb <;> omega), wrap_small (x := x.to + x.len) (by omega) (by omega)]
      have hor : (decide (800000 < x.fr + x.len) || decide (800000 < x.to + x.len)) = decide (800000 < maxI x.fr x.to + x.len) := by
        rw [Bool.eq_iff_iff]
        simp only [Bool.or_eq_true, decide_eq_true_eq]
        rcases hb with hb | hb <;> omega
      rw [hor]
      by_cases hl : 800000 < maxI x.fr x.to + x.len
      · simp [hl, whenI]
      · simp only [hl, decide_false, whenI_false, if_true, Bool.false_eq_true, if_false]
        have hxg : x.Good := ⟨a, b, c.1, d.1, e, by omega, by omega⟩
        have hany : (m.take i).any (meetB x) = (m.take i).any (fun y => overB y x) := by
          apply any_same
          intro y hy
          obtain ⟨j, hj⟩ := List.mem_iff_getElem?.1 hy
          rw [List.getElem?_take] at hj
          split at hj
          · rename_i hji
            have hjz := hz j hji
            unfold moveP at hjz
            simp only [hj] at hjz
            split at hjz
            · rename_i hp
              exact meet_same hxg (mvP_good hp)
            · rename_i hp; exact absurd hjz hp
          · cases hj
        rw [hany]
        rfl
    · simp [he]
theorem map_same (m : List Mv) : mapP m = mapR m := by
  unfold mapP mapR
  rw [allR_same (f := moveP m) (g := mvR m) (n := m.length) fun i _ hz => move_same m i hz]
theorem map_good {m : List Mv} (h : mapR m = 0) {x : Mv} (hx : x ∈ m) : x.Good := by
  rw [← map_same] at h
  unfold mapP at h
  by_cases hl : (24 : Int) < m.length
  · simp [hl] at h
  · simp only [hl, if_false] at h
    obtain ⟨i, hi⟩ := List.mem_iff_getElem?.1 hx
    have hz := allR_zero h (List.getElem?_eq_some_iff.1 hi).1
    unfold moveP at hz
    simp only [hi] at hz
    split at hz
    · rename_i hp; exact mvP_good hp
    · rename_i hp; exact absurd hz hp
/-! ### What is carried -/
theorem hit_same {x : Mv} (hx : x.Good) (s : List Nat) {q : Int} (h0 : 0 ≤ q) (h1 : q ≤ 800000) : hitMv s q x = hitR s q x := by
  have := hx.fr; have := hx.len; have := hx.frl
  have e : Int.sub q x.fr = q - x.fr := rfl
  unfold hitMv hitR kR
  rw [hx.end_, e, wrap_small (by omega) (by omega)]
  rw [Bool.eq_iff_iff]
  simp only [Bool.and_eq_true, Bool.not_eq_true', decide_eq_true_eq, decide_eq_false_iff_not]
  constructor
  · rintro ⟨⟨a, b⟩, c⟩; exact ⟨⟨a, by omega⟩, by omega⟩
  · rintro ⟨⟨a, b⟩, c⟩; exact ⟨⟨a, by omega⟩, by omega⟩
theorem at_same {x : Mv} (hx : x.Good) {q : Int} (h0 : x.fr ≤ q) (h1 : q < x.fr + x.len) : atI x q = atR x (kR x q) := by
  have := hx.fr; have := hx.len; have := hx.frl; have := hx.to; have := hx.tol
  have e : Int.sub q x.fr = q - x.fr := rfl
  have e1 : Int.sub (x.to + x.len) 1 = x.to + x.len - 1 := rfl
  have e2 : Int.sub (x.to + x.len - 1) (q - x.fr) = x.to + x.len - 1 - (q - x.fr) := rfl
  have e3 : Int.add x.to (q - x.fr) = x.to + (q - x.fr) := rfl
  have e4 : Int.add x.to q = x.to + q := rfl
  have e5 : Int.sub (x.to + q) x.fr = x.to + q - x.fr := rfl
  unfold atI atR kR
  rw [hx.till, e1, wrap_small (x := x.to + x.len - 1) (by omega) (by omega), e, wrap_small (x := q - x.fr) (by omega) (by omega), e2, e3, e4, wrap_small (x := x.to + q) (by omega) (by omega), e5]
  have : x.to + (q - x.fr) = x.to + q - x.fr := by omega
  rw [this]
theorem hit_in {x : Mv} (hx : x.Good) {s : List Nat} {q : Int} (h : hitMv s q x = true) : x.line = s ∧ x.fr ≤ q ∧ q < x.fr + x.len := by
  unfold hitMv at h
  rw [hx.end_] at h
  simp only [Bool.and_eq_true, Bool.not_eq_true', decide_eq_true_eq, decide_eq_false_iff_not] at h
  exact ⟨(beqL_iff _ _).1 h.1.1, by omega, h.2⟩
theorem car_same {m : List Mv} (h : mapR m = 0) (s : List Nat) {q : Int} (h0 : 0 ≤ q) (h1 : q ≤ 800000) : carP m s q = carR m s q := by
  unfold carP carR
  rw [← find_same (l := m) (f := hitMv s q) fun x hx => hit_same (map_good h hx) s h0 h1]
  cases hf : m.find? (hitMv s q) with
  | none => rfl
  | some x =>
    have hm := List.mem_of_find?_eq_some hf
    have hh := List.find?_some hf
    have hg := map_good h hm
    obtain ⟨_, a, b⟩ := hit_in hg hh
    simp only [at_same hg a b]
end Go.Sim

/-
Histories: data; the program's CheckHistory, On; moves that carry back.
-/
-- INJ Sv.row_iff svs_iff
namespace Go.Sim
open Go Go.Proofs
set_option maxRecDepth 100000
set_option maxHeartbeats 8000000
structure Sv where
  day : Int
  net : Net
  map : List Mv
def Sv.row (s : Sv) : List AV := i64 s.day :: (s.net.cells ++ [.ps .unk (s.map.map Mv.row)])
theorem Sv.row_inj (a b : Sv) (h : a.row = b.row) : a = b := by
  obtain ⟨d, n, m⟩ := a
  obtain ⟨d', n', m'⟩ := b
  unfold Sv.row Net.cells at h
  simp only [List.cons_append, List.nil_append, List.cons.injEq, AV.int.injEq, AV.ps.injEq, true_and, and_true] at h
  obtain ⟨rfl, h1, h2, h3, h4⟩ := h
  have hn : n = n' := Net.cells_inj n n' (by unfold Net.cells; rw [h1, h2, h3])
  rw [hn, map_inj Mv.row_inj h4]
theorem Sv.row_iff (a b : Sv) : a.row = b.row ↔ a = b := ⟨Sv.row_inj a b, fun h => by rw [h]⟩
theorem svs_iff (a b : List Sv) : a.map Sv.row = b.map Sv.row ↔ a = b := ⟨fun h => map_inj Sv.row_inj h, fun h => by rw [h]⟩
theorem Sv.row_len (s : Sv) : s.row.length = 5 := rfl
structure HistOk (h : List Sv) : Prop where
  few : h.length ≤ maxRows
  net : ∀ s ∈ h, s.net.Ok
  map : ∀ s ∈ h, MapOk s.map
def lastD (h : List Sv) : Nat → Int
  | 0 => -1
  | k + 1 => match h[k]? with
    | some s => s.day
    | none => -1
def prevN (h : List Sv) : Nat → Net
  | 0 => ⟨[], [], []⟩
  | k + 1 => match h[k]? with
    | some s => s.net
    | none => ⟨[], [], []⟩
def survP (h : List Sv) (i : Nat) : Int := match h[i]? with
  | none => 0
  | some s =>
    let e := firstI [rangeI s.day 0 100000, whenI (!decide (lastD h i < s.day)) 11, netP s.net, mapP s.map]
    if e = 0 then (if decide ((i : Int) = 0) && decide ((0 : Int) < s.map.length) then 21 else if 0 < i then fitsP (prevN h i) s.net s.map else 0) else e
def histE (h : List Sv) : Int := firstI [whenI (decide ((h.length : Int) = 0)) 12, whenI (decide ((6 : Int) < h.length)) 5]
def histP (h : List Sv) : Int := if histE h = 0 then allR (survP h) h.length else histE h
noncomputable def PPF69 : FuncId → Option (List AV → Option AV) := addPrim 111 p111 (addPrim 50 p50 (addPrim 49 p49 (addPrim 29 p29 (addPrim 121 p121 (addPrim 115 p115 (fun _ => none))))))
theorem primsF69 : PrimsOk NC PPF69 := primsOk_add (primsOk_add (primsOk_add (primsOk_add (primsOk_add (primsOk_add (primsOk_none) (by kernel_rfl) (by kernel_rfl) pok115) (by kernel_rfl) (by kernel_rfl) pok121) (by kernel_rfl) (by kernel_rfl) pok29) (by kernel_rfl) (by kernel_rfl) pok49) (by kernel_rfl) (by kernel_rfl) pok50) (by kernel_rfl) (by kernel_rfl) pok111
theorem enF69_115 {rec : Rec} {lo : Nat} {args : List AV} {H : Heap} {K : AV → Heap → Prop} : VO (aenter (NC.withPrims PPF69) rec lo 115 args H) K = AO (p115 args) fun v => K v H := enter_prim (by rfl) (by kernel_rfl)
theorem enF69_121 {rec : Rec} {lo : Nat} {args : List AV} {H : Heap} {K : AV → Heap → Prop} : VO (aenter (NC.withPrims PPF69) rec lo 121 args H) K = AO (p121 args) fun v => K v H := enter_prim (by rfl) (by kernel_rfl)
theorem enF69_29 {rec : Rec} {lo : Nat} {args : List AV} {H : Heap} {K : AV → Heap → Prop} : VO (aenter (NC.withPrims PPF69) rec lo 29 args H) K = AO (p29 args) fun v => K v H := enter_prim (by rfl) (by kernel_rfl)
theorem enF69_49 {rec : Rec} {lo : Nat} {args : List AV} {H : Heap} {K : AV → Heap → Prop} : VO (aenter (NC.withPrims PPF69) rec lo 49 args H) K = AO (p49 args) fun v => K v H := enter_prim (by rfl) (by kernel_rfl)
theorem enF69_50 {rec : Rec} {lo : Nat} {args : List AV} {H : Heap} {K : AV → Heap → Prop} : VO (aenter (NC.withPrims PPF69) rec lo 50 args H) K = AO (p50 args) fun v => K v H := enter_prim (by rfl) (by kernel_rfl)
theorem enF69_111 {rec : Rec} {lo : Nat} {args : List AV} {H : Heap} {K : AV → Heap → Prop} : VO (aenter (NC.withPrims PPF69) rec lo 111 args H) K = AO (p111 args) fun v => K v H := enter_prim (by rfl) (by kernel_rfl)
attribute [go_sem ↓] enF69_115 enF69_121 enF69_29 enF69_49 enF69_50 enF69_111
theorem c69 (h : List Sv) (hp : HistOk h) : ∀ lo H, CallOk NC lo 69 [.ps .unk (h.map Sv.row)] H (i64 (histP h)) H := by
  refine contract saneNC primsF69 (fn := Tryz.f69) (by kernel_rfl) Tryz.func69 rfl rfl (by rfl) (by first | rfl | (split <;> first | rfl | (split <;> rfl))) ?_
  have hl := hp.few
  generalize hE0 : histE h = E0
  have hE0' := hE0
  unfold histE at hE0'
  rcases Classical.propComplete (E0 = 0) with z0 | z0
  case inr =>
    simp only [go_sem, reduceIte, Nat.reduceEqDiff, Nat.reduceAdd, Nat.reduceMul, Nat.reduceSub, Nat.reduceLeDiff, Nat.reduceLT, Nat.reduceBEq, reduceCtorEq, List.length_map, e121, e111_2, hE0', z0]
    simp [histP, hE0, z0]
  simp only [go_sem, reduceIte, Nat.reduceEqDiff, Nat.reduceAdd, Nat.reduceMul, Nat.reduceSub, Nat.reduceLeDiff, Nat.reduceLT, Nat.reduceBEq, reduceCtorEq, List.length_map, e121, e111_2, hE0', z0]
  refine W_for (fun k T H M => M = [] ∧ getT T 0 = .ps .unk (h.map Sv.row) ∧ getT T 22 = .ps .unk (h.map Sv.row) ∧ getT T 23 = i64 (h.length : Nat) ∧ getT T 24 = i64 k ∧ getT T 4 = i64 (lastD h k) ∧ allR (survP h) h.length = firstI (((List.range h.length).map (survP h)).drop k)) h.length ?_ ?_ ?_
  · simp only [go_sem, reduceIte, Nat.reduceEqDiff, Nat.reduceAdd, Nat.reduceMul, Nat.reduceSub, Nat.reduceLeDiff, Nat.reduceLT, Nat.reduceBEq, reduceCtorEq, List.length_map]; exact ⟨rfl, rfl⟩
  · rintro k T H M hk ⟨rfl, g0, g22, g23, g24, g4, hf⟩
    obtain ⟨s, hs⟩ : ∃ p, h[k]? = some p := ⟨h[k], by simp⟩
    have hr := map_at (f := Sv.row) hs
    have hw := wrap_succ hk hl
    have hmem := List.mem_of_getElem? hs
    have hfd := allR_step (f := survP h) hk
    have hsucc : lastD h (k + 1) = s.day := by unfold lastD; simp only [hs]
    have en := pe29 s.net (hp.net s hmem)
    have em := pe49 s.map (hp.map s hmem)
    generalize hE : firstI [rangeI s.day 0 100000, whenI (!decide (lastD h k < s.day)) 11, netP s.net, mapP s.map] = E
    have hms : survP h k = if E = 0 then (if decide ((k : Int) = 0) && decide ((0 : Int) < s.map.length) then 21 else if 0 < k then fitsP (prevN h k) s.net s.map else 0) else E := by
      unfold survP; simp only [hs, hE]
    have hwp : 0 < k → wrapq .i64 (Int.sub (k : Int) 1) = ((k - 1 : Nat) : Int) := fun h => wrap_pred h (Nat.le_of_lt hk) hl
    obtain ⟨l, hl1⟩ : ∃ p, h[k - 1]? = some p := ⟨h[k - 1]'(by omega), by simp⟩
    have hr1 := map_at (f := Sv.row) hl1
    have hk1 : (k - 1 < h.length) = True := by simp; omega
    have hpos : ((0 : Int) < (k : Int)) = (0 < k) := by simp
    have hz : ((k : Int) = 0) = (k = 0) := by simp
    have ef := pe50 s.map l.net s.net ⟨hp.map s hmem, hp.net l (List.mem_of_getElem? hl1), hp.net s hmem⟩
    have hprev : 0 < k → prevN h k = l.net := fun h0 => by
      obtain ⟨j, rfl⟩ : ∃ j, k = j + 1 := ⟨k - 1, by omega⟩
      simp only [Nat.add_sub_cancel] at hl1
      unfold prevN; simp only [hl1]
    generalize hF : fitsP l.net s.net s.map = F at ef
    obtain ⟨d, ⟨a, b, c⟩, m⟩ := s
    obtain ⟨d', ⟨a', b', c'⟩, m'⟩ := l
    simp only [Sv.row, Net.cells, List.cons_append, List.nil_append, i64] at hr hr1 en em ef
    simp only at hE hms hsucc
    rcases Classical.propComplete (E = 0) with z | z
    case inr =>
      simp only [go_sem, reduceIte, Nat.reduceEqDiff, Nat.reduceAdd, Nat.reduceMul, Nat.reduceSub, Nat.reduceLeDiff, Nat.reduceLT, Nat.reduceBEq, reduceCtorEq, g0, g22, g23, g24, g4, List.length_map, hk, hr, e115, e121, en, em, e111_4, hE, z]
      simp [histP, hE0, z0, hf, hfd, hms, z]
    by_cases hk0 : k = 0
    · have hk0' : (0 < k) = False := by simp; omega
      have hk0'' : (k = 0) = True := by simp [hk0]
      rcases Classical.propComplete ((0 : Int) < m.length) with z1 | z1
      · have h4 : survP h k = 21 := by rw [hms]; simp only [z, hz, hk0'', z1, if_true, decide_true, Bool.and_self]
        simp only [go_sem, reduceIte, Nat.reduceEqDiff, Nat.reduceAdd, Nat.reduceMul, Nat.reduceSub, Nat.reduceLeDiff, Nat.reduceLT, Nat.reduceBEq, reduceCtorEq, g0, g22, g23, g24, g4, List.length_map, hk, hr, hw, e115, e121, en, em, e111_4, hE, z, z1, hz, hk0'']
        simp [histP, hE0, z0, hf, hfd, h4]
      · have h4 : survP h k = 0 := by rw [hms]; simp only [z, hz, hk0', hk0'', z1, if_true, if_false, decide_true, decide_false, Bool.and_false, Bool.false_eq_true]
        simp only [go_sem, reduceIte, Nat.reduceEqDiff, Nat.reduceAdd, Nat.reduceMul, Nat.reduceSub, Nat.reduceLeDiff, Nat.reduceLT, Nat.reduceBEq, reduceCtorEq, g0, g22, g23, g24, g4, List.length_map, hk, hr, hw, e115, e121, en, em, e111_4, hE, z, z1, hz, hpos, hk0', hk0'']
        exact ⟨by rw [hsucc], by rw [hf, hfd, h4, if_pos rfl]⟩
    · have hk0' : (0 < k) = True := by simp; omega
      have hk0'' : (k = 0) = False := by simp [hk0]
      have hwp' := hwp (by omega)
      have hpv := hprev (by omega)
      rcases Classical.propComplete (F = 0) with z1 | z1
      · simp only [go_sem, reduceIte, Nat.reduceEqDiff, Nat.reduceAdd, Nat.reduceMul, Nat.reduceSub, Nat.reduceLeDiff, Nat.reduceLT, Nat.reduceBEq, reduceCtorEq, g0, g22, g23, g24, g4, List.length_map, hk, hr, hw, e115, e121, en, em, e111_4, hE, z, hz, hpos, hk0', hk0'', hwp', hk1, hr1, ef, z1]
        refine ⟨by rw [hsucc], ?_⟩
        rw [hf, hfd, hms, hpv]; simp [z, hF, z1, hk0]
      · simp only [go_sem, reduceIte, Nat.reduceEqDiff, Nat.reduceAdd, Nat.reduceMul, Nat.reduceSub, Nat.reduceLeDiff, Nat.reduceLT, Nat.reduceBEq, reduceCtorEq, g0, g22, g23, g24, g4, List.length_map, hk, hr, hw, e115, e121, en, em, e111_4, hE, z, hz, hpos, hk0', hk0'', hwp', hk1, hr1, ef, z1]
        simp [histP, hE0, z0, hf, hfd, hms, z, hz, hk0, hpv, hF, z1]
  · rintro T H M ⟨rfl, g0, g22, g23, g24, g4, hf⟩
    rw [allR_end] at hf
    simp only [go_sem, reduceIte, Nat.reduceEqDiff, Nat.reduceAdd, Nat.reduceMul, Nat.reduceSub, Nat.reduceLeDiff, Nat.reduceLT, Nat.reduceBEq, reduceCtorEq, g0, g22, g23, g24, g4, Nat.lt_irrefl]
    simp [histP, hE0, z0, hf]
noncomputable def p69 : List AV → Option AV := primOf (α := (List Sv)) (fun x => [.ps .unk (x.map Sv.row)]) (fun x => HistOk x) (fun x => i64 (histP x))
theorem pok69 : ∀ args v, p69 args = some v → ∀ lo H, CallOk NC lo 69 args H v H := by
  intro args v h
  obtain ⟨x, rfl, hp, rfl⟩ := primOf_inv h
  exact c69 x hp
theorem pe69 (h : List Sv) (hp : HistOk h) : p69 [.ps .unk (h.map Sv.row)] = some (.int .i64 (histP h)) := primOf_enc (α := (List Sv)) (enc := fun x => [.ps .unk (x.map Sv.row)]) (pre := fun x => HistOk x) (spec := fun x => i64 (histP x)) (by intro x y h; (simp only [List.cons.injEq, AV.agg.injEq, AV.str.injEq, AV.int.injEq, AV.ps.injEq, AV.bool.injEq, Net.cells_iff, Ln.row_iff, Pc.row_iff, Mv.row_iff, lns_iff, pcs_iff, mvs_iff, Sv.row_iff, svs_iff, true_and, and_true] at h; first | simpa only [Prod.ext_iff] using h | simpa only [Prod.ext_iff, and_assoc] using h)) h hp
def onK (h : List Sv) (d : Int) : Nat → Int
  | 0 => -1
  | k + 1 => match h[k]? with
    | some s => if d < s.day then onK h d k else k
    | none => onK h d k
def onQ (h : List Sv) (d : Int) : Int × Int :=
  if rangeI d 0 100000 = 0 then (maxI 0 (onK h d h.length), whenI (decide (onK h d h.length < 0)) 7) else (0, rangeI d 0 100000)
noncomputable def PPF140 : FuncId → Option (List AV → Option AV) := addPrim 121 p121 (addPrim 115 p115 (fun _ => none))
theorem primsF140 : PrimsOk NC PPF140 := primsOk_add (primsOk_add (primsOk_none) (by kernel_rfl) (by kernel_rfl) pok115) (by kernel_rfl) (by kernel_rfl) pok121
theorem enF140_115 {rec : Rec} {lo : Nat} {args : List AV} {H : Heap} {K : AV → Heap → Prop} : VO (aenter (NC.withPrims PPF140) rec lo 115 args H) K = AO (p115 args) fun v => K v H := enter_prim (by rfl) (by kernel_rfl)
theorem enF140_121 {rec : Rec} {lo : Nat} {args : List AV} {H : Heap} {K : AV → Heap → Prop} : VO (aenter (NC.withPrims PPF140) rec lo 121 args H) K = AO (p121 args) fun v => K v H := enter_prim (by rfl) (by kernel_rfl)
attribute [go_sem ↓] enF140_115 enF140_121
theorem c140 (h : List Sv) (d : Int) (hp : h.length ≤ maxRows) : ∀ lo H, CallOk NC lo 140 [.ps .unk (h.map Sv.row), i64 d] H (.tup [i64 (onQ h d).1, i64 (onQ h d).2]) H := by
  refine contract saneNC primsF140 (fn := Tryz.f140) (by kernel_rfl) Tryz.func140 rfl rfl (by rfl) (by first | rfl | (split <;> first | rfl | (split <;> rfl))) ?_
  have hl := hp
  generalize hE : rangeI d 0 100000 = E
  rcases Classical.propComplete (E = 0) with z | z
  case inr =>
    simp only [go_sem, reduceIte, Nat.reduceEqDiff, Nat.reduceAdd, Nat.reduceMul, Nat.reduceSub, Nat.reduceLeDiff, Nat.reduceLT, Nat.reduceBEq, reduceCtorEq, e115, hE, z]
    simp [onQ, hE, z]
  simp only [go_sem, reduceIte, Nat.reduceEqDiff, Nat.reduceAdd, Nat.reduceMul, Nat.reduceSub, Nat.reduceLeDiff, Nat.reduceLT, Nat.reduceBEq, reduceCtorEq, e115, hE, z]
  refine W_for (fun k T H M => M = [] ∧ getT T 1 = i64 d ∧ getT T 15 = .ps .unk (h.map Sv.row) ∧ getT T 16 = i64 (h.length : Nat) ∧ getT T 17 = i64 k ∧ getT T 7 = i64 (onK h d k)) h.length ?_ ?_ ?_
  · simp only [go_sem, reduceIte, Nat.reduceEqDiff, Nat.reduceAdd, Nat.reduceMul, Nat.reduceSub, Nat.reduceLeDiff, Nat.reduceLT, Nat.reduceBEq, reduceCtorEq, List.length_map]; rfl
  · rintro k T H M hk ⟨rfl, g1, g15, g16, g17, g7⟩
    obtain ⟨s, hs⟩ : ∃ p, h[k]? = some p := ⟨h[k], by simp⟩
    have hr := map_at (f := Sv.row) hs
    have hw := wrap_succ hk hl
    have hon : onK h d (k + 1) = if d < s.day then onK h d k else k := by
      show (match h[k]? with | some s => if d < s.day then onK h d k else (k : Int) | none => onK h d k) = _
      rw [hs]
    obtain ⟨dd, ⟨a, b, c⟩, m⟩ := s
    simp only [Sv.row, Net.cells, List.cons_append, List.nil_append, i64] at hr
    simp only at hon
    rcases Classical.propComplete (d < dd) with z1 | z1 <;> simp only [go_sem, reduceIte, Nat.reduceEqDiff, Nat.reduceAdd, Nat.reduceMul, Nat.reduceSub, Nat.reduceLeDiff, Nat.reduceLT, Nat.reduceBEq, reduceCtorEq, g1, g15, g16, g17, g7, List.length_map, hk, hr, hw, z1] <;> rw [hon] <;> simp [z1]
  · rintro T H M ⟨rfl, g1, g15, g16, g17, g7⟩
    simp only [go_sem, reduceIte, Nat.reduceEqDiff, Nat.reduceAdd, Nat.reduceMul, Nat.reduceSub, Nat.reduceLeDiff, Nat.reduceLT, Nat.reduceBEq, reduceCtorEq, g1, g15, g16, g17, g7, Nat.lt_irrefl, e121]
    simp [onQ, hE, z]
noncomputable def p140 : List AV → Option AV := primOf (α := (List Sv) × (Int)) (fun x => [.ps .unk (x.1.map Sv.row), i64 x.2]) (fun x => x.1.length ≤ maxRows) (fun x => .tup [i64 (onQ x.1 x.2).1, i64 (onQ x.1 x.2).2])
theorem pok140 : ∀ args v, p140 args = some v → ∀ lo H, CallOk NC lo 140 args H v H := by
  intro args v h
  obtain ⟨x, rfl, hp, rfl⟩ := primOf_inv h
  exact c140 x.1 x.2 hp
theorem pe140 (h : List Sv) (d : Int) (hp : h.length ≤ maxRows) : p140 [.ps .unk (h.map Sv.row), .int .i64 d] = some (.tup [.int .i64 (onQ h d).1, .int .i64 (onQ h d).2]) := primOf_enc (α := (List Sv) × (Int)) (enc := fun x => [.ps .unk (x.1.map Sv.row), i64 x.2]) (pre := fun x => x.1.length ≤ maxRows) (spec := fun x => .tup [i64 (onQ x.1 x.2).1, i64 (onQ x.1 x.2).2]) (by intro x y h; (simp only [List.cons.injEq, AV.agg.injEq, AV.str.injEq, AV.int.injEq, AV.ps.injEq, AV.bool.injEq, Net.cells_iff, Ln.row_iff, Pc.row_iff, Mv.row_iff, lns_iff, pcs_iff, mvs_iff, Sv.row_iff, svs_iff, true_and, and_true] at h; first | simpa only [Prod.ext_iff] using h | simpa only [Prod.ext_iff, and_assoc] using h)) (h, d) hp
theorem onK_in (h : List Sv) (d : Int) : ∀ n, n ≤ h.length → onK h d n < 0 ∨ ∃ k : Nat, onK h d n = k ∧ k < n
  | 0, _ => .inl (by show (-1 : Int) < 0; decide)
  | n + 1, hn => by
    have ih := onK_in h d n (by omega)
    unfold onK
    obtain ⟨s, hs⟩ : ∃ p, h[n]? = some p := ⟨h[n], by simp⟩
    simp only [hs]
    split
    · rcases ih with ih | ⟨k, h1, h2⟩
      · exact .inl ih
      · exact .inr ⟨k, h1, by omega⟩
    · exact .inr ⟨n, rfl, by omega⟩
theorem onQ_good {h : List Sv} {d : Int} (h0 : (onQ h d).2 = 0) : ∃ (k : Nat) (s : Sv), (onQ h d).1 = k ∧ k < h.length ∧ h[k]? = some s := by
  unfold onQ at h0 ⊢
  split at h0
  · rename_i hz
    simp only [hz, if_true]
    rcases onK_in h d h.length (Nat.le_refl _) with h1 | ⟨k, h1, h2⟩
    · simp [h1, whenI] at h0
    · refine ⟨k, h[k], ?_, h2, by simp⟩
      show maxI 0 _ = _
      rw [h1]; unfold maxI; split <;> omega
  · rename_i hz; exact absurd h0 hz
def onFP (h : List Sv) (d : Int) : Int × Int := if histP h = 0 then onQ h d else (0, histP h)
noncomputable def PPF63 : FuncId → Option (List AV → Option AV) := addPrim 140 p140 (addPrim 69 p69 (fun _ => none))
theorem primsF63 : PrimsOk NC PPF63 := primsOk_add (primsOk_add (primsOk_none) (by kernel_rfl) (by kernel_rfl) pok69) (by kernel_rfl) (by kernel_rfl) pok140
theorem enF63_69 {rec : Rec} {lo : Nat} {args : List AV} {H : Heap} {K : AV → Heap → Prop} : VO (aenter (NC.withPrims PPF63) rec lo 69 args H) K = AO (p69 args) fun v => K v H := enter_prim (by rfl) (by kernel_rfl)
theorem enF63_140 {rec : Rec} {lo : Nat} {args : List AV} {H : Heap} {K : AV → Heap → Prop} : VO (aenter (NC.withPrims PPF63) rec lo 140 args H) K = AO (p140 args) fun v => K v H := enter_prim (by rfl) (by kernel_rfl)
attribute [go_sem ↓] enF63_69 enF63_140
theorem c63 (h : List Sv) (d : Int) (hp : HistOk h) : ∀ lo H, CallOk NC lo 63 [.ps .unk (h.map Sv.row), i64 d] H (.tup [i64 (onFP h d).1, i64 (onFP h d).2]) H := by
  refine contract saneNC primsF63 (fn := Tryz.f63) (by kernel_rfl) Tryz.func63 rfl rfl (by rfl) (by first | rfl | (split <;> first | rfl | (split <;> rfl))) ?_
  have e1 := pe69 h hp
  have e2 := pe140 h d hp.few
  unfold onFP
  generalize histP h = E at e1 ⊢
  rcases Classical.propComplete (E = 0) with z | z <;> simp only [go_sem, reduceIte, Nat.reduceEqDiff, Nat.reduceAdd, Nat.reduceMul, Nat.reduceSub, Nat.reduceLeDiff, Nat.reduceLT, Nat.reduceBEq, reduceCtorEq, e1, e2, z]
noncomputable def p63 : List AV → Option AV := primOf (α := (List Sv) × (Int)) (fun x => [.ps .unk (x.1.map Sv.row), i64 x.2]) (fun x => HistOk x.1) (fun x => .tup [i64 (onFP x.1 x.2).1, i64 (onFP x.1 x.2).2])
theorem pok63 : ∀ args v, p63 args = some v → ∀ lo H, CallOk NC lo 63 args H v H := by
  intro args v h
  obtain ⟨x, rfl, hp, rfl⟩ := primOf_inv h
  exact c63 x.1 x.2 hp
theorem pe63 (h : List Sv) (d : Int) (hp : HistOk h) : p63 [.ps .unk (h.map Sv.row), .int .i64 d] = some (.tup [.int .i64 (onFP h d).1, .int .i64 (onFP h d).2]) := primOf_enc (α := (List Sv) × (Int)) (enc := fun x => [.ps .unk (x.1.map Sv.row), i64 x.2]) (pre := fun x => HistOk x.1) (spec := fun x => .tup [i64 (onFP x.1 x.2).1, i64 (onFP x.1 x.2).2]) (by intro x y h; (simp only [List.cons.injEq, AV.agg.injEq, AV.str.injEq, AV.int.injEq, AV.ps.injEq, AV.bool.injEq, Net.cells_iff, Ln.row_iff, Pc.row_iff, Mv.row_iff, lns_iff, pcs_iff, mvs_iff, Sv.row_iff, svs_iff, true_and, and_true] at h; first | simpa only [Prod.ext_iff] using h | simpa only [Prod.ext_iff, and_assoc] using h)) (h, d) hp
/-! ### Moves that carry back -/
def undoMv (x : Mv) : Mv := ⟨x.other, x.to, x.len, x.line, x.fr, x.turned⟩
noncomputable def PPF200 : FuncId → Option (List AV → Option AV) := fun _ => none
theorem primsF200 : PrimsOk NC PPF200 := primsOk_none
theorem c200 (x : Mv) : ∀ lo H, CallOk NC lo 200 [.agg x.row] H (.agg (undoMv x).row) H := by
  refine contract saneNC primsF200 (fn := Tryz.f200) (by kernel_rfl) Tryz.func200 rfl rfl (by rfl) (by first | rfl | (split <;> first | rfl | (split <;> rfl))) ?_
  obtain ⟨a, b, c, d, e, f⟩ := x
  simp only [go_sem, reduceIte, Nat.reduceEqDiff, Nat.reduceAdd, Nat.reduceMul, Nat.reduceSub, Nat.reduceLeDiff, Nat.reduceLT, Nat.reduceBEq, reduceCtorEq, Mv.row, undoMv]
noncomputable def p200 : List AV → Option AV := primOf (α := (Mv)) (fun x => [.agg x.row]) (fun x => True) (fun x => .agg (undoMv x).row)
theorem pok200 : ∀ args v, p200 args = some v → ∀ lo H, CallOk NC lo 200 args H v H := by
  intro args v h
  obtain ⟨x, rfl, hp, rfl⟩ := primOf_inv h
  exact c200 x
theorem pe200 (x : Mv) : p200 [.agg x.row] = some (.agg (undoMv x).row) := primOf_enc (α := (Mv)) (enc := fun x => [.agg x.row]) (pre := fun x => True) (spec := fun x => .agg (undoMv x).row) (by intro x y h; (simp only [List.cons.injEq, AV.agg.injEq, AV.str.injEq, AV.int.injEq, AV.ps.injEq, AV.bool.injEq, Net.cells_iff, Ln.row_iff, Pc.row_iff, Mv.row_iff, lns_iff, pcs_iff, mvs_iff, Sv.row_iff, svs_iff, true_and, and_true] at h; first | simpa only [Prod.ext_iff] using h | simpa only [Prod.ext_iff, and_assoc] using h)) x trivial
noncomputable def PPF199 : FuncId → Option (List AV → Option AV) := addPrim 200 p200 (fun _ => none)
theorem primsF199 : PrimsOk NC PPF199 := primsOk_add (primsOk_none) (by kernel_rfl) (by kernel_rfl) pok200
theorem enF199_200 {rec : Rec} {lo : Nat} {args : List AV} {H : Heap} {K : AV → Heap → Prop} : VO (aenter (NC.withPrims PPF199) rec lo 200 args H) K = AO (p200 args) fun v => K v H := enter_prim (by rfl) (by kernel_rfl)
attribute [go_sem ↓] enF199_200
theorem c199 (m : List Mv) (hp : m.length ≤ maxRows) : ∀ lo H, CallOk NC lo 199 [.ps .unk (m.map Mv.row), .fn 200 [] []] H (.ps .unk ((m.map undoMv).map Mv.row)) H := by
  refine contract saneNC primsF199 (fn := Tryz.f199) (by kernel_rfl) Tryz.func199 rfl rfl (by rfl) (by first | rfl | (split <;> first | rfl | (split <;> rfl))) ?_
  have hl := hp
  simp only [go_sem, reduceIte, Nat.reduceEqDiff, Nat.reduceAdd, Nat.reduceMul, Nat.reduceSub, Nat.reduceLeDiff, Nat.reduceLT, Nat.reduceBEq, reduceCtorEq]
  refine W_for (fun k T H M => M = [] ∧ getT T 1 = .fn 200 [] [] ∧ getT T 8 = .ps .unk (m.map Mv.row) ∧ getT T 9 = i64 (m.length : Nat) ∧ getT T 10 = i64 k ∧ ∃ t, getT T 5 = .ps t (((m.take k).map undoMv).map Mv.row) ∧ App H t (((m.take k).map undoMv).map Mv.row) 6 130) m.length ?_ ?_ ?_
  · simp only [go_sem, reduceIte, Nat.reduceEqDiff, Nat.reduceAdd, Nat.reduceMul, Nat.reduceSub, Nat.reduceLeDiff, Nat.reduceLT, Nat.reduceBEq, reduceCtorEq, List.length_map]; exact ⟨.nil, by simp, .inl ⟨rfl, rfl⟩⟩
  · rintro k T H M hk ⟨rfl, g1, g8, g9, g10, t, g5, hA⟩
    obtain ⟨x, hx⟩ : ∃ p, m[k]? = some p := ⟨m[k], by simp⟩
    have hr := map_at (f := Mv.row) hx
    have hw := wrap_succ hk hl
    have htk : ((m.take (k + 1)).map undoMv).map Mv.row = ((m.take k).map undoMv).map Mv.row ++ [(undoMv x).row] := by rw [take_map hx, List.map_append]; rfl
    have e200 := pe200 x
    obtain ⟨t', H1, ha, hB, hn1, hc1, _⟩ := app_any (H := (H.push (.cells [.str [], .int .i64 0, .int .i64 0, .str [], .int .i64 0, .bool false] 130)).set H.n (.cells x.row 130)) (hA.fresh _ _ rfl) (r := (undoMv x).row) (by simp; omega) rfl (by decide) (by simpa using rows_all Mv.row_len ((m.take k).map undoMv))
    obtain ⟨a, b, c, d, e, f⟩ := x
    simp only [Mv.row, undoMv] at hr ha e200
    simp only [go_sem, reduceIte, Nat.reduceEqDiff, Nat.reduceAdd, Nat.reduceMul, Nat.reduceSub, Nat.reduceLeDiff, Nat.reduceLT, Nat.reduceBEq, reduceCtorEq, g1, g8, g9, g10, g5, List.length_map, hk, hr, hw, e200, appO, ha]
    rw [htk]
    exact ⟨t', rfl, hB⟩
  · rintro T H M ⟨rfl, g1, g8, g9, g10, t, g5, hA⟩
    simp only [go_sem, reduceIte, Nat.reduceEqDiff, Nat.reduceAdd, Nat.reduceMul, Nat.reduceSub, Nat.reduceLeDiff, Nat.reduceLT, Nat.reduceBEq, reduceCtorEq, g1, g8, g9, g10, g5, List.take_length, Nat.lt_irrefl]
noncomputable def p199 : List AV → Option AV := primOf (α := (List Mv)) (fun x => [.ps .unk (x.map Mv.row), .fn 200 [] []]) (fun x => x.length ≤ maxRows) (fun x => .ps .unk ((x.map undoMv).map Mv.row))
theorem pok199 : ∀ args v, p199 args = some v → ∀ lo H, CallOk NC lo 199 args H v H := by
  intro args v h
  obtain ⟨x, rfl, hp, rfl⟩ := primOf_inv h
  exact c199 x hp
theorem pe199 (m : List Mv) (hp : m.length ≤ maxRows) : p199 [.ps .unk (m.map Mv.row), .fn 200 [] []] = some (.ps .unk ((m.map undoMv).map Mv.row)) := primOf_enc (α := (List Mv)) (enc := fun x => [.ps .unk (x.map Mv.row), .fn 200 [] []]) (pre := fun x => x.length ≤ maxRows) (spec := fun x => .ps .unk ((x.map undoMv).map Mv.row)) (by intro x y h; (simp only [List.cons.injEq, AV.agg.injEq, AV.str.injEq, AV.int.injEq, AV.ps.injEq, AV.bool.injEq, Net.cells_iff, Ln.row_iff, Pc.row_iff, Mv.row_iff, lns_iff, pcs_iff, mvs_iff, Sv.row_iff, svs_iff, true_and, and_true] at h; first | simpa only [Prod.ext_iff] using h | simpa only [Prod.ext_iff, and_assoc] using h)) m hp
noncomputable def PPF136 : FuncId → Option (List AV → Option AV) := addPrim 199 p199 (fun _ => none)
theorem primsF136 : PrimsOk NC PPF136 := primsOk_add (primsOk_none) (by kernel_rfl) (by kernel_rfl) pok199
theorem enF136_199 {rec : Rec} {lo : Nat} {args : List AV} {H : Heap} {K : AV → Heap → Prop} : VO (aenter (NC.withPrims PPF136) rec lo 199 args H) K = AO (p199 args) fun v => K v H := enter_prim (by rfl) (by kernel_rfl)
attribute [go_sem ↓] enF136_199
theorem c136 (m : List Mv) (hp : m.length ≤ maxRows) : ∀ lo H, CallOk NC lo 136 [.ps .unk (m.map Mv.row)] H (.ps .unk ((m.map undoMv).map Mv.row)) H := by
  refine contract saneNC primsF136 (fn := Tryz.f136) (by kernel_rfl) Tryz.func136 rfl rfl (by rfl) (by first | rfl | (split <;> first | rfl | (split <;> rfl))) ?_
  have e := pe199 m hp
  simp only [go_sem, reduceIte, Nat.reduceEqDiff, Nat.reduceAdd, Nat.reduceMul, Nat.reduceSub, Nat.reduceLeDiff, Nat.reduceLT, Nat.reduceBEq, reduceCtorEq, e]
noncomputable def p136 : List AV → Option AV := primOf (α := (List Mv)) (fun x => [.ps .unk (x.map Mv.row)]) (fun x => x.length ≤ maxRows) (fun x => .ps .unk ((x.map undoMv).map Mv.row))
theorem pok136 : ∀ args v, p136 args = some v → ∀ lo H, CallOk NC lo 136 args H v H := by
  intro args v h
  obtain ⟨x, rfl, hp, rfl⟩ := primOf_inv h
  exact c136 x hp
theorem pe136 (m : List Mv) (hp : m.length ≤ maxRows) : p136 [.ps .unk (m.map Mv.row)] = some (.ps .unk ((m.map undoMv).map Mv.row)) := primOf_enc (α := (List Mv)) (enc := fun x => [.ps .unk (x.map Mv.row)]) (pre := fun x => x.length ≤ maxRows) (spec := fun x => .ps .unk ((x.map undoMv).map Mv.row)) (by intro x y h; (simp only [List.cons.injEq, AV.agg.injEq, AV.str.injEq, AV.int.injEq, AV.ps.injEq, AV.bool.injEq, Net.cells_iff, Ln.row_iff, Pc.row_iff, Mv.row_iff, lns_iff, pcs_iff, mvs_iff, Sv.row_iff, svs_iff, true_and, and_true] at h; first | simpa only [Prod.ext_iff] using h | simpa only [Prod.ext_iff, and_assoc] using h)) m hp
end Go.Sim

/-
Histories: the program's Since.
-/
-- INJ Sv.row_iff svs_iff
namespace Go.Sim
open Go Go.Proofs
set_option maxRecDepth 100000
set_option maxHeartbeats 8000000
section
variable {C : Cfg} {lo : Nat} {fid : FuncId} {rnd : Bool} (T : TT AV) (H : Heap) (M : List Nat) (Q : AExit → TT AV → Heap → List Nat → Prop)
def unscope (Q : AExit → TT AV → Heap → List Nat → Prop) (e : AExit) (T : TT AV) (H : Heap) (M : List Nat) (_t : Tag Q := ⟨⟩) : Prop := match e with
  | .gto _ => False
  | e => Q e T H M
theorem unscope_nrm : unscope Q .nrm T H M = Q .nrm T H M := rfl
theorem unscope_ret : unscope Q .ret T H M = Q .ret T H M := rfl
theorem unscope_ext (i : Nat) : unscope Q (.ext i) T H M = Q (.ext i) T H M := rfl
theorem W_scope (b : Code) : W C lo fid rnd (.scope b) T H M Q = W C lo fid rnd b T H M (fun e T H M => unscope Q e T H M) := by
  unfold W
  rw [R_scope]
  cases h : R C (.code lo fid rnd b ⟨T, H, M⟩) with
  | none => rfl
  | some o => obtain ⟨e, ⟨T', H', M'⟩⟩ := o; cases e <;> rfl
end
attribute [go_sem ↓] W_scope W_label unscope_nrm unscope_ret unscope_ext
abbrev Pl : Type := List Nat × Int
def carO (m : List Mv) (p : Pl) : Option Pl := (m.find? (hitMv p.1 p.2)).map fun x => (x.other, atI x p.2)
theorem carP_none {m : List Mv} {p : Pl} (h : carO m p = none) : carP m p.1 p.2 = [noPlace, .bool false] := by
  unfold carO at h; unfold carP
  cases hf : m.find? (hitMv p.1 p.2) with
  | none => rfl
  | some x => rw [hf] at h; cases h
theorem carP_some {m : List Mv} {p q : Pl} (h : carO m p = some q) : carP m p.1 p.2 = [.agg [.str q.1, i64 q.2], .bool true] := by
  unfold carO at h; unfold carP
  cases hf : m.find? (hitMv p.1 p.2) with
  | none => rw [hf] at h; cases h
  | some x => rw [hf] at h; simp only [Option.map_some, Option.some.injEq] at h; subst h; rfl
def mapAt (h : List Sv) (k : Nat) : List Mv := match h[k]? with
  | some s => s.map
  | none => []
def netAt (h : List Sv) (k : Nat) : Net := match h[k]? with
  | some s => s.net
  | none => ⟨[], [], []⟩
def goUp (h : List Sv) : Nat → Nat → Pl → Option Pl
  | 0, _, p => some p
  | n + 1, a, p => match carO (mapAt h (a + 1)) p with
    | none => none
    | some q => goUp h n (a + 1) q
def goDown (h : List Sv) : Nat → Nat → Pl → Option Pl
  | 0, _, p => some p
  | n + 1, a, p => match carO ((mapAt h a).map undoMv) p with
    | none => none
    | some q => goDown h n (a - 1) q
def goP (h : List Sv) (a b : Nat) (p : Pl) : Option Pl := if a < b then goUp h (b - a) a p else goDown h (a - b) a p
def addrP (n : Net) (p : Pl) : AV := .agg [.str p.1, i64 (addrK (lnOf n.lines p.1) p.2 (lnOf n.lines p.1).ps.length).1, i64 (addrK (lnOf n.lines p.1) p.2 (lnOf n.lines p.1).ps.length).2]
def placedQ (n : Net) (s : List Nat) (pc po : Int) : Pl × Int := match placedP n s pc po with
  | [.agg [.str t, .int _ q], .int _ e] => ((t, q), e)
  | _ => (([], 0), 0)
theorem placedQ_eq (n : Net) (s : List Nat) (pc po : Int) : placedP n s pc po = [.agg [.str (placedQ n s pc po).1.1, i64 (placedQ n s pc po).1.2], i64 (placedQ n s pc po).2] := by
  obtain ⟨s', m', e', h⟩ := placedP_shape n s pc po
  unfold placedQ; rw [h]
def sinceI (h : List Sv) (d : Int) (s : List Nat) (pc po o : Int) : List AV :=
    if (onQ h d).2 = 0 then
      if (placedQ (netAt h (onQ h d).1.toNat) s pc po).2 = 0 then
        if (onQ h o).2 = 0 then
          match goP h (onQ h d).1.toNat (onQ h o).1.toNat (placedQ (netAt h (onQ h d).1.toNat) s pc po).1 with
          | none => [noAddr, i64 7]
          | some p => [addrP (netAt h (onQ h o).1.toNat) p, i64 0]
        else [noAddr, i64 (onQ h o).2]
      else [noAddr, i64 (placedQ (netAt h (onQ h d).1.toNat) s pc po).2]
    else [noAddr, i64 (onQ h d).2]
def sinceP (h : List Sv) (d : Int) (s : List Nat) (pc po o : Int) : List AV := if histP h = 0 then sinceI h d s pc po o else [noAddr, i64 (histP h)]
theorem sinceI_pure (h : List Sv) (d : Int) (s : List Nat) (pc po o : Int) : (AV.tup (sinceI h d s pc po o)).pure = true := by
  unfold sinceI
  repeat' split
  all_goals rfl
theorem sinceP_pure (h : List Sv) (d : Int) (s : List Nat) (pc po o : Int) : (AV.tup (sinceP h d s pc po o)).pure = true := by
  unfold sinceP sinceI
  repeat' split
  all_goals rfl
noncomputable def PPF65 : FuncId → Option (List AV → Option AV) := addPrim 101 p101 (addPrim 124 p124 (addPrim 136 p136 (addPrim 102 p102 (addPrim 140 p140 (addPrim 69 p69 (fun _ => none))))))
theorem primsF65 : PrimsOk NC PPF65 := primsOk_add (primsOk_add (primsOk_add (primsOk_add (primsOk_add (primsOk_add (primsOk_none) (by kernel_rfl) (by kernel_rfl) pok69) (by kernel_rfl) (by kernel_rfl) pok140) (by kernel_rfl) (by kernel_rfl) pok102) (by kernel_rfl) (by kernel_rfl) pok136) (by kernel_rfl) (by kernel_rfl) pok124) (by kernel_rfl) (by kernel_rfl) pok101
theorem enF65_69 {rec : Rec} {lo : Nat} {args : List AV} {H : Heap} {K : AV → Heap → Prop} : VO (aenter (NC.withPrims PPF65) rec lo 69 args H) K = AO (p69 args) fun v => K v H := enter_prim (by rfl) (by kernel_rfl)
theorem enF65_140 {rec : Rec} {lo : Nat} {args : List AV} {H : Heap} {K : AV → Heap → Prop} : VO (aenter (NC.withPrims PPF65) rec lo 140 args H) K = AO (p140 args) fun v => K v H := enter_prim (by rfl) (by kernel_rfl)
theorem enF65_102 {rec : Rec} {lo : Nat} {args : List AV} {H : Heap} {K : AV → Heap → Prop} : VO (aenter (NC.withPrims PPF65) rec lo 102 args H) K = AO (p102 args) fun v => K v H := enter_prim (by rfl) (by kernel_rfl)
theorem enF65_136 {rec : Rec} {lo : Nat} {args : List AV} {H : Heap} {K : AV → Heap → Prop} : VO (aenter (NC.withPrims PPF65) rec lo 136 args H) K = AO (p136 args) fun v => K v H := enter_prim (by rfl) (by kernel_rfl)
theorem enF65_124 {rec : Rec} {lo : Nat} {args : List AV} {H : Heap} {K : AV → Heap → Prop} : VO (aenter (NC.withPrims PPF65) rec lo 124 args H) K = AO (p124 args) fun v => K v H := enter_prim (by rfl) (by kernel_rfl)
theorem enF65_101 {rec : Rec} {lo : Nat} {args : List AV} {H : Heap} {K : AV → Heap → Prop} : VO (aenter (NC.withPrims PPF65) rec lo 101 args H) K = AO (p101 args) fun v => K v H := enter_prim (by rfl) (by kernel_rfl)
attribute [go_sem ↓] enF65_69 enF65_140 enF65_102 enF65_136 enF65_124 enF65_101
theorem c65 (h : List Sv) (d : Int) (s : List Nat) (pc po o : Int) (hp : HistOk h) : ∀ lo H, CallOk NC lo 65 [.ps .unk (h.map Sv.row), i64 d, .agg [.str s, i64 pc, i64 po], i64 o] H (.tup (sinceP h d s pc po o)) H := by
  refine contract saneNC primsF65 (fn := Tryz.f65) (by kernel_rfl) Tryz.func65 rfl rfl (by rfl) (sinceP_pure h d s pc po o) ?_
  have e69 := pe69 h hp
  have e1 := pe140 h d hp.few
  have e2 := pe140 h o hp.few
  unfold sinceP sinceI
  generalize histP h = E at e69 ⊢
  rcases Classical.propComplete (E = 0) with z | z
  case inr => simp only [go_sem, reduceIte, Nat.reduceEqDiff, Nat.reduceAdd, Nat.reduceMul, Nat.reduceSub, Nat.reduceLeDiff, Nat.reduceLT, Nat.reduceBEq, reduceCtorEq, e69, z, noAddr]
  rcases Classical.propComplete ((onQ h d).2 = 0) with z1 | z1
  case inr => simp only [go_sem, reduceIte, Nat.reduceEqDiff, Nat.reduceAdd, Nat.reduceMul, Nat.reduceSub, Nat.reduceLeDiff, Nat.reduceLT, Nat.reduceBEq, reduceCtorEq, e69, e1, z, z1, noAddr]
  obtain ⟨a, sa, ha, hal, hsa⟩ := onQ_good (of_eq_true z1)
  simp only [ha] at e1
  rw [ha, Int.toNat_natCast]
  have hna : netAt h a = sa.net := by unfold netAt; rw [hsa]
  rw [hna]
  have hra := map_at (f := Sv.row) hsa
  have e102 := pe102 (sa.net, s, pc, po) (hp.net sa (List.mem_of_getElem? hsa))
  simp only [placedQ_eq] at e102
  generalize placedQ sa.net s pc po = P0 at e102 ⊢
  obtain ⟨⟨t, q⟩, ee⟩ := P0
  obtain ⟨da, ⟨na1, na2, na3⟩, ma⟩ := sa
  simp only [Sv.row, Net.cells, List.cons_append, List.nil_append, i64] at hra e102
  rcases Classical.propComplete (ee = 0) with z2 | z2
  case inr => simp only [go_sem, reduceIte, Nat.reduceEqDiff, Nat.reduceAdd, Nat.reduceMul, Nat.reduceSub, Nat.reduceLeDiff, Nat.reduceLT, Nat.reduceBEq, reduceCtorEq, List.length_map, e69, e1, e102, hal, hra, z, z1, z2, noAddr]
  rcases Classical.propComplete ((onQ h o).2 = 0) with z3 | z3
  case inr => simp only [go_sem, reduceIte, Nat.reduceEqDiff, Nat.reduceAdd, Nat.reduceMul, Nat.reduceSub, Nat.reduceLeDiff, Nat.reduceLT, Nat.reduceBEq, reduceCtorEq, List.length_map, e69, e1, e2, e102, hal, hra, z, z1, z2, z3, noAddr]
  obtain ⟨b, sb, hb, hbl, hsb⟩ := onQ_good (of_eq_true z3)
  simp only [hb] at e2
  rw [hb, Int.toNat_natCast]
  have hnb : netAt h b = sb.net := by unfold netAt; rw [hsb]
  rw [hnb]
  have hrb := map_at (f := Sv.row) hsb
  have hnb2 := hp.net sb (List.mem_of_getElem? hsb)
  have e101 := fun p : Pl => pe101 (sb.net, p.1, p.2) hnb2
  clear hna hnb hnb2
  obtain ⟨db, ⟨nb1, nb2, nb3⟩, mb⟩ := sb
  simp only [Sv.row, Net.cells, List.cons_append, List.nil_append, i64] at hrb e101
  simp only [go_sem, reduceIte, Nat.reduceEqDiff, Nat.reduceAdd, Nat.reduceMul, Nat.reduceSub, Nat.reduceLeDiff, Nat.reduceLT, Nat.reduceBEq, reduceCtorEq, List.length_map, e69, e1, e2, e102, hal, hra, z, z1, z2, z3]
  have hl := hp.few
  by_cases hab : a < b
  · have hgo : goP h a b (t, q) = goUp h (b - a) a (t, q) := by unfold goP; rw [if_pos hab]
    rw [hgo]
    generalize hR : goUp h (b - a) a (t, q) = R
    refine W_for (fun k T H M => M = [] ∧ getT T 0 = .ps .unk (h.map Sv.row) ∧ getT T 11 = i64 ((a + k : Nat) : Int) ∧ getT T 14 = i64 b ∧ getT T 13 = .ptr 2 0 ∧ getT T 8 = .ptr 1 0 ∧ getT T 15 = .bool false ∧ H.get 1 = .cells [.str [], i64 0, i64 0] 42 ∧ 2 < H.n ∧ ∃ p : Pl, H.get 2 = .cells [.str p.1, i64 p.2] 45 ∧ R = goUp h (b - a - k) (a + k) p) (b - a) ?_ ?_ ?_
    · simp only [go_sem, reduceIte, Nat.reduceEqDiff, Nat.reduceAdd, Nat.reduceMul, Nat.reduceSub, Nat.reduceLeDiff, Nat.reduceLT, Nat.reduceBEq, reduceCtorEq]
      first | exact ⟨(t, q), rfl, hR.symm⟩ | exact ⟨rfl, (t, q), rfl, hR.symm⟩
    · rintro k T H M hk ⟨rfl, g0, g11, g14, g13, g8, g15, h1, hn, p, h2, hf⟩
      have hak : a + k + 1 < h.length := by omega
      obtain ⟨s1, hs1⟩ : ∃ p, h[a + k + 1]? = some p := ⟨h[a + k + 1], by simp⟩
      have hr1 := map_at (f := Sv.row) hs1
      have hne : (((a + k : Nat) : Int) = (b : Int)) = False := by simp; omega
      have hlt : (((a + k : Nat) : Int) < (b : Int)) = True := by simp; omega
      have hw : wrapq .i64 (Int.add ((a + k : Nat) : Int) 1) = ((a + k + 1 : Nat) : Int) := wrap_succ hak hl |> fun h => by exact wrap_nat (n := a + k + 1) (by unfold maxRows at hl; omega)
      have hmap : mapAt h (a + k + 1) = s1.map := by unfold mapAt; rw [hs1]
      have e124 := pe124 s1.map p.1 p.2 (hp.map s1 (List.mem_of_getElem? hs1)).few
      have hst : b - a - k = (b - a - (k + 1)) + 1 := by omega
      rw [hst] at hf
      unfold goUp at hf
      rw [hmap] at hf
      have b1 : (1 = H.n) = False := by simp; omega
      have b2 : (2 = H.n) = False := by simp; omega
      have b3 : 2 < H.n + 1 := by omega
      have hak' : (a + k + 1 < h.length) = True := by simp; omega
      obtain ⟨d1, ⟨n1, n2, n3⟩, m1⟩ := s1
      simp only [Sv.row, Net.cells, List.cons_append, List.nil_append, i64] at hr1 e124 hf
      cases hc : carO m1 p with
      | none =>
        rw [carP_none hc, noPlace] at e124
        rw [hc] at hf
        simp only at hf
        simp only [go_sem, reduceIte, Nat.reduceEqDiff, Nat.reduceAdd, Nat.reduceMul, Nat.reduceSub, Nat.reduceLeDiff, Nat.reduceLT, Nat.reduceBEq, reduceCtorEq, List.length_map, g0, g11, g14, g13, g8, g15, h1, h2, b1, b2, b3, hne, hlt, hw, hak', hr1, e124]
        rw [hf]
        simp only [z, z1, z2, z3, if_true]
        rfl
      | some p' =>
        rw [carP_some hc] at e124
        rw [hc] at hf
        simp only at hf
        simp only [go_sem, reduceIte, Nat.reduceEqDiff, Nat.reduceAdd, Nat.reduceMul, Nat.reduceSub, Nat.reduceLeDiff, Nat.reduceLT, Nat.reduceBEq, reduceCtorEq, List.length_map, g0, g11, g14, g13, g8, g15, h1, h2, b1, b2, b3, hne, hlt, hw, hak', hr1, e124]
        exact ⟨rfl, p', rfl, hf⟩
    · rintro T H M ⟨rfl, g0, g11, g14, g13, g8, g15, h1, hn, p, h2, hf⟩
      have he : a + (b - a) = b := by omega
      rw [he, Nat.sub_self] at hf
      rw [he] at g11
      unfold goUp at hf
      have e101' := e101 p
      simp only [go_sem, reduceIte, Nat.reduceEqDiff, Nat.reduceAdd, Nat.reduceMul, Nat.reduceSub, Nat.reduceLeDiff, Nat.reduceLT, Nat.reduceBEq, reduceCtorEq, List.length_map, g0, g11, g14, g13, g8, g15, h1, h2, hbl, hrb, e101']
      rw [hf]
      simp only [z, z1, z2, z3, if_true]
      rfl
  · have hgo : goP h a b (t, q) = goDown h (a - b) a (t, q) := by unfold goP; rw [if_neg hab]
    rw [hgo]
    generalize hR : goDown h (a - b) a (t, q) = R
    refine W_for (fun k T H M => M = [] ∧ getT T 0 = .ps .unk (h.map Sv.row) ∧ getT T 11 = i64 ((a - k : Nat) : Int) ∧ getT T 14 = i64 b ∧ getT T 13 = .ptr 2 0 ∧ getT T 8 = .ptr 1 0 ∧ getT T 15 = .bool false ∧ H.get 1 = .cells [.str [], i64 0, i64 0] 42 ∧ 2 < H.n ∧ ∃ p : Pl, H.get 2 = .cells [.str p.1, i64 p.2] 45 ∧ R = goDown h (a - b - k) (a - k) p) (a - b) ?_ ?_ ?_
    · simp only [go_sem, reduceIte, Nat.reduceEqDiff, Nat.reduceAdd, Nat.reduceMul, Nat.reduceSub, Nat.reduceLeDiff, Nat.reduceLT, Nat.reduceBEq, reduceCtorEq]
      first | exact ⟨(t, q), rfl, hR.symm⟩ | exact ⟨rfl, (t, q), rfl, hR.symm⟩
    · rintro k T H M hk ⟨rfl, g0, g11, g14, g13, g8, g15, h1, hn, p, h2, hf⟩
      obtain ⟨s1, hs1⟩ : ∃ p, h[a - k]? = some p := ⟨h[a - k]'(by omega), by simp⟩
      have hr1 := map_at (f := Sv.row) hs1
      have hne : (((a - k : Nat) : Int) = (b : Int)) = False := by simp; omega
      have hlt : (((a - k : Nat) : Int) < (b : Int)) = False := by simp; omega
      have hw : wrapq .i64 (Int.sub ((a - k : Nat) : Int) 1) = ((a - (k + 1) : Nat) : Int) := by
        have := wrap_pred (k := a - k) (n := a) (by omega) (by omega) (by omega)
        rw [this]; congr 1
      have hmap : mapAt h (a - k) = s1.map := by unfold mapAt; rw [hs1]
      have hm1 := (hp.map s1 (List.mem_of_getElem? hs1)).few
      have e136 := pe136 s1.map hm1
      have e124 := pe124 (s1.map.map undoMv) p.1 p.2 (by simpa using hm1)
      have hst : a - b - k = (a - b - (k + 1)) + 1 := by omega
      rw [hst] at hf
      unfold goDown at hf
      rw [hmap] at hf
      have hst2 : a - k - 1 = a - (k + 1) := by omega
      rw [hst2] at hf
      have b1 : (1 = H.n) = False := by simp; omega
      have b2 : (2 = H.n) = False := by simp; omega
      have b3 : 2 < H.n + 1 := by omega
      have hak' : (a - k < h.length) = True := by simp; omega
      obtain ⟨d1, ⟨n1, n2, n3⟩, m1⟩ := s1
      simp only [Sv.row, Net.cells, List.cons_append, List.nil_append, i64] at hr1 e124 hf e136
      cases hc : carO (m1.map undoMv) p with
      | none =>
        rw [carP_none hc, noPlace] at e124
        rw [hc] at hf
        simp only at hf
        simp only [go_sem, reduceIte, Nat.reduceEqDiff, Nat.reduceAdd, Nat.reduceMul, Nat.reduceSub, Nat.reduceLeDiff, Nat.reduceLT, Nat.reduceBEq, reduceCtorEq, List.length_map, g0, g11, g14, g13, g8, g15, h1, h2, b1, b2, b3, hne, hlt, hw, hak', hr1, e124, e136]
        rw [hf]
        simp only [z, z1, z2, z3, if_true]
        rfl
      | some p' =>
        rw [carP_some hc] at e124
        rw [hc] at hf
        simp only at hf
        simp only [go_sem, reduceIte, Nat.reduceEqDiff, Nat.reduceAdd, Nat.reduceMul, Nat.reduceSub, Nat.reduceLeDiff, Nat.reduceLT, Nat.reduceBEq, reduceCtorEq, List.length_map, g0, g11, g14, g13, g8, g15, h1, h2, b1, b2, b3, hne, hlt, hw, hak', hr1, e124, e136]
        exact ⟨p', rfl, hf⟩
    · rintro T H M ⟨rfl, g0, g11, g14, g13, g8, g15, h1, hn, p, h2, hf⟩
      have he : a - (a - b) = b := by omega
      rw [he, Nat.sub_self] at hf
      rw [he] at g11
      unfold goDown at hf
      have e101' := e101 p
      simp only [go_sem, reduceIte, Nat.reduceEqDiff, Nat.reduceAdd, Nat.reduceMul, Nat.reduceSub, Nat.reduceLeDiff, Nat.reduceLT, Nat.reduceBEq, reduceCtorEq, List.length_map, g0, g11, g14, g13, g8, g15, h1, h2, hbl, hrb, e101']
      rw [hf]
      simp only [z, z1, z2, z3, if_true]
      rfl
noncomputable def p65 : List AV → Option AV := primOf (α := (List Sv) × (Int) × (List Nat) × (Int) × (Int) × (Int)) (fun x => [.ps .unk (x.1.map Sv.row), i64 x.2.1, .agg [.str x.2.2.1, i64 x.2.2.2.1, i64 x.2.2.2.2.1], i64 x.2.2.2.2.2]) (fun x => HistOk x.1) (fun x => .tup (sinceP x.1 x.2.1 x.2.2.1 x.2.2.2.1 x.2.2.2.2.1 x.2.2.2.2.2))
theorem pok65 : ∀ args v, p65 args = some v → ∀ lo H, CallOk NC lo 65 args H v H := by
  intro args v h
  obtain ⟨x, rfl, hp, rfl⟩ := primOf_inv h
  exact c65 x.1 x.2.1 x.2.2.1 x.2.2.2.1 x.2.2.2.2.1 x.2.2.2.2.2 hp
theorem pe65 (h : List Sv) (d : Int) (s : List Nat) (pc po o : Int) (hp : HistOk h) : p65 [.ps .unk (h.map Sv.row), .int .i64 d, .agg [.str s, .int .i64 pc, .int .i64 po], .int .i64 o] = some (.tup (sinceP h d s pc po o)) := primOf_enc (α := (List Sv) × (Int) × (List Nat) × (Int) × (Int) × (Int)) (enc := fun x => [.ps .unk (x.1.map Sv.row), i64 x.2.1, .agg [.str x.2.2.1, i64 x.2.2.2.1, i64 x.2.2.2.2.1], i64 x.2.2.2.2.2]) (pre := fun x => HistOk x.1) (spec := fun x => .tup (sinceP x.1 x.2.1 x.2.2.1 x.2.2.2.1 x.2.2.2.2.1 x.2.2.2.2.2)) (by intro x y h; (simp only [List.cons.injEq, AV.agg.injEq, AV.str.injEq, AV.int.injEq, AV.ps.injEq, AV.bool.injEq, Net.cells_iff, Ln.row_iff, Pc.row_iff, Mv.row_iff, lns_iff, pcs_iff, mvs_iff, Sv.row_iff, svs_iff, true_and, and_true] at h; first | simpa only [Prod.ext_iff] using h | simpa only [Prod.ext_iff, and_assoc] using h)) (h, d, s, pc, po, o) hp
end Go.Sim

/-
The document's examples: what 'awake' returns, found by closed runs.
-/
namespace Go.Sim
open Go
def aw0 : List Known := []
theorem awh0 : ∀ k ∈ aw0, ∀ lo H, CallOk NC lo k.f k.args H k.v H := fun k h => by cases h
def ak1 : Known := ⟨110, [.ps .unk [[.str [117, 112], .ps .unk [[.int .i64 100, .int .i64 5000, .bool false], [.int .i64 50, .int .i64 5080, .bool false], [.int .i64 30, .int .i64 5200, .bool true]]], [.str [115, 105, 100, 101], .ps .unk [[.int .i64 40, .int .i64 0, .bool false]]]]], .int .i64 0⟩
theorem ac1 : ∀ lo H, CallOk NC lo ak1.f ak1.args H ak1.v H := known_ok saneNC awh0 (fuel := 5000) (by kernel_rfl) (by kernel_rfl) (by kernel_rfl)
def aw1 : List Known := ak1 :: aw0
theorem awh1 : ∀ k ∈ aw1, ∀ lo H, CallOk NC lo k.f k.args H k.v H := fun k h => (List.mem_cons.1 h).elim (fun e => e ▸ ac1) (awh0 k)
def ak2 : Known := ⟨112, [.agg [.ps .unk [[.str [117, 112], .ps .unk [[.int .i64 100, .int .i64 5000, .bool false], [.int .i64 50, .int .i64 5080, .bool false], [.int .i64 30, .int .i64 5200, .bool true]]], [.str [115, 105, 100, 101], .ps .unk [[.int .i64 40, .int .i64 0, .bool false]]]], .ps .unk [[.str [119], .str [117, 112], .int .i64 120, .str [115, 105, 100, 101], .bool false]], .ps .unk [[.str [97, 114, 99, 104], .str [98, 114, 105, 100, 103, 101], .str [117, 112], .int .i64 130, .int .i64 150]]]], .int .i64 0⟩
theorem ac2 : ∀ lo H, CallOk NC lo ak2.f ak2.args H ak2.v H := known_ok saneNC awh1 (fuel := 5000) (by kernel_rfl) (by kernel_rfl) (by kernel_rfl)
def aw2 : List Known := ak2 :: aw1
theorem awh2 : ∀ k ∈ aw2, ∀ lo H, CallOk NC lo k.f k.args H k.v H := fun k h => (List.mem_cons.1 h).elim (fun e => e ▸ ac2) (awh1 k)
def ak3 : Known := ⟨113, [.agg [.ps .unk [[.str [117, 112], .ps .unk [[.int .i64 100, .int .i64 5000, .bool false], [.int .i64 50, .int .i64 5080, .bool false], [.int .i64 30, .int .i64 5200, .bool true]]], [.str [115, 105, 100, 101], .ps .unk [[.int .i64 40, .int .i64 0, .bool false]]]], .ps .unk [[.str [119], .str [117, 112], .int .i64 120, .str [115, 105, 100, 101], .bool false]], .ps .unk [[.str [97, 114, 99, 104], .str [98, 114, 105, 100, 103, 101], .str [117, 112], .int .i64 130, .int .i64 150]]]], .int .i64 0⟩
theorem ac3 : ∀ lo H, CallOk NC lo ak3.f ak3.args H ak3.v H := known_ok saneNC awh2 (fuel := 5000) (by kernel_rfl) (by kernel_rfl) (by kernel_rfl)
def aw3 : List Known := ak3 :: aw2
theorem awh3 : ∀ k ∈ aw3, ∀ lo H, CallOk NC lo k.f k.args H k.v H := fun k h => (List.mem_cons.1 h).elim (fun e => e ▸ ac3) (awh2 k)
def ak4 : Known := ⟨29, [.agg [.ps .unk [[.str [117, 112], .ps .unk [[.int .i64 100, .int .i64 5000, .bool false], [.int .i64 50, .int .i64 5080, .bool false], [.int .i64 30, .int .i64 5200, .bool true]]], [.str [115, 105, 100, 101], .ps .unk [[.int .i64 40, .int .i64 0, .bool false]]]], .ps .unk [[.str [119], .str [117, 112], .int .i64 120, .str [115, 105, 100, 101], .bool false]], .ps .unk [[.str [97, 114, 99, 104], .str [98, 114, 105, 100, 103, 101], .str [117, 112], .int .i64 130, .int .i64 150]]]], .int .i64 0⟩
theorem ac4 : ∀ lo H, CallOk NC lo ak4.f ak4.args H ak4.v H := known_ok saneNC awh3 (fuel := 5000) (by kernel_rfl) (by kernel_rfl) (by kernel_rfl)
def aw4 : List Known := ak4 :: aw3
theorem awh4 : ∀ k ∈ aw4, ∀ lo H, CallOk NC lo k.f k.args H k.v H := fun k h => (List.mem_cons.1 h).elim (fun e => e ▸ ac4) (awh3 k)
def ak5 : Known := ⟨18, [.agg [.ps .unk [[.str [117, 112], .ps .unk [[.int .i64 100, .int .i64 5000, .bool false], [.int .i64 50, .int .i64 5080, .bool false], [.int .i64 30, .int .i64 5200, .bool true]]], [.str [115, 105, 100, 101], .ps .unk [[.int .i64 40, .int .i64 0, .bool false]]]], .ps .unk [[.str [119], .str [117, 112], .int .i64 120, .str [115, 105, 100, 101], .bool false]], .ps .unk [[.str [97, 114, 99, 104], .str [98, 114, 105, 100, 103, 101], .str [117, 112], .int .i64 130, .int .i64 150]]], .str [117, 112]], .tup [.int .i64 180, .int .i64 0]⟩
theorem ac5 : ∀ lo H, CallOk NC lo ak5.f ak5.args H ak5.v H := known_ok saneNC awh4 (fuel := 5000) (by kernel_rfl) (by kernel_rfl) (by kernel_rfl)
def aw5 : List Known := ak5 :: aw4
theorem awh5 : ∀ k ∈ aw5, ∀ lo H, CallOk NC lo k.f k.args H k.v H := fun k h => (List.mem_cons.1 h).elim (fun e => e ▸ ac5) (awh4 k)
def ak6 : Known := ⟨20, [.agg [.ps .unk [[.str [117, 112], .ps .unk [[.int .i64 100, .int .i64 5000, .bool false], [.int .i64 50, .int .i64 5080, .bool false], [.int .i64 30, .int .i64 5200, .bool true]]], [.str [115, 105, 100, 101], .ps .unk [[.int .i64 40, .int .i64 0, .bool false]]]], .ps .unk [[.str [119], .str [117, 112], .int .i64 120, .str [115, 105, 100, 101], .bool false]], .ps .unk [[.str [97, 114, 99, 104], .str [98, 114, 105, 100, 103, 101], .str [117, 112], .int .i64 130, .int .i64 150]]], .agg [.str [117, 112], .int .i64 120]], .tup [.agg [.str [117, 112], .int .i64 1, .int .i64 5100], .int .i64 0]⟩
theorem ac6 : ∀ lo H, CallOk NC lo ak6.f ak6.args H ak6.v H := known_ok saneNC awh5 (fuel := 5000) (by kernel_rfl) (by kernel_rfl) (by kernel_rfl)
def aw6 : List Known := ak6 :: aw5
theorem awh6 : ∀ k ∈ aw6, ∀ lo H, CallOk NC lo k.f k.args H k.v H := fun k h => (List.mem_cons.1 h).elim (fun e => e ▸ ac6) (awh5 k)
def ak7 : Known := ⟨20, [.agg [.ps .unk [[.str [117, 112], .ps .unk [[.int .i64 100, .int .i64 5000, .bool false], [.int .i64 50, .int .i64 5080, .bool false], [.int .i64 30, .int .i64 5200, .bool true]]], [.str [115, 105, 100, 101], .ps .unk [[.int .i64 40, .int .i64 0, .bool false]]]], .ps .unk [[.str [119], .str [117, 112], .int .i64 120, .str [115, 105, 100, 101], .bool false]], .ps .unk [[.str [97, 114, 99, 104], .str [98, 114, 105, 100, 103, 101], .str [117, 112], .int .i64 130, .int .i64 150]]], .agg [.str [117, 112], .int .i64 179]], .tup [.agg [.str [117, 112], .int .i64 2, .int .i64 5171], .int .i64 0]⟩
theorem ac7 : ∀ lo H, CallOk NC lo ak7.f ak7.args H ak7.v H := known_ok saneNC awh6 (fuel := 5000) (by kernel_rfl) (by kernel_rfl) (by kernel_rfl)
def aw7 : List Known := ak7 :: aw6
theorem awh7 : ∀ k ∈ aw7, ∀ lo H, CallOk NC lo k.f k.args H k.v H := fun k h => (List.mem_cons.1 h).elim (fun e => e ▸ ac7) (awh6 k)
def ak8 : Known := ⟨51, [.agg [.ps .unk [[.str [117, 112], .ps .unk [[.int .i64 100, .int .i64 5000, .bool false], [.int .i64 50, .int .i64 5080, .bool false], [.int .i64 30, .int .i64 5200, .bool true]]], [.str [115, 105, 100, 101], .ps .unk [[.int .i64 40, .int .i64 0, .bool false]]]], .ps .unk [[.str [119], .str [117, 112], .int .i64 120, .str [115, 105, 100, 101], .bool false]], .ps .unk [[.str [97, 114, 99, 104], .str [98, 114, 105, 100, 103, 101], .str [117, 112], .int .i64 130, .int .i64 150]]], .str [117, 112], .int .i64 5090], .tup [.ps .unk [[.str [117, 112], .int .i64 0, .int .i64 5090], [.str [117, 112], .int .i64 1, .int .i64 5090]], .int .i64 0]⟩
theorem ac8 : ∀ lo H, CallOk NC lo ak8.f ak8.args H ak8.v H := known_ok saneNC awh7 (fuel := 5000) (by kernel_rfl) (by kernel_rfl) (by kernel_rfl)
def aw8 : List Known := ak8 :: aw7
theorem awh8 : ∀ k ∈ aw8, ∀ lo H, CallOk NC lo k.f k.args H k.v H := fun k h => (List.mem_cons.1 h).elim (fun e => e ▸ ac8) (awh7 k)
def ak9 : Known := ⟨21, [.agg [.ps .unk [[.str [117, 112], .ps .unk [[.int .i64 100, .int .i64 5000, .bool false], [.int .i64 50, .int .i64 5080, .bool false], [.int .i64 30, .int .i64 5200, .bool true]]], [.str [115, 105, 100, 101], .ps .unk [[.int .i64 40, .int .i64 0, .bool false]]]], .ps .unk [[.str [119], .str [117, 112], .int .i64 120, .str [115, 105, 100, 101], .bool false]], .ps .unk [[.str [97, 114, 99, 104], .str [98, 114, 105, 100, 103, 101], .str [117, 112], .int .i64 130, .int .i64 150]]], .agg [.str [117, 112], .int .i64 1, .int .i64 5090]], .tup [.agg [.str [117, 112], .int .i64 110], .int .i64 0]⟩
theorem ac9 : ∀ lo H, CallOk NC lo ak9.f ak9.args H ak9.v H := known_ok saneNC awh8 (fuel := 5000) (by kernel_rfl) (by kernel_rfl) (by kernel_rfl)
def aw9 : List Known := ak9 :: aw8
theorem awh9 : ∀ k ∈ aw9, ∀ lo H, CallOk NC lo k.f k.args H k.v H := fun k h => (List.mem_cons.1 h).elim (fun e => e ▸ ac9) (awh8 k)
def ak10 : Known := ⟨114, [.agg [.ps .unk [[.str [117, 112], .ps .unk [[.int .i64 100, .int .i64 5000, .bool false], [.int .i64 50, .int .i64 5080, .bool false], [.int .i64 30, .int .i64 5200, .bool true]]], [.str [115, 105, 100, 101], .ps .unk [[.int .i64 40, .int .i64 0, .bool false]]]], .ps .unk [[.str [119], .str [117, 112], .int .i64 120, .str [115, 105, 100, 101], .bool false]], .ps .unk [[.str [97, 114, 99, 104], .str [98, 114, 105, 100, 103, 101], .str [117, 112], .int .i64 130, .int .i64 150]]], .ps .unk [[.str [117, 112], .int .i64 100], [.str [115, 105, 100, 101], .int .i64 10]]], .int .i64 0⟩
theorem ac10 : ∀ lo H, CallOk NC lo ak10.f ak10.args H ak10.v H := known_ok saneNC awh9 (fuel := 5000) (by kernel_rfl) (by kernel_rfl) (by kernel_rfl)
def aw10 : List Known := ak10 :: aw9
theorem awh10 : ∀ k ∈ aw10, ∀ lo H, CallOk NC lo k.f k.args H k.v H := fun k h => (List.mem_cons.1 h).elim (fun e => e ▸ ac10) (awh9 k)
def ak11 : Known := ⟨203, [.agg [.ps .unk [[.str [117, 112], .ps .unk [[.int .i64 100, .int .i64 5000, .bool false], [.int .i64 50, .int .i64 5080, .bool false], [.int .i64 30, .int .i64 5200, .bool true]]], [.str [115, 105, 100, 101], .ps .unk [[.int .i64 40, .int .i64 0, .bool false]]]], .ps .unk [[.str [119], .str [117, 112], .int .i64 120, .str [115, 105, 100, 101], .bool false]], .ps .unk [[.str [97, 114, 99, 104], .str [98, 114, 105, 100, 103, 101], .str [117, 112], .int .i64 130, .int .i64 150]]], .agg [.ps .unk [[.str [117, 112], .int .i64 100, .int .i64 120], [.str [115, 105, 100, 101], .int .i64 0, .int .i64 0], [.str [117, 112], .int .i64 120, .int .i64 120]], .int .i64 20], .agg [.ps .unk [[.str [117, 112], .int .i64 100, .int .i64 120]], .int .i64 20]], .int .i64 1⟩
theorem ac11 : ∀ lo H, CallOk NC lo ak11.f ak11.args H ak11.v H := known_ok saneNC awh10 (fuel := 5000) (by kernel_rfl) (by kernel_rfl) (by kernel_rfl)
def aw11 : List Known := ak11 :: aw10
theorem awh11 : ∀ k ∈ aw11, ∀ lo H, CallOk NC lo k.f k.args H k.v H := fun k h => (List.mem_cons.1 h).elim (fun e => e ▸ ac11) (awh10 k)
def ak12 : Known := ⟨203, [.agg [.ps .unk [[.str [117, 112], .ps .unk [[.int .i64 100, .int .i64 5000, .bool false], [.int .i64 50, .int .i64 5080, .bool false], [.int .i64 30, .int .i64 5200, .bool true]]], [.str [115, 105, 100, 101], .ps .unk [[.int .i64 40, .int .i64 0, .bool false]]]], .ps .unk [[.str [119], .str [117, 112], .int .i64 120, .str [115, 105, 100, 101], .bool false]], .ps .unk [[.str [97, 114, 99, 104], .str [98, 114, 105, 100, 103, 101], .str [117, 112], .int .i64 130, .int .i64 150]]], .agg [.ps .unk [[.str [117, 112], .int .i64 100, .int .i64 120], [.str [115, 105, 100, 101], .int .i64 0, .int .i64 0]], .int .i64 20], .agg [.ps .unk [[.str [117, 112], .int .i64 100, .int .i64 120], [.str [115, 105, 100, 101], .int .i64 0, .int .i64 0]], .int .i64 20]], .int .i64 0⟩
theorem ac12 : ∀ lo H, CallOk NC lo ak12.f ak12.args H ak12.v H := known_ok saneNC awh11 (fuel := 5000) (by kernel_rfl) (by kernel_rfl) (by kernel_rfl)
def aw12 : List Known := ak12 :: aw11
theorem awh12 : ∀ k ∈ aw12, ∀ lo H, CallOk NC lo k.f k.args H k.v H := fun k h => (List.mem_cons.1 h).elim (fun e => e ▸ ac12) (awh11 k)
def ak13 : Known := ⟨142, [.agg [.ps .unk [[.str [117, 112], .ps .unk [[.int .i64 100, .int .i64 5000, .bool false], [.int .i64 50, .int .i64 5080, .bool false], [.int .i64 30, .int .i64 5200, .bool true]]], [.str [115, 105, 100, 101], .ps .unk [[.int .i64 40, .int .i64 0, .bool false]]]], .ps .unk [[.str [119], .str [117, 112], .int .i64 120, .str [115, 105, 100, 101], .bool false]], .ps .unk [[.str [97, 114, 99, 104], .str [98, 114, 105, 100, 103, 101], .str [117, 112], .int .i64 130, .int .i64 150]]], .agg [.str [117, 112], .int .i64 100], .agg [.str [115, 105, 100, 101], .int .i64 10]], .tup [.agg [.ps .unk [[.str [117, 112], .int .i64 100, .int .i64 120], [.str [115, 105, 100, 101], .int .i64 0, .int .i64 10]], .int .i64 30], .bool true]⟩
theorem ac13 : ∀ lo H, CallOk NC lo ak13.f ak13.args H ak13.v H := known_ok saneNC awh12 (fuel := 5000) (by kernel_rfl) (by kernel_rfl) (by kernel_rfl)
def aw13 : List Known := ak13 :: aw12
theorem awh13 : ∀ k ∈ aw13, ∀ lo H, CallOk NC lo k.f k.args H k.v H := fun k h => (List.mem_cons.1 h).elim (fun e => e ▸ ac13) (awh12 k)
def ak14 : Known := ⟨71, [.agg [.ps .unk [[.str [117, 112], .ps .unk [[.int .i64 100, .int .i64 5000, .bool false], [.int .i64 50, .int .i64 5080, .bool false], [.int .i64 30, .int .i64 5200, .bool true]]], [.str [115, 105, 100, 101], .ps .unk [[.int .i64 40, .int .i64 0, .bool false]]]], .ps .unk [[.str [119], .str [117, 112], .int .i64 120, .str [115, 105, 100, 101], .bool false]], .ps .unk [[.str [97, 114, 99, 104], .str [98, 114, 105, 100, 103, 101], .str [117, 112], .int .i64 130, .int .i64 150]]], .agg [.str [117, 112], .int .i64 100], .agg [.str [115, 105, 100, 101], .int .i64 10]], .tup [.ps .unk [[.str [117, 112], .int .i64 100, .int .i64 120], [.str [115, 105, 100, 101], .int .i64 0, .int .i64 10]], .int .i64 30, .int .i64 0]⟩
theorem ac14 : ∀ lo H, CallOk NC lo ak14.f ak14.args H ak14.v H := known_ok saneNC awh13 (fuel := 5000) (by kernel_rfl) (by kernel_rfl) (by kernel_rfl)
def aw14 : List Known := ak14 :: aw13
theorem awh14 : ∀ k ∈ aw14, ∀ lo H, CallOk NC lo k.f k.args H k.v H := fun k h => (List.mem_cons.1 h).elim (fun e => e ▸ ac14) (awh13 k)
def ak15 : Known := ⟨114, [.agg [.ps .unk [[.str [117, 112], .ps .unk [[.int .i64 100, .int .i64 5000, .bool false], [.int .i64 50, .int .i64 5080, .bool false], [.int .i64 30, .int .i64 5200, .bool true]]], [.str [115, 105, 100, 101], .ps .unk [[.int .i64 40, .int .i64 0, .bool false]]]], .ps .unk [[.str [119], .str [117, 112], .int .i64 120, .str [115, 105, 100, 101], .bool false]], .ps .unk [[.str [97, 114, 99, 104], .str [98, 114, 105, 100, 103, 101], .str [117, 112], .int .i64 130, .int .i64 150]]], .ps .unk [[.str [115, 105, 100, 101], .int .i64 5]]], .int .i64 0⟩
theorem ac15 : ∀ lo H, CallOk NC lo ak15.f ak15.args H ak15.v H := known_ok saneNC awh14 (fuel := 5000) (by kernel_rfl) (by kernel_rfl) (by kernel_rfl)
def aw15 : List Known := ak15 :: aw14
theorem awh15 : ∀ k ∈ aw15, ∀ lo H, CallOk NC lo k.f k.args H k.v H := fun k h => (List.mem_cons.1 h).elim (fun e => e ▸ ac15) (awh14 k)
def ak16 : Known := ⟨203, [.agg [.ps .unk [[.str [117, 112], .ps .unk [[.int .i64 100, .int .i64 5000, .bool false], [.int .i64 50, .int .i64 5080, .bool false], [.int .i64 30, .int .i64 5200, .bool true]]], [.str [115, 105, 100, 101], .ps .unk [[.int .i64 40, .int .i64 0, .bool false]]]], .ps .unk [[.str [119], .str [117, 112], .int .i64 120, .str [115, 105, 100, 101], .bool false]], .ps .unk [[.str [97, 114, 99, 104], .str [98, 114, 105, 100, 103, 101], .str [117, 112], .int .i64 130, .int .i64 150]]], .agg [.ps .unk [[.str [115, 105, 100, 101], .int .i64 5, .int .i64 0], [.str [117, 112], .int .i64 120, .int .i64 120], [.str [115, 105, 100, 101], .int .i64 0, .int .i64 0]], .int .i64 5], .agg [.ps .unk [[.str [115, 105, 100, 101], .int .i64 5, .int .i64 0]], .int .i64 5]], .int .i64 1⟩
theorem ac16 : ∀ lo H, CallOk NC lo ak16.f ak16.args H ak16.v H := known_ok saneNC awh15 (fuel := 5000) (by kernel_rfl) (by kernel_rfl) (by kernel_rfl)
def aw16 : List Known := ak16 :: aw15
theorem awh16 : ∀ k ∈ aw16, ∀ lo H, CallOk NC lo k.f k.args H k.v H := fun k h => (List.mem_cons.1 h).elim (fun e => e ▸ ac16) (awh15 k)
def ak17 : Known := ⟨203, [.agg [.ps .unk [[.str [117, 112], .ps .unk [[.int .i64 100, .int .i64 5000, .bool false], [.int .i64 50, .int .i64 5080, .bool false], [.int .i64 30, .int .i64 5200, .bool true]]], [.str [115, 105, 100, 101], .ps .unk [[.int .i64 40, .int .i64 0, .bool false]]]], .ps .unk [[.str [119], .str [117, 112], .int .i64 120, .str [115, 105, 100, 101], .bool false]], .ps .unk [[.str [97, 114, 99, 104], .str [98, 114, 105, 100, 103, 101], .str [117, 112], .int .i64 130, .int .i64 150]]], .agg [.ps .unk [[.str [115, 105, 100, 101], .int .i64 5, .int .i64 0], [.str [117, 112], .int .i64 120, .int .i64 120]], .int .i64 5], .agg [.ps .unk [[.str [115, 105, 100, 101], .int .i64 5, .int .i64 0], [.str [117, 112], .int .i64 120, .int .i64 120]], .int .i64 5]], .int .i64 0⟩
theorem ac17 : ∀ lo H, CallOk NC lo ak17.f ak17.args H ak17.v H := known_ok saneNC awh16 (fuel := 5000) (by kernel_rfl) (by kernel_rfl) (by kernel_rfl)
def aw17 : List Known := ak17 :: aw16
theorem awh17 : ∀ k ∈ aw17, ∀ lo H, CallOk NC lo k.f k.args H k.v H := fun k h => (List.mem_cons.1 h).elim (fun e => e ▸ ac17) (awh16 k)
def ak18 : Known := ⟨116, [.agg [.ps .unk [[.str [117, 112], .ps .unk [[.int .i64 100, .int .i64 5000, .bool false], [.int .i64 50, .int .i64 5080, .bool false], [.int .i64 30, .int .i64 5200, .bool true]]], [.str [115, 105, 100, 101], .ps .unk [[.int .i64 40, .int .i64 0, .bool false]]]], .ps .unk [[.str [119], .str [117, 112], .int .i64 120, .str [115, 105, 100, 101], .bool false]], .ps .unk [[.str [97, 114, 99, 104], .str [98, 114, 105, 100, 103, 101], .str [117, 112], .int .i64 130, .int .i64 150]]], .agg [.str [115, 105, 100, 101], .int .i64 5]], .ps .unk [[.str [115, 105, 100, 101], .int .i64 5, .int .i64 0], [.str [115, 105, 100, 101], .int .i64 0, .int .i64 5], [.str [117, 112], .int .i64 120, .int .i64 5]]⟩
theorem ac18 : ∀ lo H, CallOk NC lo ak18.f ak18.args H ak18.v H := known_ok saneNC awh17 (fuel := 5000) (by kernel_rfl) (by kernel_rfl) (by kernel_rfl)
def aw18 : List Known := ak18 :: aw17
theorem awh18 : ∀ k ∈ aw18, ∀ lo H, CallOk NC lo k.f k.args H k.v H := fun k h => (List.mem_cons.1 h).elim (fun e => e ▸ ac18) (awh17 k)
def ak19 : Known := ⟨33, [.agg [.ps .unk [[.str [117, 112], .ps .unk [[.int .i64 100, .int .i64 5000, .bool false], [.int .i64 50, .int .i64 5080, .bool false], [.int .i64 30, .int .i64 5200, .bool true]]], [.str [115, 105, 100, 101], .ps .unk [[.int .i64 40, .int .i64 0, .bool false]]]], .ps .unk [[.str [119], .str [117, 112], .int .i64 120, .str [115, 105, 100, 101], .bool false]], .ps .unk [[.str [97, 114, 99, 104], .str [98, 114, 105, 100, 103, 101], .str [117, 112], .int .i64 130, .int .i64 150]]], .agg [.str [115, 105, 100, 101], .int .i64 5], .str [98, 114, 105, 100, 103, 101]], .tup [.str [97, 114, 99, 104], .int .i64 15, .int .i64 0]⟩
theorem ac19 : ∀ lo H, CallOk NC lo ak19.f ak19.args H ak19.v H := known_ok saneNC awh18 (fuel := 5000) (by kernel_rfl) (by kernel_rfl) (by kernel_rfl)
def aw19 : List Known := ak19 :: aw18
theorem awh19 : ∀ k ∈ aw19, ∀ lo H, CallOk NC lo k.f k.args H k.v H := fun k h => (List.mem_cons.1 h).elim (fun e => e ▸ ac19) (awh18 k)
def ak20 : Known := ⟨127, [.agg [.str [117, 112], .int .i64 0, .int .i64 100, .str [109, 97, 105, 110], .int .i64 20, .bool false]], .int .i64 0⟩
theorem ac20 : ∀ lo H, CallOk NC lo ak20.f ak20.args H ak20.v H := known_ok saneNC awh19 (fuel := 5000) (by kernel_rfl) (by kernel_rfl) (by kernel_rfl)
def aw20 : List Known := ak20 :: aw19
theorem awh20 : ∀ k ∈ aw20, ∀ lo H, CallOk NC lo k.f k.args H k.v H := fun k h => (List.mem_cons.1 h).elim (fun e => e ▸ ac20) (awh19 k)
def ak21 : Known := ⟨127, [.agg [.str [117, 112], .int .i64 100, .int .i64 50, .str [109, 97, 105, 110], .int .i64 200, .bool true]], .int .i64 0⟩
theorem ac21 : ∀ lo H, CallOk NC lo ak21.f ak21.args H ak21.v H := known_ok saneNC awh20 (fuel := 5000) (by kernel_rfl) (by kernel_rfl) (by kernel_rfl)
def aw21 : List Known := ak21 :: aw20
theorem awh21 : ∀ k ∈ aw21, ∀ lo H, CallOk NC lo k.f k.args H k.v H := fun k h => (List.mem_cons.1 h).elim (fun e => e ▸ ac21) (awh20 k)
def ak22 : Known := ⟨49, [.ps .unk [[.str [117, 112], .int .i64 0, .int .i64 100, .str [109, 97, 105, 110], .int .i64 20, .bool false], [.str [117, 112], .int .i64 100, .int .i64 50, .str [109, 97, 105, 110], .int .i64 200, .bool true]]], .int .i64 0⟩
theorem ac22 : ∀ lo H, CallOk NC lo ak22.f ak22.args H ak22.v H := known_ok saneNC awh21 (fuel := 5000) (by kernel_rfl) (by kernel_rfl) (by kernel_rfl)
def aw22 : List Known := ak22 :: aw21
theorem awh22 : ∀ k ∈ aw22, ∀ lo H, CallOk NC lo k.f k.args H k.v H := fun k h => (List.mem_cons.1 h).elim (fun e => e ▸ ac22) (awh21 k)
def ak23 : Known := ⟨42, [.ps .unk [[.str [117, 112], .int .i64 0, .int .i64 100, .str [109, 97, 105, 110], .int .i64 20, .bool false], [.str [117, 112], .int .i64 100, .int .i64 50, .str [109, 97, 105, 110], .int .i64 200, .bool true]], .agg [.str [117, 112], .int .i64 110]], .tup [.agg [.str [109, 97, 105, 110], .int .i64 239], .int .i64 0]⟩
theorem ac23 : ∀ lo H, CallOk NC lo ak23.f ak23.args H ak23.v H := known_ok saneNC awh22 (fuel := 5000) (by kernel_rfl) (by kernel_rfl) (by kernel_rfl)
def aw23 : List Known := ak23 :: aw22
theorem awh23 : ∀ k ∈ aw23, ∀ lo H, CallOk NC lo k.f k.args H k.v H := fun k h => (List.mem_cons.1 h).elim (fun e => e ▸ ac23) (awh22 k)
def ak24 : Known := ⟨54, [.ps .unk [[.str [117, 112], .int .i64 0, .int .i64 100, .str [109, 97, 105, 110], .int .i64 20, .bool false], [.str [117, 112], .int .i64 100, .int .i64 50, .str [109, 97, 105, 110], .int .i64 200, .bool true]]], .tup [.ps .unk [[.str [109, 97, 105, 110], .int .i64 20, .int .i64 100, .str [117, 112], .int .i64 0, .bool false], [.str [109, 97, 105, 110], .int .i64 200, .int .i64 50, .str [117, 112], .int .i64 100, .bool true]], .int .i64 0]⟩
theorem ac24 : ∀ lo H, CallOk NC lo ak24.f ak24.args H ak24.v H := known_ok saneNC awh23 (fuel := 5000) (by kernel_rfl) (by kernel_rfl) (by kernel_rfl)
def aw24 : List Known := ak24 :: aw23
theorem awh24 : ∀ k ∈ aw24, ∀ lo H, CallOk NC lo k.f k.args H k.v H := fun k h => (List.mem_cons.1 h).elim (fun e => e ▸ ac24) (awh23 k)
def ak25 : Known := ⟨127, [.agg [.str [109, 97, 105, 110], .int .i64 0, .int .i64 60, .str [111, 108, 100], .int .i64 500, .bool false]], .int .i64 0⟩
theorem ac25 : ∀ lo H, CallOk NC lo ak25.f ak25.args H ak25.v H := known_ok saneNC awh24 (fuel := 5000) (by kernel_rfl) (by kernel_rfl) (by kernel_rfl)
def aw25 : List Known := ak25 :: aw24
theorem awh25 : ∀ k ∈ aw25, ∀ lo H, CallOk NC lo k.f k.args H k.v H := fun k h => (List.mem_cons.1 h).elim (fun e => e ▸ ac25) (awh24 k)
def ak26 : Known := ⟨49, [.ps .unk [[.str [109, 97, 105, 110], .int .i64 0, .int .i64 60, .str [111, 108, 100], .int .i64 500, .bool false]]], .int .i64 0⟩
theorem ac26 : ∀ lo H, CallOk NC lo ak26.f ak26.args H ak26.v H := known_ok saneNC awh25 (fuel := 5000) (by kernel_rfl) (by kernel_rfl) (by kernel_rfl)
def aw26 : List Known := ak26 :: aw25
theorem awh26 : ∀ k ∈ aw26, ∀ lo H, CallOk NC lo k.f k.args H k.v H := fun k h => (List.mem_cons.1 h).elim (fun e => e ▸ ac26) (awh25 k)
def ak27 : Known := ⟨55, [.ps .unk [[.str [117, 112], .int .i64 0, .int .i64 100, .str [109, 97, 105, 110], .int .i64 20, .bool false], [.str [117, 112], .int .i64 100, .int .i64 50, .str [109, 97, 105, 110], .int .i64 200, .bool true]], .ps .unk [[.str [109, 97, 105, 110], .int .i64 0, .int .i64 60, .str [111, 108, 100], .int .i64 500, .bool false]]], .tup [.ps .unk [[.str [117, 112], .int .i64 0, .int .i64 40, .str [111, 108, 100], .int .i64 520, .bool false]], .int .i64 0]⟩
theorem ac27 : ∀ lo H, CallOk NC lo ak27.f ak27.args H ak27.v H := known_ok saneNC awh26 (fuel := 5000) (by kernel_rfl) (by kernel_rfl) (by kernel_rfl)
def aw27 : List Known := ak27 :: aw26
theorem awh27 : ∀ k ∈ aw27, ∀ lo H, CallOk NC lo k.f k.args H k.v H := fun k h => (List.mem_cons.1 h).elim (fun e => e ▸ ac27) (awh26 k)
def ak28 : Known := ⟨110, [.ps .unk [[.str [109, 97, 105, 110], .ps .unk [[.int .i64 300, .int .i64 1000, .bool false]]]]], .int .i64 0⟩
theorem ac28 : ∀ lo H, CallOk NC lo ak28.f ak28.args H ak28.v H := known_ok saneNC awh27 (fuel := 5000) (by kernel_rfl) (by kernel_rfl) (by kernel_rfl)
def aw28 : List Known := ak28 :: aw27
theorem awh28 : ∀ k ∈ aw28, ∀ lo H, CallOk NC lo k.f k.args H k.v H := fun k h => (List.mem_cons.1 h).elim (fun e => e ▸ ac28) (awh27 k)
def ak29 : Known := ⟨29, [.agg [.ps .unk [[.str [109, 97, 105, 110], .ps .unk [[.int .i64 300, .int .i64 1000, .bool false]]]], .ps .unk [], .ps .unk []]], .int .i64 0⟩
theorem ac29 : ∀ lo H, CallOk NC lo ak29.f ak29.args H ak29.v H := known_ok saneNC awh28 (fuel := 5000) (by kernel_rfl) (by kernel_rfl) (by kernel_rfl)
def aw29 : List Known := ak29 :: aw28
theorem awh29 : ∀ k ∈ aw29, ∀ lo H, CallOk NC lo k.f k.args H k.v H := fun k h => (List.mem_cons.1 h).elim (fun e => e ▸ ac29) (awh28 k)
def ak30 : Known := ⟨133, [.agg [.ps .unk [[.str [117, 112], .ps .unk [[.int .i64 100, .int .i64 5000, .bool false], [.int .i64 50, .int .i64 5080, .bool false], [.int .i64 30, .int .i64 5200, .bool true]]], [.str [115, 105, 100, 101], .ps .unk [[.int .i64 40, .int .i64 0, .bool false]]]], .ps .unk [[.str [119], .str [117, 112], .int .i64 120, .str [115, 105, 100, 101], .bool false]], .ps .unk [[.str [97, 114, 99, 104], .str [98, 114, 105, 100, 103, 101], .str [117, 112], .int .i64 130, .int .i64 150]]], .str [117, 112], .agg [.int .i64 0, .int .i64 100]], .int .i64 0⟩
theorem ac30 : ∀ lo H, CallOk NC lo ak30.f ak30.args H ak30.v H := known_ok saneNC awh29 (fuel := 5000) (by kernel_rfl) (by kernel_rfl) (by kernel_rfl)
def aw30 : List Known := ak30 :: aw29
theorem awh30 : ∀ k ∈ aw30, ∀ lo H, CallOk NC lo k.f k.args H k.v H := fun k h => (List.mem_cons.1 h).elim (fun e => e ▸ ac30) (awh29 k)
def ak31 : Known := ⟨133, [.agg [.ps .unk [[.str [117, 112], .ps .unk [[.int .i64 100, .int .i64 5000, .bool false], [.int .i64 50, .int .i64 5080, .bool false], [.int .i64 30, .int .i64 5200, .bool true]]], [.str [115, 105, 100, 101], .ps .unk [[.int .i64 40, .int .i64 0, .bool false]]]], .ps .unk [[.str [119], .str [117, 112], .int .i64 120, .str [115, 105, 100, 101], .bool false]], .ps .unk [[.str [97, 114, 99, 104], .str [98, 114, 105, 100, 103, 101], .str [117, 112], .int .i64 130, .int .i64 150]]], .str [117, 112], .agg [.int .i64 100, .int .i64 150]], .int .i64 0⟩
theorem ac31 : ∀ lo H, CallOk NC lo ak31.f ak31.args H ak31.v H := known_ok saneNC awh30 (fuel := 5000) (by kernel_rfl) (by kernel_rfl) (by kernel_rfl)
def aw31 : List Known := ak31 :: aw30
theorem awh31 : ∀ k ∈ aw31, ∀ lo H, CallOk NC lo k.f k.args H k.v H := fun k h => (List.mem_cons.1 h).elim (fun e => e ▸ ac31) (awh30 k)
def ak32 : Known := ⟨50, [.ps .unk [[.str [117, 112], .int .i64 0, .int .i64 100, .str [109, 97, 105, 110], .int .i64 20, .bool false], [.str [117, 112], .int .i64 100, .int .i64 50, .str [109, 97, 105, 110], .int .i64 200, .bool true]], .agg [.ps .unk [[.str [117, 112], .ps .unk [[.int .i64 100, .int .i64 5000, .bool false], [.int .i64 50, .int .i64 5080, .bool false], [.int .i64 30, .int .i64 5200, .bool true]]], [.str [115, 105, 100, 101], .ps .unk [[.int .i64 40, .int .i64 0, .bool false]]]], .ps .unk [[.str [119], .str [117, 112], .int .i64 120, .str [115, 105, 100, 101], .bool false]], .ps .unk [[.str [97, 114, 99, 104], .str [98, 114, 105, 100, 103, 101], .str [117, 112], .int .i64 130, .int .i64 150]]], .agg [.ps .unk [[.str [109, 97, 105, 110], .ps .unk [[.int .i64 300, .int .i64 1000, .bool false]]]], .ps .unk [], .ps .unk []]], .int .i64 0⟩
theorem ac32 : ∀ lo H, CallOk NC lo ak32.f ak32.args H ak32.v H := known_ok saneNC awh31 (fuel := 5000) (by kernel_rfl) (by kernel_rfl) (by kernel_rfl)
def aw32 : List Known := ak32 :: aw31
theorem awh32 : ∀ k ∈ aw32, ∀ lo H, CallOk NC lo k.f k.args H k.v H := fun k h => (List.mem_cons.1 h).elim (fun e => e ▸ ac32) (awh31 k)
def ak33 : Known := ⟨69, [.ps .unk [[.int .i64 10, .ps .unk [[.str [117, 112], .ps .unk [[.int .i64 100, .int .i64 5000, .bool false], [.int .i64 50, .int .i64 5080, .bool false], [.int .i64 30, .int .i64 5200, .bool true]]], [.str [115, 105, 100, 101], .ps .unk [[.int .i64 40, .int .i64 0, .bool false]]]], .ps .unk [[.str [119], .str [117, 112], .int .i64 120, .str [115, 105, 100, 101], .bool false]], .ps .unk [[.str [97, 114, 99, 104], .str [98, 114, 105, 100, 103, 101], .str [117, 112], .int .i64 130, .int .i64 150]], .ps .unk []], [.int .i64 20, .ps .unk [[.str [109, 97, 105, 110], .ps .unk [[.int .i64 300, .int .i64 1000, .bool false]]]], .ps .unk [], .ps .unk [], .ps .unk [[.str [117, 112], .int .i64 0, .int .i64 100, .str [109, 97, 105, 110], .int .i64 20, .bool false], [.str [117, 112], .int .i64 100, .int .i64 50, .str [109, 97, 105, 110], .int .i64 200, .bool true]]]]], .int .i64 0⟩
theorem ac33 : ∀ lo H, CallOk NC lo ak33.f ak33.args H ak33.v H := known_ok saneNC awh32 (fuel := 5000) (by kernel_rfl) (by kernel_rfl) (by kernel_rfl)
def aw33 : List Known := ak33 :: aw32
theorem awh33 : ∀ k ∈ aw33, ∀ lo H, CallOk NC lo k.f k.args H k.v H := fun k h => (List.mem_cons.1 h).elim (fun e => e ▸ ac33) (awh32 k)
def ak34 : Known := ⟨65, [.ps .unk [[.int .i64 10, .ps .unk [[.str [117, 112], .ps .unk [[.int .i64 100, .int .i64 5000, .bool false], [.int .i64 50, .int .i64 5080, .bool false], [.int .i64 30, .int .i64 5200, .bool true]]], [.str [115, 105, 100, 101], .ps .unk [[.int .i64 40, .int .i64 0, .bool false]]]], .ps .unk [[.str [119], .str [117, 112], .int .i64 120, .str [115, 105, 100, 101], .bool false]], .ps .unk [[.str [97, 114, 99, 104], .str [98, 114, 105, 100, 103, 101], .str [117, 112], .int .i64 130, .int .i64 150]], .ps .unk []], [.int .i64 20, .ps .unk [[.str [109, 97, 105, 110], .ps .unk [[.int .i64 300, .int .i64 1000, .bool false]]]], .ps .unk [], .ps .unk [], .ps .unk [[.str [117, 112], .int .i64 0, .int .i64 100, .str [109, 97, 105, 110], .int .i64 20, .bool false], [.str [117, 112], .int .i64 100, .int .i64 50, .str [109, 97, 105, 110], .int .i64 200, .bool true]]]], .int .i64 15, .agg [.str [117, 112], .int .i64 1, .int .i64 5090], .int .i64 25], .tup [.agg [.str [109, 97, 105, 110], .int .i64 0, .int .i64 1239], .int .i64 0]⟩
theorem ac34 : ∀ lo H, CallOk NC lo ak34.f ak34.args H ak34.v H := known_ok saneNC awh33 (fuel := 5000) (by kernel_rfl) (by kernel_rfl) (by kernel_rfl)
def aw34 : List Known := ak34 :: aw33
theorem awh34 : ∀ k ∈ aw34, ∀ lo H, CallOk NC lo k.f k.args H k.v H := fun k h => (List.mem_cons.1 h).elim (fun e => e ▸ ac34) (awh33 k)
def ak35 : Known := ⟨65, [.ps .unk [[.int .i64 10, .ps .unk [[.str [117, 112], .ps .unk [[.int .i64 100, .int .i64 5000, .bool false], [.int .i64 50, .int .i64 5080, .bool false], [.int .i64 30, .int .i64 5200, .bool true]]], [.str [115, 105, 100, 101], .ps .unk [[.int .i64 40, .int .i64 0, .bool false]]]], .ps .unk [[.str [119], .str [117, 112], .int .i64 120, .str [115, 105, 100, 101], .bool false]], .ps .unk [[.str [97, 114, 99, 104], .str [98, 114, 105, 100, 103, 101], .str [117, 112], .int .i64 130, .int .i64 150]], .ps .unk []], [.int .i64 20, .ps .unk [[.str [109, 97, 105, 110], .ps .unk [[.int .i64 300, .int .i64 1000, .bool false]]]], .ps .unk [], .ps .unk [], .ps .unk [[.str [117, 112], .int .i64 0, .int .i64 100, .str [109, 97, 105, 110], .int .i64 20, .bool false], [.str [117, 112], .int .i64 100, .int .i64 50, .str [109, 97, 105, 110], .int .i64 200, .bool true]]]], .int .i64 25, .agg [.str [109, 97, 105, 110], .int .i64 0, .int .i64 1239], .int .i64 10], .tup [.agg [.str [117, 112], .int .i64 1, .int .i64 5090], .int .i64 0]⟩
theorem ac35 : ∀ lo H, CallOk NC lo ak35.f ak35.args H ak35.v H := known_ok saneNC awh34 (fuel := 5000) (by kernel_rfl) (by kernel_rfl) (by kernel_rfl)
def aw35 : List Known := ak35 :: aw34
theorem awh35 : ∀ k ∈ aw35, ∀ lo H, CallOk NC lo k.f k.args H k.v H := fun k h => (List.mem_cons.1 h).elim (fun e => e ▸ ac35) (awh34 k)
def ak36 : Known := ⟨102, [.agg [.ps .unk [[.str [117, 112], .ps .unk [[.int .i64 100, .int .i64 5000, .bool false], [.int .i64 50, .int .i64 5080, .bool false], [.int .i64 30, .int .i64 5200, .bool true]]], [.str [115, 105, 100, 101], .ps .unk [[.int .i64 40, .int .i64 0, .bool false]]]], .ps .unk [[.str [119], .str [117, 112], .int .i64 120, .str [115, 105, 100, 101], .bool false]], .ps .unk [[.str [97, 114, 99, 104], .str [98, 114, 105, 100, 103, 101], .str [117, 112], .int .i64 130, .int .i64 150]]], .agg [.str [117, 112], .int .i64 2, .int .i64 5171]], .tup [.agg [.str [117, 112], .int .i64 179], .int .i64 0]⟩
theorem ac36 : ∀ lo H, CallOk NC lo ak36.f ak36.args H ak36.v H := known_ok saneNC awh35 (fuel := 5000) (by kernel_rfl) (by kernel_rfl) (by kernel_rfl)
def aw36 : List Known := ak36 :: aw35
theorem awh36 : ∀ k ∈ aw36, ∀ lo H, CallOk NC lo k.f k.args H k.v H := fun k h => (List.mem_cons.1 h).elim (fun e => e ▸ ac36) (awh35 k)
def ak37 : Known := ⟨65, [.ps .unk [[.int .i64 10, .ps .unk [[.str [117, 112], .ps .unk [[.int .i64 100, .int .i64 5000, .bool false], [.int .i64 50, .int .i64 5080, .bool false], [.int .i64 30, .int .i64 5200, .bool true]]], [.str [115, 105, 100, 101], .ps .unk [[.int .i64 40, .int .i64 0, .bool false]]]], .ps .unk [[.str [119], .str [117, 112], .int .i64 120, .str [115, 105, 100, 101], .bool false]], .ps .unk [[.str [97, 114, 99, 104], .str [98, 114, 105, 100, 103, 101], .str [117, 112], .int .i64 130, .int .i64 150]], .ps .unk []], [.int .i64 20, .ps .unk [[.str [109, 97, 105, 110], .ps .unk [[.int .i64 300, .int .i64 1000, .bool false]]]], .ps .unk [], .ps .unk [], .ps .unk [[.str [117, 112], .int .i64 0, .int .i64 100, .str [109, 97, 105, 110], .int .i64 20, .bool false], [.str [117, 112], .int .i64 100, .int .i64 50, .str [109, 97, 105, 110], .int .i64 200, .bool true]]]], .int .i64 15, .agg [.str [117, 112], .int .i64 2, .int .i64 5171], .int .i64 25], .tup [.agg [.str [], .int .i64 0, .int .i64 0], .int .i64 7]⟩
theorem ac37 : ∀ lo H, CallOk NC lo ak37.f ak37.args H ak37.v H := known_ok saneNC awh36 (fuel := 5000) (by kernel_rfl) (by kernel_rfl) (by kernel_rfl)
def aw37 : List Known := ak37 :: aw36
theorem awh37 : ∀ k ∈ aw37, ∀ lo H, CallOk NC lo k.f k.args H k.v H := fun k h => (List.mem_cons.1 h).elim (fun e => e ▸ ac37) (awh36 k)
def ak38 : Known := ⟨87, [.agg [.ps .unk [[.str [117, 112], .ps .unk [[.int .i64 100, .int .i64 5000, .bool false], [.int .i64 50, .int .i64 5080, .bool false], [.int .i64 30, .int .i64 5200, .bool true]]], [.str [115, 105, 100, 101], .ps .unk [[.int .i64 40, .int .i64 0, .bool false]]]], .ps .unk [[.str [119], .str [117, 112], .int .i64 120, .str [115, 105, 100, 101], .bool false]], .ps .unk [[.str [97, 114, 99, 104], .str [98, 114, 105, 100, 103, 101], .str [117, 112], .int .i64 130, .int .i64 150]]]], .tup [.str [108, 105, 110, 101, 32, 117, 112, 10, 112, 105, 101, 99, 101, 32, 49, 48, 48, 32, 53, 48, 48, 48, 32, 117, 112, 10, 112, 105, 101, 99, 101, 32, 53, 48, 32, 53, 48, 56, 48, 32, 117, 112, 10, 112, 105, 101, 99, 101, 32, 51, 48, 32, 53, 50, 48, 48, 32, 100, 111, 119, 110, 10, 108, 105, 110, 101, 32, 115, 105, 100, 101, 10, 112, 105, 101, 99, 101, 32, 52, 48, 32, 48, 32, 117, 112, 10, 115, 119, 105, 116, 99, 104, 32, 119, 32, 117, 112, 32, 49, 50, 48, 32, 115, 105, 100, 101, 32, 102, 105, 114, 115, 116, 10, 115, 116, 114, 117, 99, 116, 117, 114, 101, 32, 97, 114, 99, 104, 32, 98, 114, 105, 100, 103, 101, 32, 117, 112, 32, 49, 51, 48, 32, 49, 53, 48, 10], .int .i64 0]⟩
theorem ac38 : ∀ lo H, CallOk NC lo ak38.f ak38.args H ak38.v H := known_ok saneNC awh37 (fuel := 5000) (by kernel_rfl) (by kernel_rfl) (by kernel_rfl)
def aw38 : List Known := ak38 :: aw37
theorem awh38 : ∀ k ∈ aw38, ∀ lo H, CallOk NC lo k.f k.args H k.v H := fun k h => (List.mem_cons.1 h).elim (fun e => e ▸ ac38) (awh37 k)
def ak39 : Known := ⟨16, [], .bool true⟩
theorem ac39 : ∀ lo H, CallOk NC lo ak39.f ak39.args H ak39.v H := known_ok saneNC awh38 (fuel := 5000) (by kernel_rfl) (by kernel_rfl) (by kernel_rfl)
end Go.Sim

/-
The law: NetworkPlaces returns true.
-/
namespace Go.Sim
open Go Go.Proofs
set_option maxRecDepth 100000
set_option maxHeartbeats 16000000
noncomputable def p16 : List AV → Option AV := fun l => match l with
  | [] => some (.bool true)
  | _ => none
theorem pok16 : ∀ args v, p16 args = some v → ∀ lo H, CallOk NC lo 16 args H v H := by
  intro args v h
  cases args with
  | nil =>
    have : v = .bool true := by simpa [p16] using h.symm
    subst this
    exact ac39
  | cons a r => simp [p16] at h
theorem e16 : p16 [] = some (.bool true) := rfl
noncomputable def p17 : List AV → Option AV := primOf (α := Net) (fun x => [.agg x.cells]) (fun _ => True) (fun x => .bool (shortN x))
theorem pok17 : ∀ args v, p17 args = some v → ∀ lo H, CallOk NC lo 17 args H v H := by
  intro args v h
  obtain ⟨x, rfl, hp, rfl⟩ := primOf_inv h
  clear h
  revert x
  intro x; exact c17 x
theorem pe17 (x : Net) (hp : (fun _ => True) x) : p17 ((fun x => [.agg x.cells]) x) = some ((fun x => .bool (shortN x)) x) := primOf_enc (by intro x y h; exact cells1_inj x y h) x hp
noncomputable def p18 : List AV → Option AV := primOf (α := Net × List Nat) (fun x => [.agg x.1.cells, .str x.2]) (fun x => x.1.Ok) (fun x => .tup (if netP x.1 = 0 then (if lnB x.1.lines x.2 then [i64 (sumW (lnOf x.1.lines x.2).ps 0), i64 0] else [i64 0, i64 10]) else [i64 0, i64 (netP x.1)]))
theorem pok18 : ∀ args v, p18 args = some v → ∀ lo H, CallOk NC lo 18 args H v H := by
  intro args v h
  obtain ⟨x, rfl, hp, rfl⟩ := primOf_inv h
  clear h
  revert x
  intro x hx; exact c18 x.1 x.2 hx
theorem pe18 (x : Net × List Nat) (hp : (fun x => x.1.Ok) x) : p18 ((fun x => [.agg x.1.cells, .str x.2]) x) = some ((fun x => .tup (if netP x.1 = 0 then (if lnB x.1.lines x.2 then [i64 (sumW (lnOf x.1.lines x.2).ps 0), i64 0] else [i64 0, i64 10]) else [i64 0, i64 (netP x.1)])) x) := primOf_enc (by intro x y h; (obtain ⟨a, b⟩ := x; obtain ⟨c, d⟩ := y; simp only [List.cons.injEq, AV.agg.injEq, AV.str.injEq, true_and, and_true] at h; obtain ⟨h1, rfl⟩ := h; rw [Net.cells_inj _ _ h1])) x hp
noncomputable def p19 : List AV → Option AV := primOf (α := Net) (fun x => [.agg x.cells]) (fun x => x.fits ∧ x.sws.length ≤ maxRows ∧ x.sts.length ≤ maxRows) (fun x => .agg x.cells)
theorem pok19 : ∀ args v, p19 args = some v → ∀ lo H, CallOk NC lo 19 args H v H := by
  intro args v h
  obtain ⟨x, rfl, hp, rfl⟩ := primOf_inv h
  clear h
  revert x
  intro x hx; exact c19 x hx.1 hx.2.1 hx.2.2
theorem pe19 (x : Net) (hp : (fun x => x.fits ∧ x.sws.length ≤ maxRows ∧ x.sts.length ≤ maxRows) x) : p19 ((fun x => [.agg x.cells]) x) = some ((fun x => .agg x.cells) x) := primOf_enc (by intro x y h; exact cells1_inj x y h) x hp
noncomputable def p20 : List AV → Option AV := primOf (α := Net × List Nat × Int) (fun x => [.agg x.1.cells, .agg [.str x.2.1, i64 x.2.2]]) (fun x => x.1.Ok) (fun x => .tup (if netP x.1 = 0 then (if placeP x.1 x.2.1 x.2.2 = 0 then [.agg [.str x.2.1, i64 (addrK (lnOf x.1.lines x.2.1) x.2.2 (lnOf x.1.lines x.2.1).ps.length).1, i64 (addrK (lnOf x.1.lines x.2.1) x.2.2 (lnOf x.1.lines x.2.1).ps.length).2], i64 0] else [noAddr, i64 (placeP x.1 x.2.1 x.2.2)]) else [noAddr, i64 (netP x.1)]))
theorem pok20 : ∀ args v, p20 args = some v → ∀ lo H, CallOk NC lo 20 args H v H := by
  intro args v h
  obtain ⟨x, rfl, hp, rfl⟩ := primOf_inv h
  clear h
  revert x
  intro x hx; exact c20 x.1 x.2.1 x.2.2 hx
theorem pe20 (x : Net × List Nat × Int) (hp : (fun x => x.1.Ok) x) : p20 ((fun x => [.agg x.1.cells, .agg [.str x.2.1, i64 x.2.2]]) x) = some ((fun x => .tup (if netP x.1 = 0 then (if placeP x.1 x.2.1 x.2.2 = 0 then [.agg [.str x.2.1, i64 (addrK (lnOf x.1.lines x.2.1) x.2.2 (lnOf x.1.lines x.2.1).ps.length).1, i64 (addrK (lnOf x.1.lines x.2.1) x.2.2 (lnOf x.1.lines x.2.1).ps.length).2], i64 0] else [noAddr, i64 (placeP x.1 x.2.1 x.2.2)]) else [noAddr, i64 (netP x.1)])) x) := primOf_enc (by intro x y h; (obtain ⟨a, b, c⟩ := x; obtain ⟨d, e, f⟩ := y; simp only [List.cons.injEq, AV.agg.injEq, AV.str.injEq, AV.int.injEq, true_and, and_true] at h; obtain ⟨h1, rfl, rfl⟩ := h; rw [Net.cells_inj _ _ h1])) x hp
noncomputable def p21 : List AV → Option AV := primOf (α := Net × List Nat × Int × Int) (fun x => [.agg x.1.cells, .agg [.str x.2.1, i64 x.2.2.1, i64 x.2.2.2]]) (fun x => x.1.Ok) (fun x => .tup (if netP x.1 = 0 then placedP x.1 x.2.1 x.2.2.1 x.2.2.2 else [noPlace, i64 (netP x.1)]))
theorem pok21 : ∀ args v, p21 args = some v → ∀ lo H, CallOk NC lo 21 args H v H := by
  intro args v h
  obtain ⟨x, rfl, hp, rfl⟩ := primOf_inv h
  clear h
  revert x
  intro x hx; exact c21 x.1 x.2.1 x.2.2.1 x.2.2.2 hx
theorem pe21 (x : Net × List Nat × Int × Int) (hp : (fun x => x.1.Ok) x) : p21 ((fun x => [.agg x.1.cells, .agg [.str x.2.1, i64 x.2.2.1, i64 x.2.2.2]]) x) = some ((fun x => .tup (if netP x.1 = 0 then placedP x.1 x.2.1 x.2.2.1 x.2.2.2 else [noPlace, i64 (netP x.1)])) x) := primOf_enc (by intro x y h; (obtain ⟨a, b, c, d⟩ := x; obtain ⟨a', b', c', d'⟩ := y; simp only [List.cons.injEq, AV.agg.injEq, AV.str.injEq, AV.int.injEq, true_and, and_true] at h; obtain ⟨h1, rfl, rfl, rfl⟩ := h; rw [Net.cells_inj _ _ h1])) x hp
noncomputable def p22 : List AV → Option AV := primOf (α := Net) (fun x => [.agg x.cells]) (fun x => x.fits ∧ x.sws.length ≤ maxRows ∧ x.sts.length ≤ maxRows) (fun x => i64 (netR x))
theorem pok22 : ∀ args v, p22 args = some v → ∀ lo H, CallOk NC lo 22 args H v H := by
  intro args v h
  obtain ⟨x, rfl, hp, rfl⟩ := primOf_inv h
  clear h
  revert x
  intro x hx; exact c22 x hx.1 hx.2.1 hx.2.2
theorem pe22 (x : Net) (hp : (fun x => x.fits ∧ x.sws.length ≤ maxRows ∧ x.sts.length ≤ maxRows) x) : p22 ((fun x => [.agg x.cells]) x) = some ((fun x => i64 (netR x)) x) := primOf_enc (by intro x y h; exact cells1_inj x y h) x hp
noncomputable def p23 : List AV → Option AV := primOf (α := Net × List Nat) (fun x => [.agg x.1.cells, .str x.2]) (fun x => x.1.fits) (fun x => i64 (lineI x.1.lines x.2))
theorem pok23 : ∀ args v, p23 args = some v → ∀ lo H, CallOk NC lo 23 args H v H := by
  intro args v h
  obtain ⟨x, rfl, hp, rfl⟩ := primOf_inv h
  clear h
  revert x
  intro x hx; exact c23 x.1 x.2 hx
theorem pe23 (x : Net × List Nat) (hp : (fun x => x.1.fits) x) : p23 ((fun x => [.agg x.1.cells, .str x.2]) x) = some ((fun x => i64 (lineI x.1.lines x.2)) x) := primOf_enc (by intro x y h; (obtain ⟨a, b⟩ := x; obtain ⟨c, d⟩ := y; simp only [List.cons.injEq, AV.agg.injEq, AV.str.injEq, true_and, and_true] at h; obtain ⟨h1, rfl⟩ := h; rw [Net.cells_inj _ _ h1])) x hp
noncomputable def p24 : List AV → Option AV := primOf (α := Net × List Nat × Int) (fun x => [.agg x.1.cells, .agg [.str x.2.1, i64 x.2.2]]) (fun x => x.1.fits) (fun x => i64 (hasI x.1.lines x.2.1 x.2.2))
theorem pok24 : ∀ args v, p24 args = some v → ∀ lo H, CallOk NC lo 24 args H v H := by
  intro args v h
  obtain ⟨x, rfl, hp, rfl⟩ := primOf_inv h
  clear h
  revert x
  intro x hx; exact c24 x.1 x.2.1 x.2.2 hx
theorem pe24 (x : Net × List Nat × Int) (hp : (fun x => x.1.fits) x) : p24 ((fun x => [.agg x.1.cells, .agg [.str x.2.1, i64 x.2.2]]) x) = some ((fun x => i64 (hasI x.1.lines x.2.1 x.2.2)) x) := primOf_enc (by intro x y h; (obtain ⟨a, b, c⟩ := x; obtain ⟨d, e, f⟩ := y; simp only [List.cons.injEq, AV.agg.injEq, AV.str.injEq, AV.int.injEq, true_and, and_true] at h; obtain ⟨h1, rfl, rfl⟩ := h; rw [Net.cells_inj _ _ h1])) x hp
noncomputable def p25 : List AV → Option AV := primOf (α := Net × List Nat × Int × Int) (fun x => [.agg x.1.cells, .agg [.str x.2.1, i64 x.2.2.1, i64 x.2.2.2]]) (fun x => x.1.fits) (fun x => .tup (placedR x.1 x.2.1 x.2.2.1 x.2.2.2))
theorem pok25 : ∀ args v, p25 args = some v → ∀ lo H, CallOk NC lo 25 args H v H := by
  intro args v h
  obtain ⟨x, rfl, hp, rfl⟩ := primOf_inv h
  clear h
  revert x
  intro x hx; exact c25 x.1 x.2.1 x.2.2.1 x.2.2.2 hx
theorem pe25 (x : Net × List Nat × Int × Int) (hp : (fun x => x.1.fits) x) : p25 ((fun x => [.agg x.1.cells, .agg [.str x.2.1, i64 x.2.2.1, i64 x.2.2.2]]) x) = some ((fun x => .tup (placedR x.1 x.2.1 x.2.2.1 x.2.2.2)) x) := primOf_enc (by intro x y h; (obtain ⟨a, b, c, d⟩ := x; obtain ⟨a', b', c', d'⟩ := y; simp only [List.cons.injEq, AV.agg.injEq, AV.str.injEq, AV.int.injEq, true_and, and_true] at h; obtain ⟨h1, rfl, rfl, rfl⟩ := h; rw [Net.cells_inj _ _ h1])) x hp
noncomputable def p28 : List AV → Option AV := primOf (α := Net × List Nat × Int) (fun x => [.agg x.1.cells, .agg [.str x.2.1, i64 x.2.2]]) (fun x => (x.1.fits ∧ ∃ i, findL x.1.lines x.2.1 = some i)) (fun x => addrR (lnOf x.1.lines x.2.1) x.2.1 x.2.2)
theorem pok28 : ∀ args v, p28 args = some v → ∀ lo H, CallOk NC lo 28 args H v H := by
  intro args v h
  obtain ⟨x, rfl, hp, rfl⟩ := primOf_inv h
  clear h
  revert x
  (intro x hx; obtain ⟨i, hi⟩ := hx.2; exact c28 x.1 x.2.1 x.2.2 hx.1 hi)
theorem pe28 (x : Net × List Nat × Int) (hp : (fun x => (x.1.fits ∧ ∃ i, findL x.1.lines x.2.1 = some i)) x) : p28 ((fun x => [.agg x.1.cells, .agg [.str x.2.1, i64 x.2.2]]) x) = some ((fun x => addrR (lnOf x.1.lines x.2.1) x.2.1 x.2.2) x) := primOf_enc (by intro x y h; (obtain ⟨a, b, c⟩ := x; obtain ⟨d, e, f⟩ := y; simp only [List.cons.injEq, AV.agg.injEq, AV.str.injEq, AV.int.injEq, true_and, and_true] at h; obtain ⟨h1, rfl, rfl⟩ := h; rw [Net.cells_inj _ _ h1])) x hp
noncomputable def p30 : List AV → Option AV := primOf (α := Int × Int × Int × Int) (fun x => [i64 x.1, i64 x.2.1, i64 x.2.2.1, i64 x.2.2.2]) (fun _ => True) (fun x => .bool (numB x.1 x.2.1 x.2.2.1 x.2.2.2))
theorem pok30 : ∀ args v, p30 args = some v → ∀ lo H, CallOk NC lo 30 args H v H := by
  intro args v h
  obtain ⟨x, rfl, hp, rfl⟩ := primOf_inv h
  clear h
  revert x
  intro x; exact c30 x.1 x.2.1 x.2.2.1 x.2.2.2
theorem pe30 (x : Int × Int × Int × Int) (hp : (fun _ => True) x) : p30 ((fun x => [i64 x.1, i64 x.2.1, i64 x.2.2.1, i64 x.2.2.2]) x) = some ((fun x => .bool (numB x.1 x.2.1 x.2.2.1 x.2.2.2)) x) := primOf_enc (by intro x y h; (obtain ⟨a, b, c, d⟩ := x; obtain ⟨a', b', c', d'⟩ := y; simp at h; obtain ⟨rfl, rfl, rfl, rfl⟩ := h; rfl)) x hp
theorem e30 (a b c d : Int) : p30 [.int .i64 a, .int .i64 b, .int .i64 c, .int .i64 d] = some (.bool (numB a b c d)) := pe30 (a, b, c, d) trivial
noncomputable def PPO : FuncId → Option (List AV → Option AV) := addPrim 30 p30 (addPrim 28 p28 (addPrim 25 p25 (addPrim 24 p24 (addPrim 23 p23 (addPrim 22 p22 (addPrim 21 p21 (addPrim 20 p20 (addPrim 19 p19 (addPrim 18 p18 (addPrim 17 p17 (addPrim 16 p16 (PPN))))))))))))
theorem primsO : PrimsOk NC PPO := primsOk_add (primsOk_add (primsOk_add (primsOk_add (primsOk_add (primsOk_add (primsOk_add (primsOk_add (primsOk_add (primsOk_add (primsOk_add (primsOk_add (primsN) (by kernel_rfl) (by kernel_rfl) pok16) (by kernel_rfl) (by kernel_rfl) pok17) (by kernel_rfl) (by kernel_rfl) pok18) (by kernel_rfl) (by kernel_rfl) pok19) (by kernel_rfl) (by kernel_rfl) pok20) (by kernel_rfl) (by kernel_rfl) pok21) (by kernel_rfl) (by kernel_rfl) pok22) (by kernel_rfl) (by kernel_rfl) pok23) (by kernel_rfl) (by kernel_rfl) pok24) (by kernel_rfl) (by kernel_rfl) pok25) (by kernel_rfl) (by kernel_rfl) pok28) (by kernel_rfl) (by kernel_rfl) pok30
theorem enO_48 {rec : Rec} {lo : Nat} {args : List AV} {H : Heap} {K : AV → Heap → Prop} : VO (aenter (NC.withPrims PPO) rec lo 48 args H) K = AO (p48 args) fun v => K v H := enter_prim (by rfl) (by kernel_rfl)
theorem enO_121 {rec : Rec} {lo : Nat} {args : List AV} {H : Heap} {K : AV → Heap → Prop} : VO (aenter (NC.withPrims PPO) rec lo 121 args H) K = AO (p121 args) fun v => K v H := enter_prim (by rfl) (by kernel_rfl)
theorem enO_34 {rec : Rec} {lo : Nat} {args : List AV} {H : Heap} {K : AV → Heap → Prop} : VO (aenter (NC.withPrims PPO) rec lo 34 args H) K = AO (p34 args) fun v => K v H := enter_prim (by rfl) (by kernel_rfl)
theorem enO_111 {rec : Rec} {lo : Nat} {args : List AV} {H : Heap} {K : AV → Heap → Prop} : VO (aenter (NC.withPrims PPO) rec lo 111 args H) K = AO (p111 args) fun v => K v H := enter_prim (by rfl) (by kernel_rfl)
theorem enO_26 {rec : Rec} {lo : Nat} {args : List AV} {H : Heap} {K : AV → Heap → Prop} : VO (aenter (NC.withPrims PPO) rec lo 26 args H) K = AO (p26 args) fun v => K v H := enter_prim (by rfl) (by kernel_rfl)
theorem enO_178 {rec : Rec} {lo : Nat} {args : List AV} {H : Heap} {K : AV → Heap → Prop} : VO (aenter (NC.withPrims PPO) rec lo 178 args H) K = AO (p178 args) fun v => K v H := enter_prim (by rfl) (by kernel_rfl)
theorem enO_109 {rec : Rec} {lo : Nat} {args : List AV} {H : Heap} {K : AV → Heap → Prop} : VO (aenter (NC.withPrims PPO) rec lo 109 args H) K = AO (p109 args) fun v => K v H := enter_prim (by rfl) (by kernel_rfl)
theorem enO_108 {rec : Rec} {lo : Nat} {args : List AV} {H : Heap} {K : AV → Heap → Prop} : VO (aenter (NC.withPrims PPO) rec lo 108 args H) K = AO (p108 args) fun v => K v H := enter_prim (by rfl) (by kernel_rfl)
theorem enO_27 {rec : Rec} {lo : Nat} {args : List AV} {H : Heap} {K : AV → Heap → Prop} : VO (aenter (NC.withPrims PPO) rec lo 27 args H) K = AO (p27 args) fun v => K v H := enter_prim (by rfl) (by kernel_rfl)
theorem enO_97 {rec : Rec} {lo : Nat} {args : List AV} {H : Heap} {K : AV → Heap → Prop} : VO (aenter (NC.withPrims PPO) rec lo 97 args H) K = AO (p97 args) fun v => K v H := enter_prim (by rfl) (by kernel_rfl)
theorem enO_122 {rec : Rec} {lo : Nat} {args : List AV} {H : Heap} {K : AV → Heap → Prop} : VO (aenter (NC.withPrims PPO) rec lo 122 args H) K = AO (p122 args) fun v => K v H := enter_prim (by rfl) (by kernel_rfl)
theorem enO_182 {rec : Rec} {lo : Nat} {args : List AV} {H : Heap} {K : AV → Heap → Prop} : VO (aenter (NC.withPrims PPO) rec lo 182 args H) K = AO (p182 args) fun v => K v H := enter_prim (by rfl) (by kernel_rfl)
theorem enO_35 {rec : Rec} {lo : Nat} {args : List AV} {H : Heap} {K : AV → Heap → Prop} : VO (aenter (NC.withPrims PPO) rec lo 35 args H) K = AO (p35 args) fun v => K v H := enter_prim (by rfl) (by kernel_rfl)
theorem enO_115 {rec : Rec} {lo : Nat} {args : List AV} {H : Heap} {K : AV → Heap → Prop} : VO (aenter (NC.withPrims PPO) rec lo 115 args H) K = AO (p115 args) fun v => K v H := enter_prim (by rfl) (by kernel_rfl)
theorem enO_36 {rec : Rec} {lo : Nat} {args : List AV} {H : Heap} {K : AV → Heap → Prop} : VO (aenter (NC.withPrims PPO) rec lo 36 args H) K = AO (p36 args) fun v => K v H := enter_prim (by rfl) (by kernel_rfl)
theorem enO_120 {rec : Rec} {lo : Nat} {args : List AV} {H : Heap} {K : AV → Heap → Prop} : VO (aenter (NC.withPrims PPO) rec lo 120 args H) K = AO (p120 args) fun v => K v H := enter_prim (by rfl) (by kernel_rfl)
theorem enO_106 {rec : Rec} {lo : Nat} {args : List AV} {H : Heap} {K : AV → Heap → Prop} : VO (aenter (NC.withPrims PPO) rec lo 106 args H) K = AO (p106 args) fun v => K v H := enter_prim (by rfl) (by kernel_rfl)
theorem enO_179 {rec : Rec} {lo : Nat} {args : List AV} {H : Heap} {K : AV → Heap → Prop} : VO (aenter (NC.withPrims PPO) rec lo 179 args H) K = AO (p179 args) fun v => K v H := enter_prim (by rfl) (by kernel_rfl)
theorem enO_126 {rec : Rec} {lo : Nat} {args : List AV} {H : Heap} {K : AV → Heap → Prop} : VO (aenter (NC.withPrims PPO) rec lo 126 args H) K = AO (p126 args) fun v => K v H := enter_prim (by rfl) (by kernel_rfl)
theorem enO_103 {rec : Rec} {lo : Nat} {args : List AV} {H : Heap} {K : AV → Heap → Prop} : VO (aenter (NC.withPrims PPO) rec lo 103 args H) K = AO (p103 args) fun v => K v H := enter_prim (by rfl) (by kernel_rfl)
theorem enO_104 {rec : Rec} {lo : Nat} {args : List AV} {H : Heap} {K : AV → Heap → Prop} : VO (aenter (NC.withPrims PPO) rec lo 104 args H) K = AO (p104 args) fun v => K v H := enter_prim (by rfl) (by kernel_rfl)
theorem enO_105 {rec : Rec} {lo : Nat} {args : List AV} {H : Heap} {K : AV → Heap → Prop} : VO (aenter (NC.withPrims PPO) rec lo 105 args H) K = AO (p105 args) fun v => K v H := enter_prim (by rfl) (by kernel_rfl)
theorem enO_99 {rec : Rec} {lo : Nat} {args : List AV} {H : Heap} {K : AV → Heap → Prop} : VO (aenter (NC.withPrims PPO) rec lo 99 args H) K = AO (p99 args) fun v => K v H := enter_prim (by rfl) (by kernel_rfl)
theorem enO_226 {rec : Rec} {lo : Nat} {args : List AV} {H : Heap} {K : AV → Heap → Prop} : VO (aenter (NC.withPrims PPO) rec lo 226 args H) K = AO (p226 args) fun v => K v H := enter_prim (by rfl) (by kernel_rfl)
theorem enO_134 {rec : Rec} {lo : Nat} {args : List AV} {H : Heap} {K : AV → Heap → Prop} : VO (aenter (NC.withPrims PPO) rec lo 134 args H) K = AO (p134 args) fun v => K v H := enter_prim (by rfl) (by kernel_rfl)
theorem enO_177 {rec : Rec} {lo : Nat} {args : List AV} {H : Heap} {K : AV → Heap → Prop} : VO (aenter (NC.withPrims PPO) rec lo 177 args H) K = AO (p177 args) fun v => K v H := enter_prim (by rfl) (by kernel_rfl)
theorem enO_180 {rec : Rec} {lo : Nat} {args : List AV} {H : Heap} {K : AV → Heap → Prop} : VO (aenter (NC.withPrims PPO) rec lo 180 args H) K = AO (p180 args) fun v => K v H := enter_prim (by rfl) (by kernel_rfl)
theorem enO_98 {rec : Rec} {lo : Nat} {args : List AV} {H : Heap} {K : AV → Heap → Prop} : VO (aenter (NC.withPrims PPO) rec lo 98 args H) K = AO (p98 args) fun v => K v H := enter_prim (by rfl) (by kernel_rfl)
theorem enO_181 {rec : Rec} {lo : Nat} {args : List AV} {H : Heap} {K : AV → Heap → Prop} : VO (aenter (NC.withPrims PPO) rec lo 181 args H) K = AO (p181 args) fun v => K v H := enter_prim (by rfl) (by kernel_rfl)
theorem enO_183 {rec : Rec} {lo : Nat} {args : List AV} {H : Heap} {K : AV → Heap → Prop} : VO (aenter (NC.withPrims PPO) rec lo 183 args H) K = AO (p183 args) fun v => K v H := enter_prim (by rfl) (by kernel_rfl)
theorem enO_110 {rec : Rec} {lo : Nat} {args : List AV} {H : Heap} {K : AV → Heap → Prop} : VO (aenter (NC.withPrims PPO) rec lo 110 args H) K = AO (p110 args) fun v => K v H := enter_prim (by rfl) (by kernel_rfl)
theorem enO_112 {rec : Rec} {lo : Nat} {args : List AV} {H : Heap} {K : AV → Heap → Prop} : VO (aenter (NC.withPrims PPO) rec lo 112 args H) K = AO (p112 args) fun v => K v H := enter_prim (by rfl) (by kernel_rfl)
theorem enO_113 {rec : Rec} {lo : Nat} {args : List AV} {H : Heap} {K : AV → Heap → Prop} : VO (aenter (NC.withPrims PPO) rec lo 113 args H) K = AO (p113 args) fun v => K v H := enter_prim (by rfl) (by kernel_rfl)
theorem enO_29 {rec : Rec} {lo : Nat} {args : List AV} {H : Heap} {K : AV → Heap → Prop} : VO (aenter (NC.withPrims PPO) rec lo 29 args H) K = AO (p29 args) fun v => K v H := enter_prim (by rfl) (by kernel_rfl)
theorem enO_100 {rec : Rec} {lo : Nat} {args : List AV} {H : Heap} {K : AV → Heap → Prop} : VO (aenter (NC.withPrims PPO) rec lo 100 args H) K = AO (p100 args) fun v => K v H := enter_prim (by rfl) (by kernel_rfl)
theorem enO_101 {rec : Rec} {lo : Nat} {args : List AV} {H : Heap} {K : AV → Heap → Prop} : VO (aenter (NC.withPrims PPO) rec lo 101 args H) K = AO (p101 args) fun v => K v H := enter_prim (by rfl) (by kernel_rfl)
theorem enO_102 {rec : Rec} {lo : Nat} {args : List AV} {H : Heap} {K : AV → Heap → Prop} : VO (aenter (NC.withPrims PPO) rec lo 102 args H) K = AO (p102 args) fun v => K v H := enter_prim (by rfl) (by kernel_rfl)
theorem enO_107 {rec : Rec} {lo : Nat} {args : List AV} {H : Heap} {K : AV → Heap → Prop} : VO (aenter (NC.withPrims PPO) rec lo 107 args H) K = AO (p107 args) fun v => K v H := enter_prim (by rfl) (by kernel_rfl)
theorem enO_16 {rec : Rec} {lo : Nat} {args : List AV} {H : Heap} {K : AV → Heap → Prop} : VO (aenter (NC.withPrims PPO) rec lo 16 args H) K = AO (p16 args) fun v => K v H := enter_prim (by rfl) (by kernel_rfl)
theorem enO_17 {rec : Rec} {lo : Nat} {args : List AV} {H : Heap} {K : AV → Heap → Prop} : VO (aenter (NC.withPrims PPO) rec lo 17 args H) K = AO (p17 args) fun v => K v H := enter_prim (by rfl) (by kernel_rfl)
theorem enO_18 {rec : Rec} {lo : Nat} {args : List AV} {H : Heap} {K : AV → Heap → Prop} : VO (aenter (NC.withPrims PPO) rec lo 18 args H) K = AO (p18 args) fun v => K v H := enter_prim (by rfl) (by kernel_rfl)
theorem enO_19 {rec : Rec} {lo : Nat} {args : List AV} {H : Heap} {K : AV → Heap → Prop} : VO (aenter (NC.withPrims PPO) rec lo 19 args H) K = AO (p19 args) fun v => K v H := enter_prim (by rfl) (by kernel_rfl)
theorem enO_20 {rec : Rec} {lo : Nat} {args : List AV} {H : Heap} {K : AV → Heap → Prop} : VO (aenter (NC.withPrims PPO) rec lo 20 args H) K = AO (p20 args) fun v => K v H := enter_prim (by rfl) (by kernel_rfl)
theorem enO_21 {rec : Rec} {lo : Nat} {args : List AV} {H : Heap} {K : AV → Heap → Prop} : VO (aenter (NC.withPrims PPO) rec lo 21 args H) K = AO (p21 args) fun v => K v H := enter_prim (by rfl) (by kernel_rfl)
theorem enO_22 {rec : Rec} {lo : Nat} {args : List AV} {H : Heap} {K : AV → Heap → Prop} : VO (aenter (NC.withPrims PPO) rec lo 22 args H) K = AO (p22 args) fun v => K v H := enter_prim (by rfl) (by kernel_rfl)
theorem enO_23 {rec : Rec} {lo : Nat} {args : List AV} {H : Heap} {K : AV → Heap → Prop} : VO (aenter (NC.withPrims PPO) rec lo 23 args H) K = AO (p23 args) fun v => K v H := enter_prim (by rfl) (by kernel_rfl)
theorem enO_24 {rec : Rec} {lo : Nat} {args : List AV} {H : Heap} {K : AV → Heap → Prop} : VO (aenter (NC.withPrims PPO) rec lo 24 args H) K = AO (p24 args) fun v => K v H := enter_prim (by rfl) (by kernel_rfl)
theorem enO_25 {rec : Rec} {lo : Nat} {args : List AV} {H : Heap} {K : AV → Heap → Prop} : VO (aenter (NC.withPrims PPO) rec lo 25 args H) K = AO (p25 args) fun v => K v H := enter_prim (by rfl) (by kernel_rfl)
theorem enO_28 {rec : Rec} {lo : Nat} {args : List AV} {H : Heap} {K : AV → Heap → Prop} : VO (aenter (NC.withPrims PPO) rec lo 28 args H) K = AO (p28 args) fun v => K v H := enter_prim (by rfl) (by kernel_rfl)
theorem enO_30 {rec : Rec} {lo : Nat} {args : List AV} {H : Heap} {K : AV → Heap → Prop} : VO (aenter (NC.withPrims PPO) rec lo 30 args H) K = AO (p30 args) fun v => K v H := enter_prim (by rfl) (by kernel_rfl)
attribute [go_sem ↓] enO_48 enO_121 enO_34 enO_111 enO_26 enO_178 enO_109 enO_108 enO_27 enO_97 enO_122 enO_182
attribute [go_sem ↓] enO_35 enO_115 enO_36 enO_120 enO_106 enO_179 enO_126 enO_103 enO_104 enO_105 enO_99 enO_226
attribute [go_sem ↓] enO_134 enO_177 enO_180 enO_98 enO_181 enO_183 enO_110 enO_112 enO_113 enO_29 enO_100 enO_101
attribute [go_sem ↓] enO_102 enO_107 enO_16 enO_17 enO_18 enO_19 enO_20 enO_21 enO_22 enO_23 enO_24 enO_25
attribute [go_sem ↓] enO_28 enO_30
theorem ety30 : eqType NC.P 100 30 = true := by kernel_rfl
theorem ety28 : eqType NC.P 100 28 = true := by kernel_rfl
theorem aeq30' (a a' : List Nat) (b b' c c' : Int) : aeqT NC.P 100 30 (.agg [.str a, .int .i64 b, .int .i64 c]) (.agg [.str a', .int .i64 b', .int .i64 c']) =
    (match some (beqL a a') with
    | some true => (match some (eqI b b') with
      | some true => (match some (eqI c c') with
        | some true => some true
        | some false => some false
        | none => none)
      | some false => some false
      | none => none)
    | some false => some false
    | none => none) := by kernel_rfl
theorem aeq28' (a a' : List Nat) (b b' : Int) : aeqT NC.P 100 28 (.agg [.str a, .int .i64 b]) (.agg [.str a', .int .i64 b']) =
    (match some (beqL a a') with
    | some true => (match some (eqI b b') with
      | some true => some true
      | some false => some false
      | none => none)
    | some false => some false
    | none => none) := by kernel_rfl
theorem beqL_self (a : List Nat) : beqL a a = true := (beqL_iff a a).2 rfl
theorem eqI_self (a : Int) : eqI a a = true := by rw [eqI_iff]; simp
theorem aeq30 (a : List Nat) (b c : Int) : aeqT NC.P 100 30 (.agg [.str a, .int .i64 b, .int .i64 c]) (.agg [.str a, .int .i64 b, .int .i64 c]) = some true := by
  rw [aeq30', beqL_self, eqI_self, eqI_self]
theorem aeq28 (a : List Nat) (b : Int) : aeqT NC.P 100 28 (.agg [.str a, .int .i64 b]) (.agg [.str a, .int .i64 b]) = some true := by
  rw [aeq28', beqL_self, eqI_self]
theorem short_ok {n : Net} (h : shortN n = true) : n.Ok := by
  unfold shortN at h
  simp only [Bool.and_eq_true, Bool.not_eq_true', Bool.or_eq_false_iff, decide_eq_false_iff_not, List.all_eq_true] at h
  obtain ⟨⟨⟨⟨⟨h1, h2⟩, h3⟩, h4⟩, h5⟩, h6⟩ := h
  have short : ∀ s : List Nat, shortB s = true → s.length ≤ maxRows := by
    intro s hs
    unfold shortB at hs
    simp only [Bool.not_eq_true', decide_eq_false_iff_not] at hs
    unfold maxRows; omega
  refine ⟨by unfold maxRows; omega, fun l hl => ?_, by unfold maxRows; omega, fun s hs => ?_, by unfold maxRows; omega, fun s hs => ?_⟩
  · have := h4 l hl
    unfold shortLn at this
    simp only [Bool.and_eq_true, Bool.not_eq_true', decide_eq_false_iff_not] at this
    exact ⟨short _ this.1, by unfold maxRows; omega⟩
  · have := h5 s hs
    unfold shortSw at this
    simp only [Bool.and_eq_true] at this
    exact short _ this.1.1
  · have := h6 s hs
    unfold shortSt at this
    simp only [Bool.and_eq_true] at this
    exact ⟨short _ this.1.1, short _ this.1.2⟩
theorem num_bad {e : Int} (h : (e = 0) = False) : numB 0 e e 0 = true := by simp [numB, h]
theorem num_good (m : Int) : numB m 0 0 m = true := by simp [numB]
theorem c3 (n : Net) (s : List Nat) (m : Int) (a : List Nat) (ap post : Int) : ∀ lo H, CallOk NC lo 3 [.agg n.cells, .agg [.str s, i64 m], .agg [.str a, i64 ap, i64 post]] H (.bool true) H := by
  refine contract saneNC primsO (fn := Tryz.f3) (by kernel_rfl) Tryz.func3 rfl rfl (by rfl) (by rfl) ?_
  have e17 := pe17 n trivial
  simp only [Net.cells] at e17
  cases hS : shortN n with
  | false =>
    simp only [hS] at e17
    simp only [go_sem, reduceIte, Nat.reduceEqDiff, Nat.reduceAdd, Nat.reduceMul, Nat.reduceSub, Nat.reduceLeDiff, Nat.reduceLT, Nat.reduceBEq, reduceCtorEq, Net.cells, e16, e17]
  | true =>
    simp only [hS] at e17
    rcases Classical.propComplete ((40 : Int) < s.length) with q1 | q1
    · simp only [go_sem, reduceIte, Nat.reduceEqDiff, Nat.reduceAdd, Nat.reduceMul, Nat.reduceSub, Nat.reduceLeDiff, Nat.reduceLT, Nat.reduceBEq, reduceCtorEq, Net.cells, e16, e17, q1]
    rcases Classical.propComplete ((40 : Int) < a.length) with q2 | q2
    · simp only [go_sem, reduceIte, Nat.reduceEqDiff, Nat.reduceAdd, Nat.reduceMul, Nat.reduceSub, Nat.reduceLeDiff, Nat.reduceLT, Nat.reduceBEq, reduceCtorEq, Net.cells, e16, e17, q1, q2]
    have hok := short_ok hS
    have e18 := pe18 (n, s) hok
    have e19 := pe19 n ⟨hok.fits, hok.sws, hok.sts⟩
    have e20 := pe20 (n, s, m) hok
    have e21 := pe21 (n, a, ap, post) hok
    have e22 := pe22 n ⟨hok.fits, hok.sws, hok.sts⟩
    have e23 := pe23 (n, s) hok.fits
    have e24 := pe24 (n, s, m) hok.fits
    have e25 := pe25 (n, a, ap, post) hok.fits
    have e27 := pe27 (n, s) hok.lines
    have e29 := pe29 n hok
    simp only [Net.cells, i64, net_same, place_same] at e18 e19 e20 e21 e22 e23 e24 e25 e27 e29
    rcases Classical.propComplete (netR n = 0) with z | z
    case inr =>
      simp only [z, if_false, noAddr, noPlace] at e18 e20 e21
      have hnum := num_bad z
      simp only [go_sem, reduceIte, Nat.reduceEqDiff, Nat.reduceAdd, Nat.reduceMul, Nat.reduceSub, Nat.reduceLeDiff, Nat.reduceLT, Nat.reduceBEq, reduceCtorEq, Net.cells, e16, e17, q1, q2, e18, e19, e20, e21, e22, e29, e30, hnum, z, ety30, ety28, aeq30, aeq28]
    have hz := of_eq_true z
    obtain ⟨s', m', e', hpl⟩ := placedP_shape n a ap post
    have hpr := (placed_same hz a ap post).symm.trans hpl
    simp only [hz, if_true, hpl, hpr, noAddr, lineI] at e18 e20 e21 e22 e23 e24 e25 e29
    cases hf : findL n.lines s with
    | none =>
      have hb : lnB n.lines s = false := by unfold lnB; rw [hf]; rfl
      have hh : hasI n.lines s m = 10 := by unfold hasI; rw [hf]
      have z10 : ((10 : Int) = 0) = False := by simp
      have hnum := num_bad z10
      simp only [hb, hh, hf, z10, if_false, Bool.false_eq_true, Option.isNone_none, whenI_true] at e18 e20 e23 e24
      simp only [go_sem, reduceIte, Nat.reduceEqDiff, Nat.reduceAdd, Nat.reduceMul, Nat.reduceSub, Nat.reduceLeDiff, Nat.reduceLT, Nat.reduceBEq, reduceCtorEq, Net.cells, e16, e17, q1, q2, e18, e19, e20, e21, e22, e23, e24, e25, e29, e30, hnum, z10, ety30, ety28, aeq30, aeq28]
    | some i =>
      obtain ⟨l, hl, hlt, hmem⟩ := findL_at hf
      have hlo : lnOf n.lines s = l := by unfold lnOf; rw [hf]; simp [hl]
      have hb : lnB n.lines s = true := by unfold lnB; rw [hf]; rfl
      have hr := map_at (f := Ln.row) hl
      have e26 := pe26 l (hok.line l hmem).2
      simp only [Ln.row, i64] at hr e26
      have hnum := num_good (sumW l.ps 0)
      simp only [hb, hlo, hf, if_true, Option.isNone_some, whenI_false, findI] at e18 e20 e23 e24 e27
      have hhas : hasI n.lines s m = whenI (decide (m < 0) || !decide (m < sumW l.ps 0)) 14 := by unfold hasI; simp only [hf, hl]
      generalize hF : hasI n.lines s m = F at e20 e24 hhas
      rcases Classical.propComplete (F = 0) with zF | zF
      · have hFz := of_eq_true zF
        have hm : ¬ m < 0 ∧ m < sumW l.ps 0 := by
          rw [hFz] at hhas
          by_cases h1 : m < 0
          · simp [h1, whenI] at hhas
          · by_cases h2 : m < sumW l.ps 0
            · exact ⟨h1, h2⟩
            · simp [h2, whenI] at hhas
        have hg := line_good hz hl
        have ha := addr_same hg s (m := m) (by omega) hm.2
        have e28 := pe28 (n, s, m) ⟨hok.fits, i, hf⟩
        simp only [Net.cells, i64, hlo, ← ha] at e28
        simp only [hFz, if_true] at e20 e24
        simp only [go_sem, reduceIte, Nat.reduceEqDiff, Nat.reduceAdd, Nat.reduceMul, Nat.reduceSub, Nat.reduceLeDiff, Nat.reduceLT, Nat.reduceBEq, reduceCtorEq, Net.cells, Ln.row, e16, e17, q1, q2, e18, e19, e20, e21, e22, e23, e24, e25, e26, e27, e28, e29, e30, List.length_map, hlt, hr, hnum, ety30, ety28, aeq30, aeq28]
      · simp only [zF, if_false] at e20
        simp only [go_sem, reduceIte, Nat.reduceEqDiff, Nat.reduceAdd, Nat.reduceMul, Nat.reduceSub, Nat.reduceLeDiff, Nat.reduceLT, Nat.reduceBEq, reduceCtorEq, Net.cells, Ln.row, e16, e17, q1, q2, e18, e19, e20, e21, e22, e23, e24, e25, e26, e27, e29, e30, List.length_map, hlt, hr, hnum, zF, ety30, ety28, aeq30, aeq28]
end Go.Sim

/-
Histories: the reference, and the law's own helpers.
-/
-- INJ Sv.row_iff svs_iff
namespace Go.Sim
open Go Go.Proofs
set_option maxRecDepth 100000
set_option maxHeartbeats 8000000
def survR (h : List Sv) (i : Nat) : Int := match h[i]? with
  | none => 0
  | some s =>
    let e := firstI [rangeI s.day 0 100000, whenI (decide (0 < i) && !decide (lastD h i < s.day)) 11, netR s.net, mapR s.map]
    if e = 0 then (if decide ((i : Int) = 0) && decide ((0 : Int) < s.map.length) then 21 else if 0 < i then fitsR (prevN h i) s.net s.map else 0) else e
def histR (h : List Sv) : Int := if histE h = 0 then allR (survR h) h.length else histE h
theorem max0 (k : Nat) : maxI 0 (k : Int) = k := by unfold maxI; split <;> omega
noncomputable def PPF66 : FuncId → Option (List AV → Option AV) := addPrim 34 p34 (addPrim 45 p45 (addPrim 44 p44 (addPrim 22 p22 (addPrim 35 p35 (addPrim 48 p48 (fun _ => none))))))
theorem primsF66 : PrimsOk NC PPF66 := primsOk_add (primsOk_add (primsOk_add (primsOk_add (primsOk_add (primsOk_add (primsOk_none) (by kernel_rfl) (by kernel_rfl) pok48) (by kernel_rfl) (by kernel_rfl) pok35) (by kernel_rfl) (by kernel_rfl) pok22) (by kernel_rfl) (by kernel_rfl) pok44) (by kernel_rfl) (by kernel_rfl) pok45) (by kernel_rfl) (by kernel_rfl) pok34
theorem enF66_48 {rec : Rec} {lo : Nat} {args : List AV} {H : Heap} {K : AV → Heap → Prop} : VO (aenter (NC.withPrims PPF66) rec lo 48 args H) K = AO (p48 args) fun v => K v H := enter_prim (by rfl) (by kernel_rfl)
theorem enF66_35 {rec : Rec} {lo : Nat} {args : List AV} {H : Heap} {K : AV → Heap → Prop} : VO (aenter (NC.withPrims PPF66) rec lo 35 args H) K = AO (p35 args) fun v => K v H := enter_prim (by rfl) (by kernel_rfl)
theorem enF66_22 {rec : Rec} {lo : Nat} {args : List AV} {H : Heap} {K : AV → Heap → Prop} : VO (aenter (NC.withPrims PPF66) rec lo 22 args H) K = AO (p22 args) fun v => K v H := enter_prim (by rfl) (by kernel_rfl)
theorem enF66_44 {rec : Rec} {lo : Nat} {args : List AV} {H : Heap} {K : AV → Heap → Prop} : VO (aenter (NC.withPrims PPF66) rec lo 44 args H) K = AO (p44 args) fun v => K v H := enter_prim (by rfl) (by kernel_rfl)
theorem enF66_45 {rec : Rec} {lo : Nat} {args : List AV} {H : Heap} {K : AV → Heap → Prop} : VO (aenter (NC.withPrims PPF66) rec lo 45 args H) K = AO (p45 args) fun v => K v H := enter_prim (by rfl) (by kernel_rfl)
theorem enF66_34 {rec : Rec} {lo : Nat} {args : List AV} {H : Heap} {K : AV → Heap → Prop} : VO (aenter (NC.withPrims PPF66) rec lo 34 args H) K = AO (p34 args) fun v => K v H := enter_prim (by rfl) (by kernel_rfl)
attribute [go_sem ↓] enF66_48 enF66_35 enF66_22 enF66_44 enF66_45 enF66_34
theorem c66 (h : List Sv) (hp : HistOk h) : ∀ lo H, CallOk NC lo 66 [.ps .unk (h.map Sv.row)] H (i64 (histR h)) H := by
  refine contract saneNC primsF66 (fn := Tryz.f66) (by kernel_rfl) Tryz.func66 rfl rfl (by rfl) (by first | rfl | (split <;> first | rfl | (split <;> rfl))) ?_
  have hl := hp.few
  generalize hE0 : histE h = E0
  have hE0' := hE0
  unfold histE at hE0'
  rcases Classical.propComplete (E0 = 0) with z0 | z0
  case inr =>
    simp only [go_sem, reduceIte, Nat.reduceEqDiff, Nat.reduceAdd, Nat.reduceMul, Nat.reduceSub, Nat.reduceLeDiff, Nat.reduceLT, Nat.reduceBEq, reduceCtorEq, List.length_map, e48, e34_2, hE0', z0]
    simp [histR, hE0, z0]
  simp only [go_sem, reduceIte, Nat.reduceEqDiff, Nat.reduceAdd, Nat.reduceMul, Nat.reduceSub, Nat.reduceLeDiff, Nat.reduceLT, Nat.reduceBEq, reduceCtorEq, List.length_map, e48, e34_2, hE0', z0]
  refine W_for (fun k T H M => M = [] ∧ getT T 0 = .ps .unk (h.map Sv.row) ∧ getT T 4 = i64 k ∧ allR (survR h) h.length = firstI (((List.range h.length).map (survR h)).drop k)) h.length ?_ ?_ ?_
  · simp only [go_sem, reduceIte, Nat.reduceEqDiff, Nat.reduceAdd, Nat.reduceMul, Nat.reduceSub, Nat.reduceLeDiff, Nat.reduceLT, Nat.reduceBEq, reduceCtorEq]; try exact rfl
  · rintro k T H M hk ⟨rfl, g0, g4, hf⟩
    obtain ⟨s, hs⟩ : ∃ p, h[k]? = some p := ⟨h[k], by simp⟩
    have hr := map_at (f := Sv.row) hs
    have hw := wrap_succ hk hl
    have hmem := List.mem_of_getElem? hs
    have hfd := allR_step (f := survR h) hk
    have en := pe22 s.net ⟨(hp.net s hmem).fits, (hp.net s hmem).sws, (hp.net s hmem).sts⟩
    have em := pe44 s.map (hp.map s hmem).few
    generalize hE : firstI [rangeI s.day 0 100000, whenI (decide (0 < k) && !decide (lastD h k < s.day)) 11, netR s.net, mapR s.map] = E
    have hms : survR h k = if E = 0 then (if decide ((k : Int) = 0) && decide ((0 : Int) < s.map.length) then 21 else if 0 < k then fitsR (prevN h k) s.net s.map else 0) else E := by
      unfold survR; simp only [hs, hE]
    have hwp : 0 < k → wrapq .i64 (Int.sub (k : Int) 1) = ((k - 1 : Nat) : Int) := fun h => wrap_pred h (Nat.le_of_lt hk) hl
    obtain ⟨l, hl1⟩ : ∃ p, h[k - 1]? = some p := ⟨h[k - 1]'(by omega), by simp⟩
    have hr1 := map_at (f := Sv.row) hl1
    have hk1 : (k - 1 < h.length) = True := by simp; omega
    have hpos : ((0 : Int) < (k : Int)) = (0 < k) := by simp
    have hz : ((k : Int) = 0) = (k = 0) := by simp
    have ef := pe45 s.map l.net s.net ⟨(hp.map s hmem).few, (hp.net l (List.mem_of_getElem? hl1)).fits, (hp.net s hmem).fits⟩
    have hprev : 0 < k → prevN h k = l.net := fun h0 => by
      obtain ⟨j, rfl⟩ : ∃ j, k = j + 1 := ⟨k - 1, by omega⟩
      simp only [Nat.add_sub_cancel] at hl1
      unfold prevN; simp only [hl1]
    have hlast : 0 < k → lastD h k = l.day := fun h0 => by
      obtain ⟨j, rfl⟩ : ∃ j, k = j + 1 := ⟨k - 1, by omega⟩
      simp only [Nat.add_sub_cancel] at hl1
      unfold lastD; simp only [hl1]
    generalize hF : fitsR l.net s.net s.map = F at ef
    obtain ⟨d, ⟨a, b, c⟩, m⟩ := s
    obtain ⟨d', ⟨a', b', c'⟩, m'⟩ := l
    simp only [Sv.row, Net.cells, List.cons_append, List.nil_append, i64] at hr hr1 en em ef
    simp only at hE hms hlast
    by_cases hk0 : k = 0
    · have hk0' : (0 < k) = False := by simp; omega
      have hk0'' : (k = 0) = True := by simp [hk0]
      simp only [hk0', decide_false, Bool.false_and] at hE
      rcases Classical.propComplete (E = 0) with z | z
      case inr =>
        have h4 : survR h k = E := by rw [hms]; simp only [z, if_false]
        simp only [go_sem, reduceIte, Nat.reduceEqDiff, Nat.reduceAdd, Nat.reduceMul, Nat.reduceSub, Nat.reduceLeDiff, Nat.reduceLT, Nat.reduceBEq, reduceCtorEq, g0, g4, List.length_map, hk, hr, e35, e48, en, em, e34_4, hpos, hk0', hE, z]
        simp [histR, hE0, z0, hf, hfd, h4, z]
      rcases Classical.propComplete ((0 : Int) < m.length) with z1 | z1
      · have h4 : survR h k = 21 := by rw [hms]; simp only [z, hz, hk0'', z1, if_true, decide_true, Bool.and_self]
        simp only [go_sem, reduceIte, Nat.reduceEqDiff, Nat.reduceAdd, Nat.reduceMul, Nat.reduceSub, Nat.reduceLeDiff, Nat.reduceLT, Nat.reduceBEq, reduceCtorEq, g0, g4, List.length_map, hk, hr, hw, e35, e48, en, em, e34_4, hpos, hk0', hE, z, z1, hz, hk0'']
        simp [histR, hE0, z0, hf, hfd, h4]
      · have h4 : survR h k = 0 := by rw [hms]; simp only [z, hz, hk0', hk0'', z1, if_true, if_false, decide_true, decide_false, Bool.and_false, Bool.false_eq_true]
        simp only [go_sem, reduceIte, Nat.reduceEqDiff, Nat.reduceAdd, Nat.reduceMul, Nat.reduceSub, Nat.reduceLeDiff, Nat.reduceLT, Nat.reduceBEq, reduceCtorEq, g0, g4, List.length_map, hk, hr, hw, e35, e48, en, em, e34_4, hpos, hk0', hE, z, z1, hz, hk0'']
        rw [hf, hfd, h4, if_pos rfl]
    · have hk0' : (0 < k) = True := by simp; omega
      have hk0'' : (k = 0) = False := by simp [hk0]
      have hwp' := hwp (by omega)
      have hpv := hprev (by omega)
      have hld := hlast (by omega)
      simp only [hk0', decide_true, Bool.true_and, hld] at hE
      rcases Classical.propComplete (E = 0) with z | z
      case inr =>
        have h4 : survR h k = E := by rw [hms]; simp only [z, if_false]
        simp only [go_sem, reduceIte, Nat.reduceEqDiff, Nat.reduceAdd, Nat.reduceMul, Nat.reduceSub, Nat.reduceLeDiff, Nat.reduceLT, Nat.reduceBEq, reduceCtorEq, g0, g4, List.length_map, hk, hr, e35, e48, en, em, e34_4, hpos, hk0', hwp', max0, hk1, hr1, hE, z]
        simp [histR, hE0, z0, hf, hfd, h4, z]
      rcases Classical.propComplete (F = 0) with z1 | z1
      · have h4 : survR h k = 0 := by rw [hms, hpv]; simp only [z, hz, hk0', hk0'', hF, z1, if_true, if_false, decide_true, decide_false, Bool.false_and, Bool.false_eq_true]
        simp only [go_sem, reduceIte, Nat.reduceEqDiff, Nat.reduceAdd, Nat.reduceMul, Nat.reduceSub, Nat.reduceLeDiff, Nat.reduceLT, Nat.reduceBEq, reduceCtorEq, g0, g4, List.length_map, hk, hr, hw, e35, e48, en, em, e34_4, hpos, hk0', hk0'', hz, hwp', max0, hk1, hr1, hE, z, ef, z1]
        rw [hf, hfd, h4, if_pos rfl]
      · have h4 : survR h k = F := by rw [hms, hpv]; simp only [z, hz, hk0', hk0'', hF, if_true, if_false, decide_true, decide_false, Bool.false_and, Bool.false_eq_true]
        simp only [go_sem, reduceIte, Nat.reduceEqDiff, Nat.reduceAdd, Nat.reduceMul, Nat.reduceSub, Nat.reduceLeDiff, Nat.reduceLT, Nat.reduceBEq, reduceCtorEq, g0, g4, List.length_map, hk, hr, hw, e35, e48, en, em, e34_4, hpos, hk0', hk0'', hz, hwp', max0, hk1, hr1, hE, z, ef, z1]
        simp [histR, hE0, z0, hf, hfd, h4, z1]
  · rintro T H M ⟨rfl, g0, g4, hf⟩
    rw [allR_end] at hf
    simp only [go_sem, reduceIte, Nat.reduceEqDiff, Nat.reduceAdd, Nat.reduceMul, Nat.reduceSub, Nat.reduceLeDiff, Nat.reduceLT, Nat.reduceBEq, reduceCtorEq, g0, g4, List.length_map, Nat.lt_irrefl]
    simp [histR, hE0, z0, hf]
noncomputable def p66 : List AV → Option AV := primOf (α := (List Sv)) (fun x => [.ps .unk (x.map Sv.row)]) (fun x => HistOk x) (fun x => i64 (histR x))
theorem pok66 : ∀ args v, p66 args = some v → ∀ lo H, CallOk NC lo 66 args H v H := by
  intro args v h
  obtain ⟨x, rfl, hp, rfl⟩ := primOf_inv h
  exact c66 x hp
theorem pe66 (h : List Sv) (hp : HistOk h) : p66 [.ps .unk (h.map Sv.row)] = some (.int .i64 (histR h)) := primOf_enc (α := (List Sv)) (enc := fun x => [.ps .unk (x.map Sv.row)]) (pre := fun x => HistOk x) (spec := fun x => i64 (histR x)) (by intro x y h; (simp only [List.cons.injEq, AV.agg.injEq, AV.str.injEq, AV.int.injEq, AV.ps.injEq, AV.bool.injEq, Net.cells_iff, Ln.row_iff, Pc.row_iff, Mv.row_iff, lns_iff, pcs_iff, mvs_iff, Sv.row_iff, svs_iff, true_and, and_true] at h; first | simpa only [Prod.ext_iff] using h | simpa only [Prod.ext_iff, and_assoc] using h)) h hp
theorem onQ_alt (h : List Sv) (d : Int) : onQ h d = if rangeI d 0 100000 = 0 then (if onK h d h.length < 0 then (0, 7) else (onK h d h.length, 0)) else (0, rangeI d 0 100000) := by
  unfold onQ
  by_cases h1 : rangeI d 0 100000 = 0
  · simp only [h1, if_true]
    by_cases h2 : onK h d h.length < 0
    · simp only [h2, if_true, decide_true, whenI_true]
      have : maxI 0 (onK h d h.length) = 0 := by unfold maxI; split <;> omega
      rw [this]
    · simp only [h2, if_false, decide_false, whenI_false]
      have : maxI 0 (onK h d h.length) = onK h d h.length := by unfold maxI; split <;> omega
      rw [this]
  · simp only [h1, if_false]
noncomputable def PPF67 : FuncId → Option (List AV → Option AV) := addPrim 35 p35 (fun _ => none)
theorem primsF67 : PrimsOk NC PPF67 := primsOk_add (primsOk_none) (by kernel_rfl) (by kernel_rfl) pok35
theorem enF67_35 {rec : Rec} {lo : Nat} {args : List AV} {H : Heap} {K : AV → Heap → Prop} : VO (aenter (NC.withPrims PPF67) rec lo 35 args H) K = AO (p35 args) fun v => K v H := enter_prim (by rfl) (by kernel_rfl)
attribute [go_sem ↓] enF67_35
theorem c67 (h : List Sv) (d : Int) (hp : h.length ≤ maxRows) : ∀ lo H, CallOk NC lo 67 [.ps .unk (h.map Sv.row), i64 d] H (.tup [i64 (onQ h d).1, i64 (onQ h d).2]) H := by
  refine contract saneNC primsF67 (fn := Tryz.f67) (by kernel_rfl) Tryz.func67 rfl rfl (by rfl) (by first | rfl | (split <;> first | rfl | (split <;> rfl))) ?_
  have hl := hp
  rw [onQ_alt]
  generalize hE : rangeI d 0 100000 = E
  rcases Classical.propComplete (E = 0) with z | z
  case inr =>
    simp only [go_sem, reduceIte, Nat.reduceEqDiff, Nat.reduceAdd, Nat.reduceMul, Nat.reduceSub, Nat.reduceLeDiff, Nat.reduceLT, Nat.reduceBEq, reduceCtorEq, e35, hE, z]
  simp only [go_sem, reduceIte, Nat.reduceEqDiff, Nat.reduceAdd, Nat.reduceMul, Nat.reduceSub, Nat.reduceLeDiff, Nat.reduceLT, Nat.reduceBEq, reduceCtorEq, e35, hE, z]
  refine W_for (fun k T H M => M = [] ∧ getT T 1 = i64 d ∧ getT T 0 = .ps .unk (h.map Sv.row) ∧ getT T 8 = i64 k ∧ getT T 7 = i64 (onK h d k)) h.length ?_ ?_ ?_
  · simp only [go_sem, reduceIte, Nat.reduceEqDiff, Nat.reduceAdd, Nat.reduceMul, Nat.reduceSub, Nat.reduceLeDiff, Nat.reduceLT, Nat.reduceBEq, reduceCtorEq]; try exact rfl
  · rintro k T H M hk ⟨rfl, g1, g0, g8, g7⟩
    obtain ⟨s, hs⟩ : ∃ p, h[k]? = some p := ⟨h[k], by simp⟩
    have hr := map_at (f := Sv.row) hs
    have hw := wrap_succ hk hl
    have hon : onK h d (k + 1) = if d < s.day then onK h d k else k := by
      show (match h[k]? with | some s => if d < s.day then onK h d k else (k : Int) | none => onK h d k) = _
      rw [hs]
    obtain ⟨dd, ⟨a, b, c⟩, m⟩ := s
    simp only [Sv.row, Net.cells, List.cons_append, List.nil_append, i64] at hr
    simp only at hon
    rcases Classical.propComplete (d < dd) with z1 | z1 <;> simp only [go_sem, reduceIte, Nat.reduceEqDiff, Nat.reduceAdd, Nat.reduceMul, Nat.reduceSub, Nat.reduceLeDiff, Nat.reduceLT, Nat.reduceBEq, reduceCtorEq, g1, g0, g8, g7, List.length_map, hk, hr, hw, z1] <;> rw [hon] <;> simp [z1]
  · rintro T H M ⟨rfl, g1, g0, g8, g7⟩
    generalize onK h d h.length = K at g7 ⊢
    rcases Classical.propComplete (K < 0) with z1 | z1 <;> simp only [go_sem, reduceIte, Nat.reduceEqDiff, Nat.reduceAdd, Nat.reduceMul, Nat.reduceSub, Nat.reduceLeDiff, Nat.reduceLT, Nat.reduceBEq, reduceCtorEq, g1, g0, g8, g7, List.length_map, Nat.lt_irrefl, z1] <;> simp [z, z1]
noncomputable def p67 : List AV → Option AV := primOf (α := (List Sv) × (Int)) (fun x => [.ps .unk (x.1.map Sv.row), i64 x.2]) (fun x => x.1.length ≤ maxRows) (fun x => .tup [i64 (onQ x.1 x.2).1, i64 (onQ x.1 x.2).2])
theorem pok67 : ∀ args v, p67 args = some v → ∀ lo H, CallOk NC lo 67 args H v H := by
  intro args v h
  obtain ⟨x, rfl, hp, rfl⟩ := primOf_inv h
  exact c67 x.1 x.2 hp
theorem pe67 (h : List Sv) (d : Int) (hp : h.length ≤ maxRows) : p67 [.ps .unk (h.map Sv.row), .int .i64 d] = some (.tup [.int .i64 (onQ h d).1, .int .i64 (onQ h d).2]) := primOf_enc (α := (List Sv) × (Int)) (enc := fun x => [.ps .unk (x.1.map Sv.row), i64 x.2]) (pre := fun x => x.1.length ≤ maxRows) (spec := fun x => .tup [i64 (onQ x.1 x.2).1, i64 (onQ x.1 x.2).2]) (by intro x y h; (simp only [List.cons.injEq, AV.agg.injEq, AV.str.injEq, AV.int.injEq, AV.ps.injEq, AV.bool.injEq, Net.cells_iff, Ln.row_iff, Pc.row_iff, Mv.row_iff, lns_iff, pcs_iff, mvs_iff, Sv.row_iff, svs_iff, true_and, and_true] at h; first | simpa only [Prod.ext_iff] using h | simpa only [Prod.ext_iff, and_assoc] using h)) (h, d) hp
/-! ### Back -/
def kB (x : Mv) (q : Int) : Int := wrapq .i64 (Int.sub q x.to)
def atB (x : Mv) (k : Int) : Int := if x.turned then wrapq .i64 (Int.sub (wrapq .i64 (Int.sub (wrapq .i64 (Int.add x.fr x.len)) 1)) k) else wrapq .i64 (Int.add x.fr k)
def hitB' (s : List Nat) (q : Int) (x : Mv) : Bool := beqL x.other s && !decide (kB x q < 0) && decide (kB x q < x.len)
def backR (m : List Mv) (s : List Nat) (q : Int) : List AV := match m.find? (hitB' s q) with
  | none => [noPlace, .bool false]
  | some x => [.agg [.str x.line, i64 (atB x (kB x q))], .bool true]
theorem backR_pure (m : List Mv) (s : List Nat) (k : Int) : (AV.tup (backR m s k)).pure = true := by
  unfold backR; split <;> rfl
noncomputable def PPF141 : FuncId → Option (List AV → Option AV) := fun _ => none
theorem primsF141 : PrimsOk NC PPF141 := primsOk_none
theorem c141 (m : List Mv) (s : List Nat) (q : Int) (hp : m.length ≤ maxRows) : ∀ lo H, CallOk NC lo 141 [.ps .unk (m.map Mv.row), .agg [.str s, i64 q]] H (.tup (backR m s q)) H := by
  refine contract saneNC primsF141 (fn := Tryz.f141) (by kernel_rfl) Tryz.func141 rfl rfl (by rfl) (backR_pure m s q) ?_
  simp only [go_sem, reduceIte, Nat.reduceEqDiff, Nat.reduceAdd, Nat.reduceMul, Nat.reduceSub, Nat.reduceLeDiff, Nat.reduceLT, Nat.reduceBEq, reduceCtorEq]
  refine W_for (fun k T H M => M = [] ∧ getT T 0 = .ps .unk (m.map Mv.row) ∧ getT T 3 = .ptr 0 0 ∧ getT T 4 = .ptr 1 0 ∧ getT T 6 = i64 k ∧ H.get 0 = .cells [.str s, i64 q] 28 ∧ H.get 1 = .cells [.str [], i64 0] 28 ∧ 1 < H.n ∧ ∀ j x, j < k → m[j]? = some x → hitB' s q x = false) m.length ?_ ?_ ?_
  · simp only [go_sem, reduceIte, Nat.reduceEqDiff, Nat.reduceAdd, Nat.reduceMul, Nat.reduceSub, Nat.reduceLeDiff, Nat.reduceLT, Nat.reduceBEq, reduceCtorEq]; exact fun j x hj => absurd hj (by omega)
  · rintro k T H M hk ⟨rfl, g0, g3, g4, g6, h0, h1, hn, hf⟩
    obtain ⟨x, hx⟩ : ∃ p, m[k]? = some p := ⟨m[k], by simp⟩
    have hr := map_at (f := Mv.row) hx
    have hw := wrap_succ hk hp
    have b0 : (0 = H.n) = False := by simp; omega
    have b1 : (1 = H.n) = False := by simp; omega
    have b2 : 1 < H.n + 1 := by omega
    have hnext : hitB' s q x = false → ∀ j y, j < k + 1 → m[j]? = some y → hitB' s q y = false := fun hh j y hj hy => by
      by_cases e : j = k
      · subst e; rw [hx] at hy; cases hy; exact hh
      · exact hf j y (by omega) hy
    have hhit : hitB' s q x = true → backR m s q = [.agg [.str x.line, i64 (atB x (kB x q))], .bool true] := fun hh => by unfold backR; rw [find_at hf hx hh]
    have hh : hitB' s q x = (beqL x.other s && !decide (kB x q < 0) && decide (kB x q < x.len)) := rfl
    rw [hh] at hnext hhit
    clear hh
    unfold kB at hnext
    unfold kB atB at hhit
    obtain ⟨a, b, c, d, e, f⟩ := x
    simp only [Mv.row] at hr
    simp only at hnext hhit
    cases h2 : beqL d s <;> rcases Classical.propComplete (wrapq .i64 (Int.sub q e) < 0) with h3 | h3 <;> rcases Classical.propComplete (wrapq .i64 (Int.sub q e) < c) with h4 | h4 <;> cases f <;> simp only [go_sem, reduceIte, Nat.reduceEqDiff, Nat.reduceAdd, Nat.reduceMul, Nat.reduceSub, Nat.reduceLeDiff, Nat.reduceLT, Nat.reduceBEq, reduceCtorEq, g0, g3, g4, g6, h0, h1, b0, b1, hk, hr, hw, h2, h3, h4, List.length_map]
    all_goals first | (rw [hhit (by simp [h2, h3, h4])]; done) | (rw [hhit (by simp [h2, h3, h4])]; rfl) | exact ⟨b2, hnext (by simp [h2, h3, h4])⟩ | exact ⟨h0, h1, b2, hnext (by simp [h2, h3, h4])⟩ | skip
  · rintro T H M ⟨rfl, g0, g3, g4, g6, h0, h1, hn, hf⟩
    simp only [go_sem, reduceIte, Nat.reduceEqDiff, Nat.reduceAdd, Nat.reduceMul, Nat.reduceSub, Nat.reduceLeDiff, Nat.reduceLT, Nat.reduceBEq, reduceCtorEq, g0, g3, g4, g6, h0, h1, Nat.lt_irrefl, List.length_map]
    unfold backR
    rw [find_no hf]
    rfl
noncomputable def p141 : List AV → Option AV := primOf (α := (List Mv) × (List Nat) × (Int)) (fun x => [.ps .unk (x.1.map Mv.row), .agg [.str x.2.1, i64 x.2.2]]) (fun x => x.1.length ≤ maxRows) (fun x => .tup (backR x.1 x.2.1 x.2.2))
theorem pok141 : ∀ args v, p141 args = some v → ∀ lo H, CallOk NC lo 141 args H v H := by
  intro args v h
  obtain ⟨x, rfl, hp, rfl⟩ := primOf_inv h
  exact c141 x.1 x.2.1 x.2.2 hp
theorem pe141 (m : List Mv) (s : List Nat) (q : Int) (hp : m.length ≤ maxRows) : p141 [.ps .unk (m.map Mv.row), .agg [.str s, .int .i64 q]] = some (.tup (backR m s q)) := primOf_enc (α := (List Mv) × (List Nat) × (Int)) (enc := fun x => [.ps .unk (x.1.map Mv.row), .agg [.str x.2.1, i64 x.2.2]]) (pre := fun x => x.1.length ≤ maxRows) (spec := fun x => .tup (backR x.1 x.2.1 x.2.2)) (by intro x y h; (simp only [List.cons.injEq, AV.agg.injEq, AV.str.injEq, AV.int.injEq, AV.ps.injEq, AV.bool.injEq, Net.cells_iff, Ln.row_iff, Pc.row_iff, Mv.row_iff, lns_iff, pcs_iff, mvs_iff, Sv.row_iff, svs_iff, true_and, and_true] at h; first | simpa only [Prod.ext_iff] using h | simpa only [Prod.ext_iff, and_assoc] using h)) (m, s, q) hp
end Go.Sim

/-
The plain law of histories: valid ones; places stay within the networks.
-/
namespace Go.Sim
open Go
theorem surv_same (h : List Sv) (i : Nat) (hz : ∀ j, j < i → survP h j = 0) : survP h i = survR h i := by
  unfold survP survR
  cases hs : h[i]? with
  | none => rfl
  | some s =>
    simp only [net_same, map_same]
    have he : firstI [rangeI s.day 0 100000, whenI (!decide (lastD h i < s.day)) 11, netR s.net, mapR s.map] = firstI [rangeI s.day 0 100000, whenI (decide (0 < i) && !decide (lastD h i < s.day)) 11, netR s.net, mapR s.map] := by
      by_cases hr : rangeI s.day 0 100000 = 0
      · cases i with
        | zero =>
          have := rangeI_zero hr
          have h1 : lastD h 0 < s.day := by show (-1 : Int) < _; omega
          simp [h1]
        | succ j => simp
      · simp only [firstI_cons, hr, if_false]
    rw [he]
    by_cases hE : firstI [rangeI s.day 0 100000, whenI (decide (0 < i) && !decide (lastD h i < s.day)) 11, netR s.net, mapR s.map] = 0
    · simp only [hE, if_true]
      by_cases h0 : 0 < i
      · simp only [h0, if_true]
        have hm := firstI_zero hE
        have hn : netR s.net = 0 := hm _ (by simp)
        have hmp : mapR s.map = 0 := hm _ (by simp)
        have hprev : netR (prevN h i) = 0 := by
          obtain ⟨j, rfl⟩ : ∃ j, i = j + 1 := ⟨i - 1, by omega⟩
          have hj := hz j (by omega)
          have hl : j < h.length := by have := (List.getElem?_eq_some_iff.1 hs).1; omega
          unfold survP at hj
          unfold prevN
          have hjs : h[j]? = some h[j] := by simp
          simp only [hjs] at hj ⊢
          rw [net_same] at hj
          split at hj
          · rename_i he2
            exact firstI_zero he2 _ (by simp)
          · rename_i he2; exact absurd hj he2
        have : fitsP (prevN h i) s.net s.map = fitsR (prevN h i) s.net s.map := by
          unfold fitsP fitsR
          simp only [map_same, net_same, hn, hmp, hprev, firstI_cons, firstI_nil, if_true]
        rw [this]
      · simp only [h0, if_false]
    · simp only [hE, if_false]
theorem hist_same (h : List Sv) : histP h = histR h := by
  unfold histP histR
  rw [allR_same (f := survP h) (g := survR h) (n := h.length) fun i _ hz => surv_same h i hz]
theorem hist_surv {h : List Sv} (hz : histR h = 0) {k : Nat} {s : Sv} (hs : h[k]? = some s) : netR s.net = 0 ∧ mapR s.map = 0 ∧ (0 < k → fitsR (prevN h k) s.net s.map = 0) := by
  unfold histR at hz
  split at hz
  · have h1 := allR_zero hz (List.getElem?_eq_some_iff.1 hs).1
    unfold survR at h1
    simp only [hs] at h1
    split at h1
    · rename_i he
      have hm := firstI_zero he
      refine ⟨hm _ (by simp), hm _ (by simp), fun h0 => ?_⟩
      have hk : ¬ ((k : Int) = 0) := by omega
      simp only [hk, decide_false, Bool.false_and, Bool.false_eq_true, if_false, if_pos h0] at h1
      exact h1
    · rename_i he; exact absurd h1 he
  · rename_i he; exact absurd hz he
theorem metres_in {ls : List Ln} {s : List Nat} {fr till : Int} (h : metresI ls s fr till = 0) : ∃ i l, findL ls s = some i ∧ ls[i]? = some l ∧ 0 ≤ fr ∧ fr < till ∧ till ≤ sumW l.ps 0 := by
  unfold metresI at h
  cases hf : findL ls s with
  | none => rw [hf] at h; simp at h
  | some i =>
    obtain ⟨l, hl, _⟩ := findL_at hf
    rw [hf] at h
    simp only [hl] at h
    refine ⟨i, l, rfl, hl, ?_⟩
    unfold whenI at h
    split at h
    · cases h
    · rename_i hc
      simp only [Bool.or_eq_true, decide_eq_true_eq, Bool.not_eq_true', decide_eq_false_iff_not, not_or, Classical.not_not] at hc
      omega
theorem fits_in {a b : Net} {m : List Mv} (h : fitsR a b m = 0) {x : Mv} (hx : x ∈ m) : metresI a.lines x.line x.fr (endI x) = 0 ∧ metresI b.lines x.other x.to (wrapq .i64 (Int.add x.to x.len)) = 0 := by
  unfold fitsR at h
  have := firstI_zero h (fitsI a b x) (List.mem_map.2 ⟨x, hx, rfl⟩)
  unfold fitsI at this
  have h2 := firstI_zero this
  exact ⟨h2 _ (by simp), h2 _ (by simp)⟩
def inNet (n : Net) (p : Pl) : Prop := ∃ i l, findL n.lines p.1 = some i ∧ n.lines[i]? = some l ∧ 0 ≤ p.2 ∧ p.2 < sumW l.ps 0
theorem sum_bound {l : Ln} (hg : l.Good) : 0 ≤ sumW l.ps 0 ∧ sumW l.ps 0 ≤ 800000 := by
  have := beg_bound hg l.ps.length (Nat.le_refl _)
  rw [begI_all] at this
  have := hg.few
  omega
theorem in_range {n : Net} (hn : netR n = 0) {p : Pl} (hp : inNet n p) : 0 ≤ p.2 ∧ p.2 ≤ 800000 := by
  obtain ⟨i, l, hf, hl, h0, h1⟩ := hp
  have := sum_bound (line_good hn hl)
  omega
theorem atI_in {x : Mv} (hx : x.Good) {q : Int} (h0 : x.fr ≤ q) (h1 : q < x.fr + x.len) : x.to ≤ atI x q ∧ atI x q < x.to + x.len := by
  have := hx.fr; have := hx.len; have := hx.frl; have := hx.to; have := hx.tol
  have e1 : Int.sub (x.to + x.len) 1 = x.to + x.len - 1 := rfl
  have e2 : Int.sub q x.fr = q - x.fr := rfl
  have e3 : Int.sub (x.to + x.len - 1) (q - x.fr) = x.to + x.len - 1 - (q - x.fr) := rfl
  have e4 : Int.add x.to q = x.to + q := rfl
  have e5 : Int.sub (x.to + q) x.fr = x.to + q - x.fr := rfl
  unfold atI
  rw [hx.till, e1, wrap_small (x := x.to + x.len - 1) (by omega) (by omega), e2, wrap_small (x := q - x.fr) (by omega) (by omega), e3, wrap_small (x := x.to + x.len - 1 - (q - x.fr)) (by omega) (by omega), e4, wrap_small (x := x.to + q) (by omega) (by omega), e5, wrap_small (x := x.to + q - x.fr) (by omega) (by omega)]
  split <;> omega
theorem carO_hit {m : List Mv} {p q : Pl} (h : carO m p = some q) : ∃ x ∈ m, hitMv p.1 p.2 x = true ∧ q = (x.other, atI x p.2) := by
  unfold carO at h
  cases hf : m.find? (hitMv p.1 p.2) with
  | none => rw [hf] at h; cases h
  | some x =>
    rw [hf] at h
    simp only [Option.map_some, Option.some.injEq] at h
    exact ⟨x, List.mem_of_find?_eq_some hf, by simpa using List.find?_some hf, h.symm⟩
theorem car_in {a b : Net} {m : List Mv} {p q : Pl} (hm : mapR m = 0) (hf : fitsR a b m = 0) (hc : carO m p = some q) : inNet b q := by
  obtain ⟨x, hx, hh, rfl⟩ := carO_hit hc
  have hg := map_good hm hx
  obtain ⟨_, h1, h2⟩ := hit_in hg hh
  have hat := atI_in hg h1 h2
  obtain ⟨i, l, hl1, hl2, h3, h4, h5⟩ := metres_in (fits_in hf hx).2
  rw [hg.till] at h5
  have := hg.to
  exact ⟨i, l, hl1, hl2, by show 0 ≤ atI x p.2; omega, by show atI x p.2 < _; omega⟩
theorem Mv.Good.undo {x : Mv} (h : x.Good) : (undoMv x).Good := ⟨h.other, h.line, h.to, h.len, h.fr, h.tol, h.frl⟩
theorem back_in {a b : Net} {m : List Mv} {p q : Pl} (hm : mapR m = 0) (hf : fitsR a b m = 0) (hc : carO (m.map undoMv) p = some q) : inNet a q := by
  obtain ⟨y, hy, hh, rfl⟩ := carO_hit hc
  obtain ⟨x, hx, rfl⟩ := List.mem_map.1 hy
  have hg := map_good hm hx
  obtain ⟨_, h1, h2⟩ := hit_in hg.undo hh
  have hat := atI_in hg.undo h1 h2
  obtain ⟨i, l, hl1, hl2, h3, h4, h5⟩ := metres_in (fits_in hf hx).1
  rw [hg.end_] at h5
  have := hg.fr
  have e1 : (undoMv x).to = x.fr := rfl
  have e2 : (undoMv x).len = x.len := rfl
  rw [e1, e2] at hat
  exact ⟨i, l, hl1, hl2, by show 0 ≤ atI (undoMv x) p.2; omega, by show atI (undoMv x) p.2 < _; omega⟩
theorem back_same {m : List Mv} (hm : mapR m = 0) (s : List Nat) {q : Int} (h0 : 0 ≤ q) (h1 : q ≤ 800000) : carP (m.map undoMv) s q = backR m s q := by
  unfold carP backR
  rw [List.find?_map]
  have hfun : m.find? (hitMv s q ∘ undoMv) = m.find? (hitB' s q) := find_same fun x hx => by
    have := hit_same (map_good hm hx).undo s h0 h1
    show hitMv s q (undoMv x) = _
    rw [this]; rfl
  rw [hfun]
  cases hf : m.find? (hitB' s q) with
  | none => rfl
  | some x =>
    have hx := List.mem_of_find?_eq_some hf
    have hg := (map_good hm hx).undo
    have hh : hitMv s q (undoMv x) = true := by
      rw [hit_same hg s h0 h1]
      have := List.find?_some hf
      exact this
    obtain ⟨_, a, b⟩ := hit_in hg hh
    simp only [Option.map_some, at_same hg a b]
    rfl
theorem placed_in {n : Net} (hn : netR n = 0) {s : List Nat} {pc po : Int} (h : (placedQ n s pc po).2 = 0) : inNet n (placedQ n s pc po).1 := by
  have hq := placedQ_eq n s pc po
  unfold placedP at hq
  simp only [] at hq
  split at hq
  · rename_i he
    have hm := firstI_zero he
    have hb : lnB n.lines s = true := by
      have := hm (whenI (!lnB n.lines s) 10) (by simp)
      cases hb : lnB n.lines s with
      | true => rfl
      | false => rw [hb] at this; simp [whenI] at this
    cases hf : findL n.lines s with
    | none => unfold lnB at hb; rw [hf] at hb; cases hb
    | some i =>
      obtain ⟨l, hl, _⟩ := findL_at hf
      have hlo : lnOf n.lines s = l := by unfold lnOf; rw [hf]; simp [hl]
      rw [hlo] at hq
      have hg := line_good hn hl
      split at hq
      · unfold placedV at hq
        split at hq
        · simp only [List.cons.injEq, AV.agg.injEq, AV.str.injEq, AV.int.injEq, true_and, and_true] at hq
          rw [← hq.2] at h; cases h
        · rename_i p hp
          split at hq
          · rename_i hc
            simp only [Bool.and_eq_true, decide_eq_true_eq] at hc
            simp only [List.cons.injEq, AV.agg.injEq, AV.str.injEq, AV.int.injEq, true_and, and_true] at hq
            obtain ⟨⟨h1, h2⟩, h3⟩ := hq
            unfold metreB at hc
            simp only [Bool.and_eq_true, Bool.not_eq_true', decide_eq_true_eq, decide_eq_false_iff_not] at hc
            have hk := (List.getElem?_eq_some_iff.1 hp).1
            have hbb := beg_bound hg pc.toNat (by omega)
            have hst := beg_step hg hp
            have hmo := beg_mono hg (j := pc.toNat + 1) (k := l.ps.length) (by omega) (Nat.le_refl _)
            rw [begI_all] at hmo
            have hsb := sum_bound hg
            have e : Int.add (begI l pc.toNat) (metreI p po) = begI l pc.toNat + metreI p po := rfl
            rw [e, wrap_small (by omega) (by omega)] at h2
            refine ⟨i, l, by rw [← h1]; exact hf, hl, by rw [← h2]; omega, by rw [← h2]; omega⟩
          · simp only [List.cons.injEq, AV.agg.injEq, AV.str.injEq, AV.int.injEq, true_and, and_true] at hq
            rw [← hq.2] at h; cases h
      · simp only [List.cons.injEq, noPlace, AV.agg.injEq, AV.str.injEq, AV.int.injEq, true_and, and_true] at hq
        rw [← hq.2] at h; cases h
  · rename_i he
    simp only [List.cons.injEq, noPlace, AV.agg.injEq, AV.str.injEq, AV.int.injEq, true_and, and_true] at hq
    rw [← hq.2] at h; exact absurd h he
theorem addr_in {n : Net} (hn : netR n = 0) {p : Pl} (hp : inNet n p) : addrP n p = addrR (lnOf n.lines p.1) p.1 p.2 := by
  obtain ⟨i, l, hf, hl, h0, h1⟩ := hp
  have hlo : lnOf n.lines p.1 = l := by unfold lnOf; rw [hf]; simp [hl]
  unfold addrP
  rw [hlo]
  exact addr_same (line_good hn hl) p.1 h0 h1
end Go.Sim
