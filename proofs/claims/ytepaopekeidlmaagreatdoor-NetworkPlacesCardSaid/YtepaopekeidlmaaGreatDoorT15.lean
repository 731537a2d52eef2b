/-
The parts NetR3, NetQ1, NetQ2, NetAwake, NetZ1 of one proof, joined: each begins with a remark that says what it shows.
-/
import Derived.Test.YtepaopekeidlmaaGreatDoorT14
set_option linter.unusedSimpArgs false
set_option linter.unusedVariables false

/-
The law: the network told to the program.
-/
namespace Go.Sim
open Go Go.Proofs
set_option maxRecDepth 100000
set_option maxHeartbeats 16000000

/-- A slice that is being made by append. -/
def App (H : Heap) (t : Tok) (rows : List (List AV)) (sz : Nat) (e : TypeId) : Prop := (t = .nil ∧ rows = []) ∨ ∃ j, t = .tok j ∧ rows ≠ [] ∧ j < H.n ∧ H.get j = .row [] sz e

theorem App.push {H : Heap} {t : Tok} {rows : List (List AV)} {sz : Nat} {e : TypeId} (h : App H t rows sz e) (b : ABlk) : App (H.push b) t rows sz e := by
  rcases h with h | ⟨j, h1, h2, h3, h4⟩
  · exact .inl h
  · exact .inr ⟨j, h1, h2, by simp; omega, by rw [Heap.get_push, if_neg (by omega)]; exact h4⟩

theorem App.set {H : Heap} {t : Tok} {rows : List (List AV)} {sz : Nat} {e : TypeId} (h : App H t rows sz e) {i : Nat} (b : ABlk) (hi : H.get i ≠ .row [] sz e) : App (H.set i b) t rows sz e := by
  rcases h with h | ⟨j, h1, h2, h3, h4⟩
  · exact .inl h
  · exact .inr ⟨j, h1, h2, h3, by rw [Heap.get_set, if_neg (fun he => hi (by rw [← he]; exact h4))]; exact h4⟩

theorem App.fresh {H : Heap} {t : Tok} {rows : List (List AV)} {sz : Nat} {e : TypeId} (h : App H t rows sz e) (b c : ABlk) {i : Nat} (hi : i = H.n) : App ((H.push b).set i c) t rows sz e := by
  subst hi
  rcases h with h | ⟨j, h1, h2, h3, h4⟩
  · exact .inl h
  · exact .inr ⟨j, h1, h2, by simp; omega, by rw [Heap.get_set, if_neg (by omega), Heap.get_push, if_neg (by omega)]; exact h4⟩

theorem app_any {H : Heap} {t : Tok} {rows : List (List AV)} {sz : Nat} {e : TypeId} (h : App H t rows sz e) {r : List AV} (h1 : rows.length + 1 ≤ maxRows) (h2 : pureRow r = true) (h3 : 0 < sz) (h4 : rows.all (fun r => r.length = sz) = true) :
    ∃ t' H', appP 0 H sz e (.ps t rows) [r] = some (.ps t' (rows ++ [r.map AV.strip0]), H') ∧ App H' t' (rows ++ [r.map AV.strip0]) sz e ∧ H.n ≤ H'.n ∧ (∀ i c u, i < H.n → H.get i = .cells c u → H'.get i = .cells c u) ∧
      ∀ t2 rows2 sz2 e2, ¬ (sz2 = sz ∧ e2 = e) → App H t2 rows2 sz2 e2 → App H' t2 rows2 sz2 e2 := by
  rcases h with ⟨rfl, rfl⟩ | ⟨j, rfl, h6, h7, h8⟩
  · refine ⟨.tok H.n, H.push (.row [] sz e), app_first (by simp) (by show 1 ≤ 1073741824; decide) (by simp [h2]) h3, .inr ⟨H.n, rfl, by simp, by simp, by rw [Heap.get_push, if_pos rfl]⟩, by simp, fun i c u hi hc => ?_, fun t2 rows2 sz2 e2 _ ha => ha.push _⟩
    rw [Heap.get_push, if_neg (by omega)]; exact hc
  · refine ⟨.tok H.n, (H.set j .dead).push (.row [] sz e), app_next (by simp) (by simpa using h1) (by simp [h2]) h3 h4 h8 (Nat.zero_le _) h6, .inr ⟨H.n, rfl, by simp, by simp, by rw [Heap.get_push, if_pos (by simp)]⟩, by simp, fun i c u hi hc => ?_, fun t2 rows2 sz2 e2 hne ha => ?_⟩
    · rw [Heap.get_push, if_neg (by simp; omega), Heap.get_set, if_neg (fun he => by rw [he, h8] at hc; cases hc)]; exact hc
    · exact (ha.set _ (by rw [h8]; intro he; cases he; exact hne ⟨rfl, rfl⟩)).push _

theorem rows_all {α : Type} {f : α → List AV} {sz : Nat} (hf : ∀ x, (f x).length = sz) (l : List α) : (l.map f).all (fun r => decide (r.length = sz)) = true := by
  rw [List.all_eq_true]
  intro r hr
  obtain ⟨x, _, rfl⟩ := List.mem_map.1 hr
  simp [hf x]

theorem strip_ps (t : Tok) (rows : List (List AV)) : AV.strip0 (.ps t rows) = .ps .unk rows := rfl
theorem rf19 (P : FuncId → Option (List AV → Option AV)) (t : TypeId) : (NC.withPrims P).refApp 19 t = false := by
  show refM.testBit 19 = false
  decide +kernel

theorem take_map {α β : Type} {f : α → β} {l : List α} {k : Nat} {x : α} (h : l[k]? = some x) : (l.take (k + 1)).map f = (l.take k).map f ++ [f x] := by
  rw [List.take_add_one, h]; simp

theorem c19 (n : Net) (hn : n.fits) (hs : n.sws.length ≤ maxRows) (ht : n.sts.length ≤ maxRows) : ∀ lo H, CallOk NC lo 19 [.agg n.cells] H (.agg n.cells) H := by
  refine contract saneNC primsN (fn := Tryz.f19) (by kernel_rfl) Tryz.func19 rfl rfl (by rfl) (by rfl) ?_
  simp only [go_sem, reduceIte, Nat.reduceEqDiff, Nat.reduceAdd, Nat.reduceMul, Nat.reduceSub, Nat.reduceLeDiff, Nat.reduceLT, Nat.reduceBEq, reduceCtorEq, Net.cells]
  refine W_for (fun k T H M => M = [] ∧ getT T 1 = .ptr 0 0 ∧ getT T 2 = .ptr 1 0 ∧ getT T 3 = .ptr 2 0 ∧ getT T 14 = .ps .unk (n.lines.map Ln.row) ∧ getT T 15 = i64 (n.lines.length : Nat) ∧ getT T 16 = i64 k ∧ H.get 0 = .cells n.cells 26 ∧ H.get 1 = .cells [.ps .nil [], .ps .nil [], .ps .nil []] 40 ∧ 2 < H.n ∧ ∃ t, H.get 2 = .cells [.ps t ((n.lines.take k).map Ln.row), .ps .nil [], .ps .nil []] 40 ∧ App H t ((n.lines.take k).map Ln.row) 2 196) n.lines.length ?_ ?_ ?_
  · simp only [go_sem, reduceIte, Nat.reduceEqDiff, Nat.reduceAdd, Nat.reduceMul, Nat.reduceSub, Nat.reduceLeDiff, Nat.reduceLT, Nat.reduceBEq, reduceCtorEq, Net.cells, List.length_map]; exact ⟨.nil, by simp, .inl ⟨rfl, rfl⟩⟩
  · rintro k T H M hk ⟨rfl, g1, g2, g3, g14, g15, g16, h0, h1, hh, t, h2, hA⟩
    obtain ⟨l, hp⟩ : ∃ p, n.lines[k]? = some p := ⟨n.lines[k], by simp⟩
    have hfit := hn.2 l (List.mem_of_getElem? hp)
    have hr := map_at (f := Ln.row) hp
    have hw := wrap_succ hk hn.1
    have htk := take_map (f := Ln.row) hp
    simp only [Ln.row] at hr
    have b0 : (0 = H.n) = False := by simp; omega
    have b1 : (1 = H.n) = False := by simp; omega
    have b2 : (2 = H.n) = False := by simp; omega
    have b3 : (H.n = H.n + 1) = False := by simp
    have b4 : (0 = H.n + 1) = False := by simp
    have b5 : (1 = H.n + 1) = False := by simp; omega
    have b6 : (2 = H.n + 1) = False := by simp; omega
    simp only [go_sem, reduceIte, Nat.reduceEqDiff, Nat.reduceAdd, Nat.reduceMul, Nat.reduceSub, Nat.reduceLeDiff, Nat.reduceLT, Nat.reduceBEq, reduceCtorEq, g1, g2, g3, g14, g15, g16, h0, h1, h2, b0, b1, b2, b3, b4, b5, b6, List.length_map, hk, hr]
    refine W_for (fun k2 T' H' M => M = [] ∧ getT T' 1 = .ptr 0 0 ∧ getT T' 2 = .ptr 1 0 ∧ getT T' 3 = .ptr 2 0 ∧ getT T' 14 = .ps .unk (n.lines.map Ln.row) ∧ getT T' 15 = i64 (n.lines.length : Nat) ∧ getT T' 16 = i64 k ∧ getT T' 6 = .ptr (H.n + 1) 0 ∧ getT T' 24 = .ps .unk (l.ps.map Pc.row) ∧ getT T' 25 = i64 (l.ps.length : Nat) ∧ getT T' 26 = i64 k2 ∧ H'.get 0 = .cells n.cells 26 ∧ H'.get 1 = .cells [.ps .nil [], .ps .nil [], .ps .nil []] 40 ∧ H.n + 1 < H'.n ∧ (∃ t, H'.get 2 = .cells [.ps t ((n.lines.take k).map Ln.row), .ps .nil [], .ps .nil []] 40 ∧ App H' t ((n.lines.take k).map Ln.row) 2 196) ∧
        ∃ u, H'.get (H.n + 1) = .cells [.str l.name, .ps u ((l.ps.take k2).map Pc.row)] 196 ∧ App H' u ((l.ps.take k2).map Pc.row) 3 200) l.ps.length ?_ ?_ ?_
    · simp only [go_sem, reduceIte, Nat.reduceEqDiff, Nat.reduceAdd, Nat.reduceMul, Nat.reduceSub, Nat.reduceLeDiff, Nat.reduceLT, Nat.reduceBEq, reduceCtorEq, g1, g2, g3, g14, g15, g16, h0, h1, h2, b0, b1, b2, b3, b4, b5, b6, Net.cells, List.length_map]
      refine ⟨⟨t, rfl, ?_⟩, .nil, by simp, .inl ⟨rfl, rfl⟩⟩
      exact (hA.fresh _ _ rfl).fresh _ _ rfl
    · rintro k2 T' H' M hk2 ⟨rfl, i1, i2, i3, i14, i15, i16, i6, i24, i25, i26, j0, j1, jh, ⟨t', j2, jA⟩, u, ju, jB⟩
      obtain ⟨p, hpp⟩ : ∃ p, l.ps[k2]? = some p := ⟨l.ps[k2], by simp⟩
      have hpr := map_at (f := Pc.row) hpp
      have hw2 := wrap_succ hk2 hfit
      have htk2 := take_map (f := Pc.row) hpp
      obtain ⟨pl, pq, pb⟩ := p
      simp only [Pc.row] at hpr
      have d0 : (0 = H'.n) = False := by simp; omega
      have d1 : (1 = H'.n) = False := by simp; omega
      have d2 : (2 = H'.n) = False := by simp; omega
      have d3 : (H.n + 1 = H'.n) = False := by simp; omega
      obtain ⟨u', H1, ha, hB', hn1, hc1, ho1⟩ := app_any (H := (H'.push (.cells [.int .i64 0, .int .i64 0, .bool false] 97)).set H'.n (.cells [.int .i64 pl, .int .i64 pq, .bool pb] 97)) (jB.fresh _ _ rfl) (r := [.int .i64 pl, .int .i64 pq, .bool pb]) (by simp; omega) rfl (by decide) (rows_all Pc.row_len _)
      have x1 := hc1 (H.n + 1) [.str l.name, .ps u ((l.ps.take k2).map Pc.row)] 196 (by simp; omega) (by rw [Heap.get_set, if_neg (by omega), Heap.get_push, if_neg (by omega)]; exact ju)
      have x0 := hc1 0 _ _ (by simp) (by rw [Heap.get_set, if_neg (by omega), Heap.get_push, if_neg (by omega)]; exact j0)
      have x01 := hc1 1 _ _ (by simp; omega) (by rw [Heap.get_set, if_neg (by omega), Heap.get_push, if_neg (by omega)]; exact j1)
      have x2 := hc1 2 _ _ (by simp; omega) (by rw [Heap.get_set, if_neg (by omega), Heap.get_push, if_neg (by omega)]; exact j2)
      have xA := ho1 _ _ 2 196 (by decide) (jA.fresh (.cells [.int .i64 0, .int .i64 0, .bool false] 97) (.cells [.int .i64 pl, .int .i64 pq, .bool pb] 97) rfl)
      simp only [Heap.n_set, Heap.n_push] at hn1
      simp only [go_sem, reduceIte, Nat.reduceEqDiff, Nat.reduceAdd, Nat.reduceMul, Nat.reduceSub, Nat.reduceLeDiff, Nat.reduceLT, Nat.reduceBEq, reduceCtorEq, i1, i2, i3, i14, i15, i16, i6, i24, i25, i26, d0, d1, d2, d3, b4, b5, b6, ju, List.length_map, hk2, hpr, hw2, appO, isIntT_slice, rowsIn, rf19, ha, x1, x0, x01, x2, strip_ps]
      rw [htk2]
      exact ⟨by omega, ⟨t', rfl, xA.set _ (by rw [x1]; simp)⟩, u', rfl, hB'.set _ (by rw [x1]; simp)⟩
    · rintro T' H' M ⟨rfl, i1, i2, i3, i14, i15, i16, i6, i24, i25, i26, j0, j1, jh, ⟨t', j2, jA⟩, u, ju, jB⟩
      rw [List.take_length] at ju jB
      obtain ⟨t2, H1, ha, hB', hn1, hc1, ho1⟩ := app_any jA (r := [.str l.name, .ps .unk (l.ps.map Pc.row)]) (by simp; have := hn.1; omega) rfl (by decide) (rows_all Ln.row_len _)
      have x0 := hc1 0 _ _ (by omega) j0
      have x01 := hc1 1 _ _ (by omega) j1
      have x2 := hc1 2 _ _ (by omega) j2
      simp only [go_sem, reduceIte, Nat.reduceEqDiff, Nat.reduceAdd, Nat.reduceMul, Nat.reduceSub, Nat.reduceLeDiff, Nat.reduceLT, Nat.reduceBEq, reduceCtorEq, i1, i2, i3, i14, i15, i16, i6, i24, i25, i26, ju, j2, List.length_map, Nat.lt_irrefl, appO, isIntT_slice, rowsIn, rf19, ha, x0, x01, x2, strip_ps, hw]
      rw [htk]
      exact ⟨by omega, t2, rfl, hB'.set _ (by rw [x2]; simp)⟩
  rintro T H M ⟨rfl, g1, g2, g3, g14, g15, g16, h0, h1, hh, t, h2, hA⟩
  rw [List.take_length] at h2 hA
  simp only [go_sem, reduceIte, Nat.reduceEqDiff, Nat.reduceAdd, Nat.reduceMul, Nat.reduceSub, Nat.reduceLeDiff, Nat.reduceLT, Nat.reduceBEq, reduceCtorEq, g1, g2, g3, g14, g15, g16, h0, h1, h2, Net.cells, List.length_map, Nat.lt_irrefl]
  refine W_for (fun k T H M => M = [] ∧ getT T 1 = .ptr 0 0 ∧ getT T 2 = .ptr 1 0 ∧ getT T 3 = .ptr 2 0 ∧ getT T 45 = .ps .unk (n.sws.map Sw.row) ∧ getT T 46 = i64 (n.sws.length : Nat) ∧ getT T 47 = i64 k ∧ H.get 0 = .cells n.cells 26 ∧ H.get 1 = .cells [.ps .nil [], .ps .nil [], .ps .nil []] 40 ∧ 2 < H.n ∧ ∃ u, H.get 2 = .cells [.ps t (n.lines.map Ln.row), .ps u ((n.sws.take k).map Sw.row), .ps .nil []] 40 ∧ App H u ((n.sws.take k).map Sw.row) 5 201) n.sws.length ?_ ?_ ?_
  · simp only [go_sem, reduceIte, Nat.reduceEqDiff, Nat.reduceAdd, Nat.reduceMul, Nat.reduceSub, Nat.reduceLeDiff, Nat.reduceLT, Nat.reduceBEq, reduceCtorEq, g1, g2, g3, h0, h1, h2, Net.cells, List.length_map]; exact ⟨hh, .nil, by simp, .inl ⟨rfl, rfl⟩⟩
  · rintro k T H M hk ⟨rfl, g1, g2, g3, g14, g15, g16, h0, h1, hh, u, h2, hA⟩
    obtain ⟨l, hp⟩ : ∃ p, n.sws[k]? = some p := ⟨n.sws[k], by simp⟩
    have hr := map_at (f := Sw.row) hp
    have hw := wrap_succ hk hs
    have htk := take_map (f := Sw.row) hp
    simp only [Sw.row] at hr
    have b0 : (0 = H.n) = False := by simp; omega
    have b1 : (1 = H.n) = False := by simp; omega
    have b2 : (2 = H.n) = False := by simp; omega
    obtain ⟨u', H1, ha, hB', hn1, hc1, ho1⟩ := app_any (H := (H.push (.cells [.str [], .str [], .int .i64 0, .str [], .bool false] 191)).set H.n (.cells [.str l.name, .str l.line, .int .i64 l.metre, .str l.other, .bool l.last] 191)) (hA.fresh _ _ rfl) (r := [.str l.name, .str l.line, .int .i64 l.metre, .str l.other, .bool l.last]) (by simp; omega) rfl (by decide) (rows_all Sw.row_len _)
    have x0 := hc1 0 _ _ (by simp) (by rw [Heap.get_set, if_neg (by omega), Heap.get_push, if_neg (by omega)]; exact h0)
    have x01 := hc1 1 _ _ (by simp; omega) (by rw [Heap.get_set, if_neg (by omega), Heap.get_push, if_neg (by omega)]; exact h1)
    have x2 := hc1 2 _ _ (by simp; omega) (by rw [Heap.get_set, if_neg (by omega), Heap.get_push, if_neg (by omega)]; exact h2)
    simp only [Heap.n_set, Heap.n_push] at hn1
    simp only [go_sem, reduceIte, Nat.reduceEqDiff, Nat.reduceAdd, Nat.reduceMul, Nat.reduceSub, Nat.reduceLeDiff, Nat.reduceLT, Nat.reduceBEq, reduceCtorEq, g1, g2, g3, g14, g15, g16, h0, h1, h2, b0, b1, b2, List.length_map, hk, hr, hw, appO, isIntT_slice, rowsIn, rf19, ha, x0, x01, x2]
    rw [htk]
    exact ⟨by omega, u', rfl, hB'.set _ (by rw [x2]; simp)⟩
  rintro T H M ⟨rfl, g1, g2, g3, g14, g15, g16, h0, h1, hh, u, h2, hA⟩
  rw [List.take_length] at h2 hA
  simp only [go_sem, reduceIte, Nat.reduceEqDiff, Nat.reduceAdd, Nat.reduceMul, Nat.reduceSub, Nat.reduceLeDiff, Nat.reduceLT, Nat.reduceBEq, reduceCtorEq, g1, g2, g3, g14, g15, g16, h0, h1, h2, Net.cells, List.length_map, Nat.lt_irrefl]
  refine W_for (fun k T H M => M = [] ∧ getT T 1 = .ptr 0 0 ∧ getT T 2 = .ptr 1 0 ∧ getT T 3 = .ptr 2 0 ∧ getT T 59 = .ps .unk (n.sts.map Stc.row) ∧ getT T 60 = i64 (n.sts.length : Nat) ∧ getT T 61 = i64 k ∧ H.get 0 = .cells n.cells 26 ∧ H.get 1 = .cells [.ps .nil [], .ps .nil [], .ps .nil []] 40 ∧ 2 < H.n ∧ ∃ v, H.get 2 = .cells [.ps t (n.lines.map Ln.row), .ps u (n.sws.map Sw.row), .ps v ((n.sts.take k).map Stc.row)] 40 ∧ App H v ((n.sts.take k).map Stc.row) 5 202) n.sts.length ?_ ?_ ?_
  · simp only [go_sem, reduceIte, Nat.reduceEqDiff, Nat.reduceAdd, Nat.reduceMul, Nat.reduceSub, Nat.reduceLeDiff, Nat.reduceLT, Nat.reduceBEq, reduceCtorEq, g1, g2, g3, h0, h1, h2, Net.cells, List.length_map]; exact ⟨hh, .nil, by simp, .inl ⟨rfl, rfl⟩⟩
  · rintro k T H M hk ⟨rfl, g1, g2, g3, g14, g15, g16, h0, h1, hh, v, h2, hA⟩
    obtain ⟨l, hp⟩ : ∃ p, n.sts[k]? = some p := ⟨n.sts[k], by simp⟩
    have hr := map_at (f := Stc.row) hp
    have hw := wrap_succ hk ht
    have htk := take_map (f := Stc.row) hp
    simp only [Stc.row] at hr
    have b0 : (0 = H.n) = False := by simp; omega
    have b1 : (1 = H.n) = False := by simp; omega
    have b2 : (2 = H.n) = False := by simp; omega
    obtain ⟨u', H1, ha, hB', hn1, hc1, ho1⟩ := app_any (H := (H.push (.cells [.str [], .str [], .str [], .int .i64 0, .int .i64 0] 193)).set H.n (.cells [.str l.name, .str l.kind, .str l.line, .int .i64 l.fr, .int .i64 l.till] 193)) (hA.fresh _ _ rfl) (r := [.str l.name, .str l.kind, .str l.line, .int .i64 l.fr, .int .i64 l.till]) (by simp; omega) rfl (by decide) (rows_all Stc.row_len _)
    have x0 := hc1 0 _ _ (by simp) (by rw [Heap.get_set, if_neg (by omega), Heap.get_push, if_neg (by omega)]; exact h0)
    have x01 := hc1 1 _ _ (by simp; omega) (by rw [Heap.get_set, if_neg (by omega), Heap.get_push, if_neg (by omega)]; exact h1)
    have x2 := hc1 2 _ _ (by simp; omega) (by rw [Heap.get_set, if_neg (by omega), Heap.get_push, if_neg (by omega)]; exact h2)
    simp only [Heap.n_set, Heap.n_push] at hn1
    simp only [go_sem, reduceIte, Nat.reduceEqDiff, Nat.reduceAdd, Nat.reduceMul, Nat.reduceSub, Nat.reduceLeDiff, Nat.reduceLT, Nat.reduceBEq, reduceCtorEq, g1, g2, g3, g14, g15, g16, h0, h1, h2, b0, b1, b2, List.length_map, hk, hr, hw, appO, isIntT_slice, rowsIn, rf19, ha, x0, x01, x2]
    rw [htk]
    exact ⟨by omega, u', rfl, hB'.set _ (by rw [x2]; simp)⟩
  rintro T H M ⟨rfl, g1, g2, g3, g14, g15, g16, h0, h1, hh, v, h2, hA⟩
  rw [List.take_length] at h2 hA
  simp only [go_sem, reduceIte, Nat.reduceEqDiff, Nat.reduceAdd, Nat.reduceMul, Nat.reduceSub, Nat.reduceLeDiff, Nat.reduceLT, Nat.reduceBEq, reduceCtorEq, g1, g2, g3, g14, g15, g16, h0, h1, h2, Net.cells, List.length_map, Nat.lt_irrefl]

end Go.Sim

/-
The plain law: the program's errors are the reference's.
-/
namespace Go.Sim
open Go

theorem whenI_true (e : Int) : whenI true e = e := rfl
theorem whenI_false (e : Int) : whenI false e = 0 := rfl
theorem firstI_cons (e : Int) (r : List Int) : firstI (e :: r) = if e = 0 then firstI r else e := rfl
theorem firstI_nil : firstI [] = 0 := rfl

theorem beqL_iff : ∀ (a b : List Nat), beqL a b = true ↔ a = b
  | [], [] => by simp [beqL]
  | [], _ :: _ => by simp [beqL]
  | _ :: _, [] => by simp [beqL]
  | a :: x, b :: y => by
    unfold beqL
    by_cases h : a = b
    · subst h
      have : Nat.beq a a = true := Nat.beq_refl a
      rw [this]
      simp [beqL_iff x y]
    · have : Nat.beq a b = false := by
        cases hb : Nat.beq a b with
        | false => rfl
        | true => exact absurd (Nat.eq_of_beq_eq_true hb) h
      rw [this]
      simp [h]

theorem rangeI_zero {n a b : Int} (h : rangeI n a b = 0) : a ≤ n ∧ n ≤ b := by
  unfold rangeI whenI at h
  by_cases h1 : n < a
  · simp [h1] at h
  · by_cases h2 : b < n
    · simp [h2] at h
    · omega

theorem wrap_small {x : Int} (h : -1000000000 ≤ x) (h2 : x ≤ 1000000000) : wrapq .i64 x = x := wrapq_i64 (by omega) (by omega)

theorem last_post {p : Pc} (h1 : 1 ≤ p.len ∧ p.len ≤ 100000) (h2 : 0 ≤ p.post ∧ p.post ≤ 9999999) : lastI p = postI p (wrapq .i64 (Int.sub p.len 1)) := by
  unfold lastI postI stepI
  have e0 : Int.sub p.len 1 = p.len - 1 := rfl
  rw [e0, wrap_small (x := p.len - 1) (by omega) (by omega)]
  cases p.back with
  | true =>
    simp only [if_true]
    have e1 : Int.mul (-1) (p.len - 1) = -(p.len - 1) := by show (-1) * (p.len - 1) = _; omega
    rw [e1, wrap_small (x := -(p.len - 1)) (by omega) (by omega)]
    have e2 : Int.add p.post (-(p.len - 1)) = p.post - (p.len - 1) := by show p.post + -(p.len - 1) = _; omega
    rw [e2]
  | false =>
    simp only [Bool.false_eq_true, if_false]
    have e1 : Int.mul 1 (p.len - 1) = p.len - 1 := by show 1 * (p.len - 1) = _; omega
    rw [e1, wrap_small (x := p.len - 1) (by omega) (by omega)]
    rfl

theorem piece_same (p : Pc) : pieceP p = pieceR p := by
  unfold pieceP pieceR
  simp only [firstI_cons, firstI_nil]
  by_cases h1 : rangeI p.len 1 100000 = 0
  · by_cases h2 : rangeI p.post 0 9999999 = 0
    · have a := rangeI_zero h1
      have b := rangeI_zero h2
      have hl := last_post a b
      simp only [h1, h2, if_true, hl]
      split
      · rename_i h; rw [h]
      · rfl
    · simp [h1, h2]
  · simp [h1]

theorem dup_iff {ls : List Ln} {i : Nat} {l : Ln} (h : ls[i]? = some l) : decide (findI ls l.name < i) = dupP ((ls.take i).map Ln.name) l.name := by
  unfold dupP
  cases hd : ((ls.take i).map Ln.name).any (beqL l.name) with
  | true =>
    rw [List.any_eq_true] at hd
    obtain ⟨x, hx, hb⟩ := hd
    obtain ⟨y, hy, rfl⟩ := List.mem_map.1 hx
    obtain ⟨j, hj⟩ := List.mem_iff_getElem?.1 hy
    rw [List.getElem?_take] at hj
    split at hj
    · rename_i hji
      have he := (beqL_iff _ _).1 hb
      unfold findI findL
      cases hf : ls.findIdx? (fun l' => beqL l'.name l.name) with
      | none => simp only [decide_eq_true_eq]; omega
      | some k =>
        simp only [decide_eq_true_eq]
        rw [List.findIdx?_eq_some_iff_getElem] at hf
        obtain ⟨hk, _, hmin⟩ := hf
        have : k ≤ j := by
          rcases Nat.lt_or_ge j k with h' | h'
          · have := hmin j h'
            have hjl : ls[j]? = some y := hj
            rw [(List.getElem?_eq_some_iff.1 hjl).2] at this
            have h2 : beqL y.name l.name = true := (beqL_iff _ _).2 he.symm
            simp [h2] at this
          · exact h'
        omega
    · cases hj
  | false =>
    rw [List.any_eq_false] at hd
    have hno : ∀ j l', j < i → ls[j]? = some l' → beqL l'.name l.name = false := by
      intro j l' hj hl'
      have hm : l'.name ∈ (ls.take i).map Ln.name := List.mem_map.2 ⟨l', List.mem_of_getElem? (i := j) (by rw [List.getElem?_take_of_lt hj]; exact hl'), rfl⟩
      have := hd _ hm
      cases hb : beqL l'.name l.name with
      | false => rfl
      | true =>
        have he := (beqL_iff _ _).1 hb
        rw [he] at this
        exact absurd ((beqL_iff _ _).2 rfl) (by simpa using this)
    have := findL_drop hno h ((beqL_iff _ _).2 rfl)
    unfold findI
    rw [this]
    simp

theorem line_same (n : Net) (i : Nat) : lineP n.lines i = lineR n i := by
  unfold lineP lineR
  cases h : n.lines[i]? with
  | none => rfl
  | some l =>
    simp only []
    rw [← dup_iff h]
    have : l.ps.map pieceP = l.ps.map pieceR := List.map_congr_left fun p _ => piece_same p
    rw [this]

theorem allR_congr {f g : Nat → Int} {n : Nat} (h : ∀ i, f i = g i) : allR f n = allR g n := by
  have : f = g := funext h
  rw [this]

theorem dupB_same {α : Type} (nm : α → List Nat) (l : List α) (i : Nat) (s : List Nat) : dupP ((l.take i).map nm) s = dupB nm l i s := by
  unfold dupP dupB
  rw [List.any_map]
  congr 1
  funext x
  simp only [Function.comp]
  rw [Bool.eq_iff_iff, beqL_iff, beqL_iff]
  exact eq_comm

theorem findI_neg (ls : List Ln) (s : List Nat) : decide (findI ls s < 0) = !lnB ls s := by
  unfold findI lnB
  cases findL ls s <;> simp

theorem has_same (ls : List Ln) (s : List Nat) (m : Int) (r : List Int) : firstI (whenI (!lnB ls s) 10 :: whenI (!hasB (lnOf ls s) m) 14 :: r) = firstI (hasI ls s m :: r) := by
  unfold hasI lnB lnOf
  cases hf : findL ls s with
  | none => simp [firstI, whenI]
  | some i =>
    obtain ⟨l, hl, _⟩ := findL_at hf
    simp only [hl, Option.isSome_some, Bool.not_true, whenI_false, firstI_cons, if_true, List.getD_eq_getElem?_getD, Option.getD_some]
    have : (!hasB l m) = (decide (m < 0) || !decide (m < sumW l.ps 0)) := by
      unfold hasB
      by_cases h1 : m < 0 <;> by_cases h2 : m < sumW l.ps 0 <;> simp [h1, h2]
    rw [this]

theorem switch_same (n : Net) (i : Nat) : switchP n i = switchR n i := by
  unfold switchP switchR
  cases h : n.sws[i]? with
  | none => rfl
  | some s =>
    simp only []
    rw [dupB_same]
    cases hn : nameB s.name with
    | false => simp [firstI, whenI]
    | true =>
      simp only [Bool.not_true, whenI_false, if_true]
      rw [firstI_cons, if_pos rfl]
      cases hd : dupB Sw.name n.sws i s.name with
      | true => simp [firstI, whenI]
      | false =>
        simp only [whenI_false, Bool.false_eq_true, if_false]
        rw [firstI_cons, if_pos rfl, has_same, findI_neg]

theorem metres_same (ls : List Ln) (s : List Nat) (fr till : Int) : firstI [whenI (!lnB ls s) 10, whenI (spanB (lnOf ls s) fr till) 14] = metresI ls s fr till := by
  unfold metresI lnB lnOf
  cases hf : findL ls s with
  | none => simp [firstI, whenI]
  | some i =>
    obtain ⟨l, hl, _⟩ := findL_at hf
    simp only [hl, Option.isSome_some, Bool.not_true, whenI_false, firstI_cons, firstI_nil, if_true, List.getD_eq_getElem?_getD, Option.getD_some]
    have : spanB l fr till = (decide (fr < 0) || !decide (fr < till) || decide (sumW l.ps 0 < till)) := by
      unfold spanB hasB
      by_cases h1 : fr < 0
      · simp [h1]
      · by_cases h2 : fr < till
        · by_cases h3 : sumW l.ps 0 < till
          · simp [h3]
          · have h4 : fr < sumW l.ps 0 := by omega
            simp [h1, h2, h3, h4]
        · simp [h2]
    rw [this]
    split
    · rename_i h; exact h.symm
    · rfl

theorem struct_same (n : Net) (i : Nat) : structP n i = structR n i := by
  unfold structP structR
  cases h : n.sts[i]? with
  | none => rfl
  | some s =>
    simp only []
    rw [dupB_same]
    cases hn : nameB s.name with
    | false => simp [firstI, whenI]
    | true =>
      simp only [Bool.not_true, whenI_false, if_true]
      rw [firstI_cons, if_pos rfl]
      cases hd : dupB Stc.name n.sts i s.name with
      | true => simp [firstI, whenI]
      | false =>
        simp only [whenI_false, Bool.false_eq_true, if_false]
        rw [firstI_cons, if_pos rfl]
        cases hk : nameB s.kind with
        | false => simp [firstI, whenI]
        | true =>
          simp only [Bool.not_true, whenI_false, decide_true]
          show firstI [whenI (!lnB n.lines s.line) 10, whenI (spanB (lnOf n.lines s.line) s.fr s.till) 14] = firstI [metresI n.lines s.line s.fr s.till]
          rw [metres_same]
          simp only [firstI_cons, firstI_nil]
          split
          · rename_i h; exact h
          · rfl

theorem net_same (n : Net) : netP n = netR n := by
  unfold netP netR linesP switchesP structsP
  rw [allR_congr (line_same n), allR_congr (switch_same n), allR_congr (struct_same n)]
  by_cases h1 : (8 : Int) < n.lines.length
  · simp [h1]
  · simp only [h1, if_false]
    split
    · simp only [firstI_cons, firstI_nil]
      by_cases h2 : (8 : Int) < n.sws.length
      · simp [h2]
      · simp only [h2, if_false]
        split
        · by_cases h3 : (16 : Int) < n.sts.length
          · simp [h3]
          · simp only [h3, if_false]
            split
            · rename_i h; exact h.symm
            · rfl
        · rfl
    · rfl

theorem place_same (n : Net) (s : List Nat) (m : Int) : placeP n s m = hasI n.lines s m := by
  unfold placeP
  rw [has_same]
  simp only [firstI_cons, firstI_nil]
  split
  · rename_i h; exact h.symm
  · rfl

end Go.Sim

/-
The plain law: addresses and places of valid networks.
-/
namespace Go.Sim
open Go

theorem firstI_zero : ∀ {es : List Int}, firstI es = 0 → ∀ e ∈ es, e = 0
  | [], _, e, he => by simp at he
  | a :: r, h, e, he => by
    rw [firstI_cons] at h
    by_cases ha : a = 0
    · rw [if_pos ha] at h
      rcases List.mem_cons.1 he with rfl | he
      · exact ha
      · exact firstI_zero h e he
    · rw [if_neg ha] at h; exact absurd h ha

theorem allR_zero {f : Nat → Int} {n : Nat} (h : allR f n = 0) {i : Nat} (hi : i < n) : f i = 0 :=
  firstI_zero h _ (List.mem_map.2 ⟨i, by simpa using hi, rfl⟩)

structure Ln.Good (l : Ln) : Prop where
  few : l.ps.length ≤ 8
  piece : ∀ p ∈ l.ps, 1 ≤ p.len ∧ p.len ≤ 100000 ∧ 0 ≤ p.post ∧ p.post ≤ 9999999

theorem netR_lines {n : Net} (h : netR n = 0) : allR (lineR n) n.lines.length = 0 := by
  unfold netR at h
  by_cases h1 : (8 : Int) < n.lines.length
  · simp [h1] at h
  · simp only [h1, if_false] at h
    split at h
    · rename_i h2; exact h2
    · exact h

theorem line_good {n : Net} (h : netR n = 0) {i : Nat} {l : Ln} (hl : n.lines[i]? = some l) : l.Good := by
  have hz := allR_zero (netR_lines h) (List.getElem?_eq_some_iff.1 hl).1
  unfold lineR at hz
  simp only [hl] at hz
  split at hz
  · rename_i he
    have hm := firstI_zero he
    have hp := firstI_zero hz
    refine ⟨?_, fun p hpm => ?_⟩
    · have := hm (whenI (decide ((8 : Int) < l.ps.length)) 5) (by simp)
      by_cases h8 : (8 : Int) < l.ps.length
      · simp [h8, whenI] at this
      · omega
    · have := hp (pieceR p) (List.mem_map.2 ⟨p, hpm, rfl⟩)
      unfold pieceR at this
      simp only [] at this
      split at this
      · rename_i h2
        have h3 := firstI_zero h2
        have a := rangeI_zero (h3 (rangeI p.len 1 100000) (by simp))
        have b := rangeI_zero (h3 (rangeI p.post 0 9999999) (by simp))
        exact ⟨a.1, a.2, b.1, b.2⟩
      · rename_i h2; exact absurd this h2
  · rename_i he; exact absurd hz he

variable {l : Ln}

theorem beg_bound (hg : l.Good) : ∀ k, k ≤ l.ps.length → 0 ≤ begI l k ∧ begI l k ≤ 100000 * (k : Int)
  | 0, _ => by simp [begI, sumW]
  | k + 1, hk => by
    have ih := beg_bound hg k (by omega)
    obtain ⟨p, hp⟩ : ∃ p, l.ps[k]? = some p := ⟨l.ps[k], by simp⟩
    have hgp := hg.piece p (List.mem_of_getElem? hp)
    rw [begI_succ hp]
    have h8 := hg.few
    have e : Int.add (begI l k) p.len = begI l k + p.len := rfl
    rw [e, wrap_small (by omega) (by omega)]
    push_cast
    omega

theorem beg_step (hg : l.Good) {k : Nat} {p : Pc} (hp : l.ps[k]? = some p) : begI l (k + 1) = begI l k + p.len := by
  have hk := (List.getElem?_eq_some_iff.1 hp).1
  have ih := beg_bound hg k (by omega)
  have hgp := hg.piece p (List.mem_of_getElem? hp)
  have h8 := hg.few
  rw [begI_succ hp]
  have e : Int.add (begI l k) p.len = begI l k + p.len := rfl
  rw [e, wrap_small (by omega) (by omega)]

theorem beg_mono (hg : l.Good) {j : Nat} : ∀ {k : Nat}, j ≤ k → k ≤ l.ps.length → begI l j ≤ begI l k
  | 0, hj, _ => by have : j = 0 := by omega
                   rw [this]; exact Int.le_refl _
  | k + 1, hj, hk => by
    by_cases e : j = k + 1
    · rw [e]; exact Int.le_refl _
    · have ih := beg_mono hg (j := j) (k := k) (by omega) (by omega)
      obtain ⟨p, hp⟩ : ∃ p, l.ps[k]? = some p := ⟨l.ps[k], by simp⟩
      have hgp := hg.piece p (List.mem_of_getElem? hp)
      have := beg_step hg hp
      omega

theorem addrK_at (hg : l.Good) {m : Int} (hm : 0 ≤ m) : ∀ n, n ≤ l.ps.length → (begI l n ≤ m → addrK l m n = (0, 0)) ∧
    (m < begI l n → ∃ k p, k < n ∧ l.ps[k]? = some p ∧ begI l k ≤ m ∧ m < begI l (k + 1) ∧ addrK l m n = ((k : Int), wrapq .i64 (Int.add p.post (wrapq .i64 (Int.mul (stepI p.back) (wrapq .i64 (Int.sub m (begI l k))))))))
  | 0, _ => ⟨fun _ => rfl, fun h => by have := (beg_bound hg 0 (by omega)).2; simp [begI, sumW] at h; omega⟩
  | n + 1, hn => by
    obtain ⟨h1, h2⟩ := addrK_at hg hm n (by omega)
    obtain ⟨p, hp⟩ : ∃ p, l.ps[n]? = some p := ⟨l.ps[n], by simp⟩
    have hstep := beg_step hg hp
    have hgp := hg.piece p (List.mem_of_getElem? hp)
    have hu : addrK l m (n + 1) = if !decide (m < begI l n) && decide (m < begI l (n + 1)) then ((n : Int), wrapq .i64 (Int.add p.post (wrapq .i64 (Int.mul (stepI p.back) (wrapq .i64 (Int.sub m (begI l n))))))) else addrK l m n := by
      show (match l.ps[n]? with | none => _ | some p => _) = _
      rw [hp]
    rw [hu]
    by_cases c1 : m < begI l n
    · refine ⟨fun h => by omega, fun _ => ?_⟩
      obtain ⟨k, p', a, b, c, d, e⟩ := h2 c1
      refine ⟨k, p', by omega, b, c, d, ?_⟩
      simp only [c1, decide_true, Bool.not_true, Bool.false_and, Bool.false_eq_true, if_false]
      exact e
    · by_cases c2 : m < begI l (n + 1)
      · refine ⟨fun h => by omega, fun _ => ⟨n, p, by omega, hp, by omega, c2, ?_⟩⟩
        simp [c1, c2]
      · refine ⟨fun _ => ?_, fun h => absurd h c2⟩
        simp only [c2, decide_false, Bool.and_false, Bool.false_eq_true, if_false]
        exact h1 (by omega)

theorem post_same {p : Pc} {x : Int} (h1 : 0 ≤ x ∧ x ≤ 100000) : wrapq .i64 (Int.add p.post (wrapq .i64 (Int.mul (stepI p.back) (wrapq .i64 x)))) = postI p (wrapq .i64 x) := by
  rw [wrap_small (x := x) (by omega) (by omega)]
  unfold postI stepI
  cases p.back with
  | true =>
    simp only [if_true]
    have e1 : Int.mul (-1) x = -x := by show (-1) * x = _; omega
    rw [e1, wrap_small (x := -x) (by omega) (by omega)]
    have e2 : Int.add p.post (-x) = p.post - x := by show p.post + -x = _; omega
    rw [e2]
  | false =>
    simp only [Bool.false_eq_true, if_false]
    have e1 : Int.mul 1 x = x := by show 1 * x = _; omega
    rw [e1, wrap_small (x := x) (by omega) (by omega)]
    rfl

theorem addr_same (hg : l.Good) (s : List Nat) {m : Int} (h0 : 0 ≤ m) (h1 : m < sumW l.ps 0) : AV.agg [.str s, i64 (addrK l m l.ps.length).1, i64 (addrK l m l.ps.length).2] = addrR l s m := by
  rw [← begI_all] at h1
  obtain ⟨k, p, hk, hp, c1, c2, he⟩ := (addrK_at hg h0 l.ps.length (Nat.le_refl _)).2 h1
  have hgp := hg.piece p (List.mem_of_getElem? hp)
  have hstep := beg_step hg hp
  have h8 := hg.few
  have hb := beg_bound hg k (by omega)
  have inb : ∀ j, j < l.ps.length → inB l m j = (decide (begI l j ≤ m) && decide (m < begI l (j + 1))) := by
    intro j hj
    obtain ⟨q, hq⟩ : ∃ q, l.ps[j]? = some q := ⟨l.ps[j], by simp⟩
    have hbj := beg_bound hg j (by omega)
    have hsj := beg_step hg hq
    have htop := beg_bound hg l.ps.length (Nat.le_refl _)
    unfold inB
    simp only [hq]
    have e : Int.sub m (begI l j) = m - begI l j := rfl
    rw [e, wrap_small (by omega) (by omega), hsj]
    by_cases d1 : begI l j ≤ m
    · by_cases d2 : m < begI l j + q.len
      · have e1 : ¬ (m - begI l j < 0) := by omega
        have e2 : m - begI l j < q.len := by omega
        simp [d1, d2, e1, e2]
      · have e2 : ¬ (m - begI l j < q.len) := by omega
        simp [d2, e2]
    · have e1 : m - begI l j < 0 := by omega
      simp [d1, e1]
  have hfind : (List.range l.ps.length).find? (inB l m) = some k := by
    refine find_range hk (fun j hj => ?_) ?_
    · rw [inb j (by omega)]
      have := beg_mono hg (j := j + 1) (k := k) (by omega) (by omega)
      have : ¬ (m < begI l (j + 1)) := by omega
      simp [this]
    · rw [inb k hk]; simp [c1, c2]
  unfold addrR
  rw [hfind, he]
  simp only [hp]
  have e : Int.sub m (begI l k) = m - begI l k := rfl
  rw [e, post_same (p := p) (x := m - begI l k) (by omega)]

theorem off_same {p : Pc} {post : Int} (h1 : 0 ≤ p.post ∧ p.post ≤ 9999999) (h2 : 0 ≤ post ∧ post ≤ 9999999) : metreI p post = offI p post := by
  unfold metreI offI stepI
  have e : Int.sub post p.post = post - p.post := rfl
  have e' : Int.sub p.post post = p.post - post := rfl
  rw [e, e', wrap_small (x := post - p.post) (by omega) (by omega)]
  cases p.back with
  | true =>
    simp only [if_true]
    have e1 : Int.mul (post - p.post) (-1) = p.post - post := by show (post - p.post) * (-1) = _; omega
    rw [e1]
  | false =>
    simp only [Bool.false_eq_true, if_false]
    have e1 : Int.mul (post - p.post) 1 = post - p.post := by show (post - p.post) * 1 = _; omega
    rw [e1, wrap_small (x := post - p.post) (by omega) (by omega)]

theorem placed_same {n : Net} (h : netR n = 0) (s : List Nat) (piece post : Int) : placedP n s piece post = placedR n s piece post := by
  unfold placedP placedR
  cases hf : findL n.lines s with
  | none =>
    have : lnB n.lines s = false := by unfold lnB; rw [hf]; rfl
    simp [this, firstI, whenI]
  | some i =>
    obtain ⟨l, hl, _⟩ := findL_at hf
    have hg := line_good h hl
    have hb : lnB n.lines s = true := by unfold lnB; rw [hf]; rfl
    have hlo : lnOf n.lines s = l := by unfold lnOf; rw [hf]; simp [hl]
    simp only [hb, hlo, Bool.not_true, whenI_false]
    rw [firstI_cons, if_pos rfl, firstI_cons, firstI_nil]
    by_cases c1 : piece < 0
    · simp [c1, whenI]
    · by_cases c2 : piece < (l.ps.length : Nat)
      · simp only [c1, c2, decide_false, decide_true, Bool.not_true, Bool.or_self, whenI_false, if_true, not_true_eq_false, or_self, if_false]
        by_cases c3 : post < 0
        · have : rangeI post 0 9999999 ≠ 0 := by unfold rangeI; simp [c3, whenI]
          simp [this, c3]
        · by_cases c4 : 9999999 < post
          · have : rangeI post 0 9999999 ≠ 0 := by unfold rangeI; simp [c4, whenI]
            simp [this, c4]
          · have hr : rangeI post 0 9999999 = 0 := by unfold rangeI; simp [c3, c4, whenI]
            simp only [hr, if_true, c3, c4, false_or]
            obtain ⟨p, hp⟩ : ∃ p, l.ps[piece.toNat]? = some p := ⟨l.ps[piece.toNat]'(by omega), by simp⟩
            have hgp := hg.piece p (List.mem_of_getElem? hp)
            have hoff := off_same (p := p) (post := post) ⟨hgp.2.2.1, hgp.2.2.2⟩ ⟨by omega, by omega⟩
            have hbb := beg_bound hg piece.toNat (by omega)
            have h8 := hg.few
            unfold placedV metreOfI metreB
            simp only [hp, hoff]
            by_cases d1 : offI p post < 0
            · simp [d1]
            · by_cases d2 : offI p post < p.len
              · have h0 : 0 ≤ piece := by omega
                have e : Int.add (begI l piece.toNat) (offI p post) = begI l piece.toNat + offI p post := rfl
                have hnn : ¬ (wrapq .i64 (Int.add (begI l piece.toNat) (offI p post)) < 0) := by
                  rw [e, wrap_small (by omega) (by omega)]; omega
                have hnn' : 0 ≤ wrapq .i64 (begI l piece.toNat + offI p post) := by rw [wrap_small (by omega) (by omega)]; omega
                simp [d1, d2, h0, hnn, hnn']
              · simp [d2]
      · simp [c2, whenI]

end Go.Sim

/-
The document's examples: what 'awake' returns, found by closed runs.
-/
namespace Go.Sim
open Go

def aw0 : List Known := []

theorem awh0 : ∀ k ∈ aw0, ∀ lo H, CallOk NC lo k.f k.args H k.v H := fun k h => by cases h

/-- versine/network.checkLines -/
def ak1 : Known := ⟨110, [.ps .unk [[.str [117, 112], .ps .unk [[.int .i64 100, .int .i64 5000, .bool false], [.int .i64 50, .int .i64 5080, .bool false], [.int .i64 30, .int .i64 5200, .bool true]]], [.str [115, 105, 100, 101], .ps .unk [[.int .i64 40, .int .i64 0, .bool false]]]]], .int .i64 0⟩
theorem ac1 : ∀ lo H, CallOk NC lo ak1.f ak1.args H ak1.v H := known_ok saneNC awh0 (fuel := 5000) (by kernel_rfl) (by kernel_rfl) (by kernel_rfl)
def aw1 : List Known := ak1 :: aw0
theorem awh1 : ∀ k ∈ aw1, ∀ lo H, CallOk NC lo k.f k.args H k.v H := fun k h => (List.mem_cons.1 h).elim (fun e => e ▸ ac1) (awh0 k)

/-- (versine/network.Network).checkSwitches -/
def ak2 : Known := ⟨112, [.agg [.ps .unk [[.str [117, 112], .ps .unk [[.int .i64 100, .int .i64 5000, .bool false], [.int .i64 50, .int .i64 5080, .bool false], [.int .i64 30, .int .i64 5200, .bool true]]], [.str [115, 105, 100, 101], .ps .unk [[.int .i64 40, .int .i64 0, .bool false]]]], .ps .unk [[.str [119], .str [117, 112], .int .i64 120, .str [115, 105, 100, 101], .bool false]], .ps .unk [[.str [97, 114, 99, 104], .str [98, 114, 105, 100, 103, 101], .str [117, 112], .int .i64 130, .int .i64 150]]]], .int .i64 0⟩
theorem ac2 : ∀ lo H, CallOk NC lo ak2.f ak2.args H ak2.v H := known_ok saneNC awh1 (fuel := 5000) (by kernel_rfl) (by kernel_rfl) (by kernel_rfl)
def aw2 : List Known := ak2 :: aw1
theorem awh2 : ∀ k ∈ aw2, ∀ lo H, CallOk NC lo k.f k.args H k.v H := fun k h => (List.mem_cons.1 h).elim (fun e => e ▸ ac2) (awh1 k)

/-- (versine/network.Network).checkStructures -/
def ak3 : Known := ⟨113, [.agg [.ps .unk [[.str [117, 112], .ps .unk [[.int .i64 100, .int .i64 5000, .bool false], [.int .i64 50, .int .i64 5080, .bool false], [.int .i64 30, .int .i64 5200, .bool true]]], [.str [115, 105, 100, 101], .ps .unk [[.int .i64 40, .int .i64 0, .bool false]]]], .ps .unk [[.str [119], .str [117, 112], .int .i64 120, .str [115, 105, 100, 101], .bool false]], .ps .unk [[.str [97, 114, 99, 104], .str [98, 114, 105, 100, 103, 101], .str [117, 112], .int .i64 130, .int .i64 150]]]], .int .i64 0⟩
theorem ac3 : ∀ lo H, CallOk NC lo ak3.f ak3.args H ak3.v H := known_ok saneNC awh2 (fuel := 5000) (by kernel_rfl) (by kernel_rfl) (by kernel_rfl)
def aw3 : List Known := ak3 :: aw2
theorem awh3 : ∀ k ∈ aw3, ∀ lo H, CallOk NC lo k.f k.args H k.v H := fun k h => (List.mem_cons.1 h).elim (fun e => e ▸ ac3) (awh2 k)

/-- versine/network.CheckNetwork -/
def ak4 : Known := ⟨29, [.agg [.ps .unk [[.str [117, 112], .ps .unk [[.int .i64 100, .int .i64 5000, .bool false], [.int .i64 50, .int .i64 5080, .bool false], [.int .i64 30, .int .i64 5200, .bool true]]], [.str [115, 105, 100, 101], .ps .unk [[.int .i64 40, .int .i64 0, .bool false]]]], .ps .unk [[.str [119], .str [117, 112], .int .i64 120, .str [115, 105, 100, 101], .bool false]], .ps .unk [[.str [97, 114, 99, 104], .str [98, 114, 105, 100, 103, 101], .str [117, 112], .int .i64 130, .int .i64 150]]]], .int .i64 0⟩
theorem ac4 : ∀ lo H, CallOk NC lo ak4.f ak4.args H ak4.v H := known_ok saneNC awh3 (fuel := 5000) (by kernel_rfl) (by kernel_rfl) (by kernel_rfl)
def aw4 : List Known := ak4 :: aw3
theorem awh4 : ∀ k ∈ aw4, ∀ lo H, CallOk NC lo k.f k.args H k.v H := fun k h => (List.mem_cons.1 h).elim (fun e => e ▸ ac4) (awh3 k)

/-- versine/network.Length -/
def ak5 : Known := ⟨18, [.agg [.ps .unk [[.str [117, 112], .ps .unk [[.int .i64 100, .int .i64 5000, .bool false], [.int .i64 50, .int .i64 5080, .bool false], [.int .i64 30, .int .i64 5200, .bool true]]], [.str [115, 105, 100, 101], .ps .unk [[.int .i64 40, .int .i64 0, .bool false]]]], .ps .unk [[.str [119], .str [117, 112], .int .i64 120, .str [115, 105, 100, 101], .bool false]], .ps .unk [[.str [97, 114, 99, 104], .str [98, 114, 105, 100, 103, 101], .str [117, 112], .int .i64 130, .int .i64 150]]], .str [117, 112]], .tup [.int .i64 180, .int .i64 0]⟩
theorem ac5 : ∀ lo H, CallOk NC lo ak5.f ak5.args H ak5.v H := known_ok saneNC awh4 (fuel := 5000) (by kernel_rfl) (by kernel_rfl) (by kernel_rfl)
def aw5 : List Known := ak5 :: aw4
theorem awh5 : ∀ k ∈ aw5, ∀ lo H, CallOk NC lo k.f k.args H k.v H := fun k h => (List.mem_cons.1 h).elim (fun e => e ▸ ac5) (awh4 k)

/-- versine/network.Addressed -/
def ak6 : Known := ⟨20, [.agg [.ps .unk [[.str [117, 112], .ps .unk [[.int .i64 100, .int .i64 5000, .bool false], [.int .i64 50, .int .i64 5080, .bool false], [.int .i64 30, .int .i64 5200, .bool true]]], [.str [115, 105, 100, 101], .ps .unk [[.int .i64 40, .int .i64 0, .bool false]]]], .ps .unk [[.str [119], .str [117, 112], .int .i64 120, .str [115, 105, 100, 101], .bool false]], .ps .unk [[.str [97, 114, 99, 104], .str [98, 114, 105, 100, 103, 101], .str [117, 112], .int .i64 130, .int .i64 150]]], .agg [.str [117, 112], .int .i64 120]], .tup [.agg [.str [117, 112], .int .i64 1, .int .i64 5100], .int .i64 0]⟩
theorem ac6 : ∀ lo H, CallOk NC lo ak6.f ak6.args H ak6.v H := known_ok saneNC awh5 (fuel := 5000) (by kernel_rfl) (by kernel_rfl) (by kernel_rfl)
def aw6 : List Known := ak6 :: aw5
theorem awh6 : ∀ k ∈ aw6, ∀ lo H, CallOk NC lo k.f k.args H k.v H := fun k h => (List.mem_cons.1 h).elim (fun e => e ▸ ac6) (awh5 k)

/-- versine/network.Addressed -/
def ak7 : Known := ⟨20, [.agg [.ps .unk [[.str [117, 112], .ps .unk [[.int .i64 100, .int .i64 5000, .bool false], [.int .i64 50, .int .i64 5080, .bool false], [.int .i64 30, .int .i64 5200, .bool true]]], [.str [115, 105, 100, 101], .ps .unk [[.int .i64 40, .int .i64 0, .bool false]]]], .ps .unk [[.str [119], .str [117, 112], .int .i64 120, .str [115, 105, 100, 101], .bool false]], .ps .unk [[.str [97, 114, 99, 104], .str [98, 114, 105, 100, 103, 101], .str [117, 112], .int .i64 130, .int .i64 150]]], .agg [.str [117, 112], .int .i64 179]], .tup [.agg [.str [117, 112], .int .i64 2, .int .i64 5171], .int .i64 0]⟩
theorem ac7 : ∀ lo H, CallOk NC lo ak7.f ak7.args H ak7.v H := known_ok saneNC awh6 (fuel := 5000) (by kernel_rfl) (by kernel_rfl) (by kernel_rfl)
def aw7 : List Known := ak7 :: aw6
theorem awh7 : ∀ k ∈ aw7, ∀ lo H, CallOk NC lo k.f k.args H k.v H := fun k h => (List.mem_cons.1 h).elim (fun e => e ▸ ac7) (awh6 k)

/-- versine/network.Posts -/
def ak8 : Known := ⟨51, [.agg [.ps .unk [[.str [117, 112], .ps .unk [[.int .i64 100, .int .i64 5000, .bool false], [.int .i64 50, .int .i64 5080, .bool false], [.int .i64 30, .int .i64 5200, .bool true]]], [.str [115, 105, 100, 101], .ps .unk [[.int .i64 40, .int .i64 0, .bool false]]]], .ps .unk [[.str [119], .str [117, 112], .int .i64 120, .str [115, 105, 100, 101], .bool false]], .ps .unk [[.str [97, 114, 99, 104], .str [98, 114, 105, 100, 103, 101], .str [117, 112], .int .i64 130, .int .i64 150]]], .str [117, 112], .int .i64 5090], .tup [.ps .unk [[.str [117, 112], .int .i64 0, .int .i64 5090], [.str [117, 112], .int .i64 1, .int .i64 5090]], .int .i64 0]⟩
theorem ac8 : ∀ lo H, CallOk NC lo ak8.f ak8.args H ak8.v H := known_ok saneNC awh7 (fuel := 5000) (by kernel_rfl) (by kernel_rfl) (by kernel_rfl)
def aw8 : List Known := ak8 :: aw7
theorem awh8 : ∀ k ∈ aw8, ∀ lo H, CallOk NC lo k.f k.args H k.v H := fun k h => (List.mem_cons.1 h).elim (fun e => e ▸ ac8) (awh7 k)

/-- versine/network.Placed -/
def ak9 : Known := ⟨21, [.agg [.ps .unk [[.str [117, 112], .ps .unk [[.int .i64 100, .int .i64 5000, .bool false], [.int .i64 50, .int .i64 5080, .bool false], [.int .i64 30, .int .i64 5200, .bool true]]], [.str [115, 105, 100, 101], .ps .unk [[.int .i64 40, .int .i64 0, .bool false]]]], .ps .unk [[.str [119], .str [117, 112], .int .i64 120, .str [115, 105, 100, 101], .bool false]], .ps .unk [[.str [97, 114, 99, 104], .str [98, 114, 105, 100, 103, 101], .str [117, 112], .int .i64 130, .int .i64 150]]], .agg [.str [117, 112], .int .i64 1, .int .i64 5090]], .tup [.agg [.str [117, 112], .int .i64 110], .int .i64 0]⟩
theorem ac9 : ∀ lo H, CallOk NC lo ak9.f ak9.args H ak9.v H := known_ok saneNC awh8 (fuel := 5000) (by kernel_rfl) (by kernel_rfl) (by kernel_rfl)
def aw9 : List Known := ak9 :: aw8
theorem awh9 : ∀ k ∈ aw9, ∀ lo H, CallOk NC lo k.f k.args H k.v H := fun k h => (List.mem_cons.1 h).elim (fun e => e ▸ ac9) (awh8 k)

/-- versine/network.checkPlaces -/
def ak10 : Known := ⟨114, [.agg [.ps .unk [[.str [117, 112], .ps .unk [[.int .i64 100, .int .i64 5000, .bool false], [.int .i64 50, .int .i64 5080, .bool false], [.int .i64 30, .int .i64 5200, .bool true]]], [.str [115, 105, 100, 101], .ps .unk [[.int .i64 40, .int .i64 0, .bool false]]]], .ps .unk [[.str [119], .str [117, 112], .int .i64 120, .str [115, 105, 100, 101], .bool false]], .ps .unk [[.str [97, 114, 99, 104], .str [98, 114, 105, 100, 103, 101], .str [117, 112], .int .i64 130, .int .i64 150]]], .ps .unk [[.str [117, 112], .int .i64 100], [.str [115, 105, 100, 101], .int .i64 10]]], .int .i64 0⟩
theorem ac10 : ∀ lo H, CallOk NC lo ak10.f ak10.args H ak10.v H := known_ok saneNC awh9 (fuel := 5000) (by kernel_rfl) (by kernel_rfl) (by kernel_rfl)
def aw10 : List Known := ak10 :: aw9
theorem awh10 : ∀ k ∈ aw10, ∀ lo H, CallOk NC lo k.f k.args H k.v H := fun k h => (List.mem_cons.1 h).elim (fun e => e ▸ ac10) (awh9 k)

/-- (versine/network.Network).compare -/
def ak11 : Known := ⟨203, [.agg [.ps .unk [[.str [117, 112], .ps .unk [[.int .i64 100, .int .i64 5000, .bool false], [.int .i64 50, .int .i64 5080, .bool false], [.int .i64 30, .int .i64 5200, .bool true]]], [.str [115, 105, 100, 101], .ps .unk [[.int .i64 40, .int .i64 0, .bool false]]]], .ps .unk [[.str [119], .str [117, 112], .int .i64 120, .str [115, 105, 100, 101], .bool false]], .ps .unk [[.str [97, 114, 99, 104], .str [98, 114, 105, 100, 103, 101], .str [117, 112], .int .i64 130, .int .i64 150]]], .agg [.ps .unk [[.str [117, 112], .int .i64 100, .int .i64 120], [.str [115, 105, 100, 101], .int .i64 0, .int .i64 0], [.str [117, 112], .int .i64 120, .int .i64 120]], .int .i64 20], .agg [.ps .unk [[.str [117, 112], .int .i64 100, .int .i64 120]], .int .i64 20]], .int .i64 1⟩
theorem ac11 : ∀ lo H, CallOk NC lo ak11.f ak11.args H ak11.v H := known_ok saneNC awh10 (fuel := 5000) (by kernel_rfl) (by kernel_rfl) (by kernel_rfl)
def aw11 : List Known := ak11 :: aw10
theorem awh11 : ∀ k ∈ aw11, ∀ lo H, CallOk NC lo k.f k.args H k.v H := fun k h => (List.mem_cons.1 h).elim (fun e => e ▸ ac11) (awh10 k)

/-- (versine/network.Network).compare -/
def ak12 : Known := ⟨203, [.agg [.ps .unk [[.str [117, 112], .ps .unk [[.int .i64 100, .int .i64 5000, .bool false], [.int .i64 50, .int .i64 5080, .bool false], [.int .i64 30, .int .i64 5200, .bool true]]], [.str [115, 105, 100, 101], .ps .unk [[.int .i64 40, .int .i64 0, .bool false]]]], .ps .unk [[.str [119], .str [117, 112], .int .i64 120, .str [115, 105, 100, 101], .bool false]], .ps .unk [[.str [97, 114, 99, 104], .str [98, 114, 105, 100, 103, 101], .str [117, 112], .int .i64 130, .int .i64 150]]], .agg [.ps .unk [[.str [117, 112], .int .i64 100, .int .i64 120], [.str [115, 105, 100, 101], .int .i64 0, .int .i64 0]], .int .i64 20], .agg [.ps .unk [[.str [117, 112], .int .i64 100, .int .i64 120], [.str [115, 105, 100, 101], .int .i64 0, .int .i64 0]], .int .i64 20]], .int .i64 0⟩
theorem ac12 : ∀ lo H, CallOk NC lo ak12.f ak12.args H ak12.v H := known_ok saneNC awh11 (fuel := 5000) (by kernel_rfl) (by kernel_rfl) (by kernel_rfl)
def aw12 : List Known := ak12 :: aw11
theorem awh12 : ∀ k ∈ aw12, ∀ lo H, CallOk NC lo k.f k.args H k.v H := fun k h => (List.mem_cons.1 h).elim (fun e => e ▸ ac12) (awh11 k)

/-- (versine/network.Network).way -/
def ak13 : Known := ⟨142, [.agg [.ps .unk [[.str [117, 112], .ps .unk [[.int .i64 100, .int .i64 5000, .bool false], [.int .i64 50, .int .i64 5080, .bool false], [.int .i64 30, .int .i64 5200, .bool true]]], [.str [115, 105, 100, 101], .ps .unk [[.int .i64 40, .int .i64 0, .bool false]]]], .ps .unk [[.str [119], .str [117, 112], .int .i64 120, .str [115, 105, 100, 101], .bool false]], .ps .unk [[.str [97, 114, 99, 104], .str [98, 114, 105, 100, 103, 101], .str [117, 112], .int .i64 130, .int .i64 150]]], .agg [.str [117, 112], .int .i64 100], .agg [.str [115, 105, 100, 101], .int .i64 10]], .tup [.agg [.ps .unk [[.str [117, 112], .int .i64 100, .int .i64 120], [.str [115, 105, 100, 101], .int .i64 0, .int .i64 10]], .int .i64 30], .bool true]⟩
theorem ac13 : ∀ lo H, CallOk NC lo ak13.f ak13.args H ak13.v H := known_ok saneNC awh12 (fuel := 5000) (by kernel_rfl) (by kernel_rfl) (by kernel_rfl)
def aw13 : List Known := ak13 :: aw12
theorem awh13 : ∀ k ∈ aw13, ∀ lo H, CallOk NC lo k.f k.args H k.v H := fun k h => (List.mem_cons.1 h).elim (fun e => e ▸ ac13) (awh12 k)

/-- versine/network.Way -/
def ak14 : Known := ⟨71, [.agg [.ps .unk [[.str [117, 112], .ps .unk [[.int .i64 100, .int .i64 5000, .bool false], [.int .i64 50, .int .i64 5080, .bool false], [.int .i64 30, .int .i64 5200, .bool true]]], [.str [115, 105, 100, 101], .ps .unk [[.int .i64 40, .int .i64 0, .bool false]]]], .ps .unk [[.str [119], .str [117, 112], .int .i64 120, .str [115, 105, 100, 101], .bool false]], .ps .unk [[.str [97, 114, 99, 104], .str [98, 114, 105, 100, 103, 101], .str [117, 112], .int .i64 130, .int .i64 150]]], .agg [.str [117, 112], .int .i64 100], .agg [.str [115, 105, 100, 101], .int .i64 10]], .tup [.ps .unk [[.str [117, 112], .int .i64 100, .int .i64 120], [.str [115, 105, 100, 101], .int .i64 0, .int .i64 10]], .int .i64 30, .int .i64 0]⟩
theorem ac14 : ∀ lo H, CallOk NC lo ak14.f ak14.args H ak14.v H := known_ok saneNC awh13 (fuel := 5000) (by kernel_rfl) (by kernel_rfl) (by kernel_rfl)
def aw14 : List Known := ak14 :: aw13
theorem awh14 : ∀ k ∈ aw14, ∀ lo H, CallOk NC lo k.f k.args H k.v H := fun k h => (List.mem_cons.1 h).elim (fun e => e ▸ ac14) (awh13 k)

/-- versine/network.checkPlaces -/
def ak15 : Known := ⟨114, [.agg [.ps .unk [[.str [117, 112], .ps .unk [[.int .i64 100, .int .i64 5000, .bool false], [.int .i64 50, .int .i64 5080, .bool false], [.int .i64 30, .int .i64 5200, .bool true]]], [.str [115, 105, 100, 101], .ps .unk [[.int .i64 40, .int .i64 0, .bool false]]]], .ps .unk [[.str [119], .str [117, 112], .int .i64 120, .str [115, 105, 100, 101], .bool false]], .ps .unk [[.str [97, 114, 99, 104], .str [98, 114, 105, 100, 103, 101], .str [117, 112], .int .i64 130, .int .i64 150]]], .ps .unk [[.str [115, 105, 100, 101], .int .i64 5]]], .int .i64 0⟩
theorem ac15 : ∀ lo H, CallOk NC lo ak15.f ak15.args H ak15.v H := known_ok saneNC awh14 (fuel := 5000) (by kernel_rfl) (by kernel_rfl) (by kernel_rfl)
def aw15 : List Known := ak15 :: aw14
theorem awh15 : ∀ k ∈ aw15, ∀ lo H, CallOk NC lo k.f k.args H k.v H := fun k h => (List.mem_cons.1 h).elim (fun e => e ▸ ac15) (awh14 k)

/-- (versine/network.Network).compare -/
def ak16 : Known := ⟨203, [.agg [.ps .unk [[.str [117, 112], .ps .unk [[.int .i64 100, .int .i64 5000, .bool false], [.int .i64 50, .int .i64 5080, .bool false], [.int .i64 30, .int .i64 5200, .bool true]]], [.str [115, 105, 100, 101], .ps .unk [[.int .i64 40, .int .i64 0, .bool false]]]], .ps .unk [[.str [119], .str [117, 112], .int .i64 120, .str [115, 105, 100, 101], .bool false]], .ps .unk [[.str [97, 114, 99, 104], .str [98, 114, 105, 100, 103, 101], .str [117, 112], .int .i64 130, .int .i64 150]]], .agg [.ps .unk [[.str [115, 105, 100, 101], .int .i64 5, .int .i64 0], [.str [117, 112], .int .i64 120, .int .i64 120], [.str [115, 105, 100, 101], .int .i64 0, .int .i64 0]], .int .i64 5], .agg [.ps .unk [[.str [115, 105, 100, 101], .int .i64 5, .int .i64 0]], .int .i64 5]], .int .i64 1⟩
theorem ac16 : ∀ lo H, CallOk NC lo ak16.f ak16.args H ak16.v H := known_ok saneNC awh15 (fuel := 5000) (by kernel_rfl) (by kernel_rfl) (by kernel_rfl)
def aw16 : List Known := ak16 :: aw15
theorem awh16 : ∀ k ∈ aw16, ∀ lo H, CallOk NC lo k.f k.args H k.v H := fun k h => (List.mem_cons.1 h).elim (fun e => e ▸ ac16) (awh15 k)

/-- (versine/network.Network).compare -/
def ak17 : Known := ⟨203, [.agg [.ps .unk [[.str [117, 112], .ps .unk [[.int .i64 100, .int .i64 5000, .bool false], [.int .i64 50, .int .i64 5080, .bool false], [.int .i64 30, .int .i64 5200, .bool true]]], [.str [115, 105, 100, 101], .ps .unk [[.int .i64 40, .int .i64 0, .bool false]]]], .ps .unk [[.str [119], .str [117, 112], .int .i64 120, .str [115, 105, 100, 101], .bool false]], .ps .unk [[.str [97, 114, 99, 104], .str [98, 114, 105, 100, 103, 101], .str [117, 112], .int .i64 130, .int .i64 150]]], .agg [.ps .unk [[.str [115, 105, 100, 101], .int .i64 5, .int .i64 0], [.str [117, 112], .int .i64 120, .int .i64 120]], .int .i64 5], .agg [.ps .unk [[.str [115, 105, 100, 101], .int .i64 5, .int .i64 0], [.str [117, 112], .int .i64 120, .int .i64 120]], .int .i64 5]], .int .i64 0⟩
theorem ac17 : ∀ lo H, CallOk NC lo ak17.f ak17.args H ak17.v H := known_ok saneNC awh16 (fuel := 5000) (by kernel_rfl) (by kernel_rfl) (by kernel_rfl)
def aw17 : List Known := ak17 :: aw16
theorem awh17 : ∀ k ∈ aw17, ∀ lo H, CallOk NC lo k.f k.args H k.v H := fun k h => (List.mem_cons.1 h).elim (fun e => e ▸ ac17) (awh16 k)

/-- (versine/network.Network).entries -/
def ak18 : Known := ⟨116, [.agg [.ps .unk [[.str [117, 112], .ps .unk [[.int .i64 100, .int .i64 5000, .bool false], [.int .i64 50, .int .i64 5080, .bool false], [.int .i64 30, .int .i64 5200, .bool true]]], [.str [115, 105, 100, 101], .ps .unk [[.int .i64 40, .int .i64 0, .bool false]]]], .ps .unk [[.str [119], .str [117, 112], .int .i64 120, .str [115, 105, 100, 101], .bool false]], .ps .unk [[.str [97, 114, 99, 104], .str [98, 114, 105, 100, 103, 101], .str [117, 112], .int .i64 130, .int .i64 150]]], .agg [.str [115, 105, 100, 101], .int .i64 5]], .ps .unk [[.str [115, 105, 100, 101], .int .i64 5, .int .i64 0], [.str [115, 105, 100, 101], .int .i64 0, .int .i64 5], [.str [117, 112], .int .i64 120, .int .i64 5]]⟩
theorem ac18 : ∀ lo H, CallOk NC lo ak18.f ak18.args H ak18.v H := known_ok saneNC awh17 (fuel := 5000) (by kernel_rfl) (by kernel_rfl) (by kernel_rfl)
def aw18 : List Known := ak18 :: aw17
theorem awh18 : ∀ k ∈ aw18, ∀ lo H, CallOk NC lo k.f k.args H k.v H := fun k h => (List.mem_cons.1 h).elim (fun e => e ▸ ac18) (awh17 k)

/-- versine/network.Nearest -/
def ak19 : Known := ⟨33, [.agg [.ps .unk [[.str [117, 112], .ps .unk [[.int .i64 100, .int .i64 5000, .bool false], [.int .i64 50, .int .i64 5080, .bool false], [.int .i64 30, .int .i64 5200, .bool true]]], [.str [115, 105, 100, 101], .ps .unk [[.int .i64 40, .int .i64 0, .bool false]]]], .ps .unk [[.str [119], .str [117, 112], .int .i64 120, .str [115, 105, 100, 101], .bool false]], .ps .unk [[.str [97, 114, 99, 104], .str [98, 114, 105, 100, 103, 101], .str [117, 112], .int .i64 130, .int .i64 150]]], .agg [.str [115, 105, 100, 101], .int .i64 5], .str [98, 114, 105, 100, 103, 101]], .tup [.str [97, 114, 99, 104], .int .i64 15, .int .i64 0]⟩
theorem ac19 : ∀ lo H, CallOk NC lo ak19.f ak19.args H ak19.v H := known_ok saneNC awh18 (fuel := 5000) (by kernel_rfl) (by kernel_rfl) (by kernel_rfl)
def aw19 : List Known := ak19 :: aw18
theorem awh19 : ∀ k ∈ aw19, ∀ lo H, CallOk NC lo k.f k.args H k.v H := fun k h => (List.mem_cons.1 h).elim (fun e => e ▸ ac19) (awh18 k)

/-- (versine/network.Move).check -/
def ak20 : Known := ⟨127, [.agg [.str [117, 112], .int .i64 0, .int .i64 100, .str [109, 97, 105, 110], .int .i64 20, .bool false]], .int .i64 0⟩
theorem ac20 : ∀ lo H, CallOk NC lo ak20.f ak20.args H ak20.v H := known_ok saneNC awh19 (fuel := 5000) (by kernel_rfl) (by kernel_rfl) (by kernel_rfl)
def aw20 : List Known := ak20 :: aw19
theorem awh20 : ∀ k ∈ aw20, ∀ lo H, CallOk NC lo k.f k.args H k.v H := fun k h => (List.mem_cons.1 h).elim (fun e => e ▸ ac20) (awh19 k)

/-- (versine/network.Move).check -/
def ak21 : Known := ⟨127, [.agg [.str [117, 112], .int .i64 100, .int .i64 50, .str [109, 97, 105, 110], .int .i64 200, .bool true]], .int .i64 0⟩
theorem ac21 : ∀ lo H, CallOk NC lo ak21.f ak21.args H ak21.v H := known_ok saneNC awh20 (fuel := 5000) (by kernel_rfl) (by kernel_rfl) (by kernel_rfl)
def aw21 : List Known := ak21 :: aw20
theorem awh21 : ∀ k ∈ aw21, ∀ lo H, CallOk NC lo k.f k.args H k.v H := fun k h => (List.mem_cons.1 h).elim (fun e => e ▸ ac21) (awh20 k)

/-- versine/network.CheckMap -/
def ak22 : Known := ⟨49, [.ps .unk [[.str [117, 112], .int .i64 0, .int .i64 100, .str [109, 97, 105, 110], .int .i64 20, .bool false], [.str [117, 112], .int .i64 100, .int .i64 50, .str [109, 97, 105, 110], .int .i64 200, .bool true]]], .int .i64 0⟩
theorem ac22 : ∀ lo H, CallOk NC lo ak22.f ak22.args H ak22.v H := known_ok saneNC awh21 (fuel := 5000) (by kernel_rfl) (by kernel_rfl) (by kernel_rfl)
def aw22 : List Known := ak22 :: aw21
theorem awh22 : ∀ k ∈ aw22, ∀ lo H, CallOk NC lo k.f k.args H k.v H := fun k h => (List.mem_cons.1 h).elim (fun e => e ▸ ac22) (awh21 k)

/-- versine/network.Carried -/
def ak23 : Known := ⟨42, [.ps .unk [[.str [117, 112], .int .i64 0, .int .i64 100, .str [109, 97, 105, 110], .int .i64 20, .bool false], [.str [117, 112], .int .i64 100, .int .i64 50, .str [109, 97, 105, 110], .int .i64 200, .bool true]], .agg [.str [117, 112], .int .i64 110]], .tup [.agg [.str [109, 97, 105, 110], .int .i64 239], .int .i64 0]⟩
theorem ac23 : ∀ lo H, CallOk NC lo ak23.f ak23.args H ak23.v H := known_ok saneNC awh22 (fuel := 5000) (by kernel_rfl) (by kernel_rfl) (by kernel_rfl)
def aw23 : List Known := ak23 :: aw22
theorem awh23 : ∀ k ∈ aw23, ∀ lo H, CallOk NC lo k.f k.args H k.v H := fun k h => (List.mem_cons.1 h).elim (fun e => e ▸ ac23) (awh22 k)

/-- versine/network.Undone -/
def ak24 : Known := ⟨54, [.ps .unk [[.str [117, 112], .int .i64 0, .int .i64 100, .str [109, 97, 105, 110], .int .i64 20, .bool false], [.str [117, 112], .int .i64 100, .int .i64 50, .str [109, 97, 105, 110], .int .i64 200, .bool true]]], .tup [.ps .unk [[.str [109, 97, 105, 110], .int .i64 20, .int .i64 100, .str [117, 112], .int .i64 0, .bool false], [.str [109, 97, 105, 110], .int .i64 200, .int .i64 50, .str [117, 112], .int .i64 100, .bool true]], .int .i64 0]⟩
theorem ac24 : ∀ lo H, CallOk NC lo ak24.f ak24.args H ak24.v H := known_ok saneNC awh23 (fuel := 5000) (by kernel_rfl) (by kernel_rfl) (by kernel_rfl)
def aw24 : List Known := ak24 :: aw23
theorem awh24 : ∀ k ∈ aw24, ∀ lo H, CallOk NC lo k.f k.args H k.v H := fun k h => (List.mem_cons.1 h).elim (fun e => e ▸ ac24) (awh23 k)

/-- (versine/network.Move).check -/
def ak25 : Known := ⟨127, [.agg [.str [109, 97, 105, 110], .int .i64 0, .int .i64 60, .str [111, 108, 100], .int .i64 500, .bool false]], .int .i64 0⟩
theorem ac25 : ∀ lo H, CallOk NC lo ak25.f ak25.args H ak25.v H := known_ok saneNC awh24 (fuel := 5000) (by kernel_rfl) (by kernel_rfl) (by kernel_rfl)
def aw25 : List Known := ak25 :: aw24
theorem awh25 : ∀ k ∈ aw25, ∀ lo H, CallOk NC lo k.f k.args H k.v H := fun k h => (List.mem_cons.1 h).elim (fun e => e ▸ ac25) (awh24 k)

/-- versine/network.CheckMap -/
def ak26 : Known := ⟨49, [.ps .unk [[.str [109, 97, 105, 110], .int .i64 0, .int .i64 60, .str [111, 108, 100], .int .i64 500, .bool false]]], .int .i64 0⟩
theorem ac26 : ∀ lo H, CallOk NC lo ak26.f ak26.args H ak26.v H := known_ok saneNC awh25 (fuel := 5000) (by kernel_rfl) (by kernel_rfl) (by kernel_rfl)
def aw26 : List Known := ak26 :: aw25
theorem awh26 : ∀ k ∈ aw26, ∀ lo H, CallOk NC lo k.f k.args H k.v H := fun k h => (List.mem_cons.1 h).elim (fun e => e ▸ ac26) (awh25 k)

/-- versine/network.Composed -/
def ak27 : Known := ⟨55, [.ps .unk [[.str [117, 112], .int .i64 0, .int .i64 100, .str [109, 97, 105, 110], .int .i64 20, .bool false], [.str [117, 112], .int .i64 100, .int .i64 50, .str [109, 97, 105, 110], .int .i64 200, .bool true]], .ps .unk [[.str [109, 97, 105, 110], .int .i64 0, .int .i64 60, .str [111, 108, 100], .int .i64 500, .bool false]]], .tup [.ps .unk [[.str [117, 112], .int .i64 0, .int .i64 40, .str [111, 108, 100], .int .i64 520, .bool false]], .int .i64 0]⟩
theorem ac27 : ∀ lo H, CallOk NC lo ak27.f ak27.args H ak27.v H := known_ok saneNC awh26 (fuel := 5000) (by kernel_rfl) (by kernel_rfl) (by kernel_rfl)
def aw27 : List Known := ak27 :: aw26
theorem awh27 : ∀ k ∈ aw27, ∀ lo H, CallOk NC lo k.f k.args H k.v H := fun k h => (List.mem_cons.1 h).elim (fun e => e ▸ ac27) (awh26 k)

/-- versine/network.checkLines -/
def ak28 : Known := ⟨110, [.ps .unk [[.str [109, 97, 105, 110], .ps .unk [[.int .i64 300, .int .i64 1000, .bool false]]]]], .int .i64 0⟩
theorem ac28 : ∀ lo H, CallOk NC lo ak28.f ak28.args H ak28.v H := known_ok saneNC awh27 (fuel := 5000) (by kernel_rfl) (by kernel_rfl) (by kernel_rfl)
def aw28 : List Known := ak28 :: aw27
theorem awh28 : ∀ k ∈ aw28, ∀ lo H, CallOk NC lo k.f k.args H k.v H := fun k h => (List.mem_cons.1 h).elim (fun e => e ▸ ac28) (awh27 k)

/-- versine/network.CheckNetwork -/
def ak29 : Known := ⟨29, [.agg [.ps .unk [[.str [109, 97, 105, 110], .ps .unk [[.int .i64 300, .int .i64 1000, .bool false]]]], .ps .unk [], .ps .unk []]], .int .i64 0⟩
theorem ac29 : ∀ lo H, CallOk NC lo ak29.f ak29.args H ak29.v H := known_ok saneNC awh28 (fuel := 5000) (by kernel_rfl) (by kernel_rfl) (by kernel_rfl)
def aw29 : List Known := ak29 :: aw28
theorem awh29 : ∀ k ∈ aw29, ∀ lo H, CallOk NC lo k.f k.args H k.v H := fun k h => (List.mem_cons.1 h).elim (fun e => e ▸ ac29) (awh28 k)

/-- (versine/network.Network).fits -/
def ak30 : Known := ⟨133, [.agg [.ps .unk [[.str [117, 112], .ps .unk [[.int .i64 100, .int .i64 5000, .bool false], [.int .i64 50, .int .i64 5080, .bool false], [.int .i64 30, .int .i64 5200, .bool true]]], [.str [115, 105, 100, 101], .ps .unk [[.int .i64 40, .int .i64 0, .bool false]]]], .ps .unk [[.str [119], .str [117, 112], .int .i64 120, .str [115, 105, 100, 101], .bool false]], .ps .unk [[.str [97, 114, 99, 104], .str [98, 114, 105, 100, 103, 101], .str [117, 112], .int .i64 130, .int .i64 150]]], .str [117, 112], .agg [.int .i64 0, .int .i64 100]], .int .i64 0⟩
theorem ac30 : ∀ lo H, CallOk NC lo ak30.f ak30.args H ak30.v H := known_ok saneNC awh29 (fuel := 5000) (by kernel_rfl) (by kernel_rfl) (by kernel_rfl)
def aw30 : List Known := ak30 :: aw29
theorem awh30 : ∀ k ∈ aw30, ∀ lo H, CallOk NC lo k.f k.args H k.v H := fun k h => (List.mem_cons.1 h).elim (fun e => e ▸ ac30) (awh29 k)

/-- (versine/network.Network).fits -/
def ak31 : Known := ⟨133, [.agg [.ps .unk [[.str [117, 112], .ps .unk [[.int .i64 100, .int .i64 5000, .bool false], [.int .i64 50, .int .i64 5080, .bool false], [.int .i64 30, .int .i64 5200, .bool true]]], [.str [115, 105, 100, 101], .ps .unk [[.int .i64 40, .int .i64 0, .bool false]]]], .ps .unk [[.str [119], .str [117, 112], .int .i64 120, .str [115, 105, 100, 101], .bool false]], .ps .unk [[.str [97, 114, 99, 104], .str [98, 114, 105, 100, 103, 101], .str [117, 112], .int .i64 130, .int .i64 150]]], .str [117, 112], .agg [.int .i64 100, .int .i64 150]], .int .i64 0⟩
theorem ac31 : ∀ lo H, CallOk NC lo ak31.f ak31.args H ak31.v H := known_ok saneNC awh30 (fuel := 5000) (by kernel_rfl) (by kernel_rfl) (by kernel_rfl)
def aw31 : List Known := ak31 :: aw30
theorem awh31 : ∀ k ∈ aw31, ∀ lo H, CallOk NC lo k.f k.args H k.v H := fun k h => (List.mem_cons.1 h).elim (fun e => e ▸ ac31) (awh30 k)

/-- versine/network.Fits -/
def ak32 : Known := ⟨50, [.ps .unk [[.str [117, 112], .int .i64 0, .int .i64 100, .str [109, 97, 105, 110], .int .i64 20, .bool false], [.str [117, 112], .int .i64 100, .int .i64 50, .str [109, 97, 105, 110], .int .i64 200, .bool true]], .agg [.ps .unk [[.str [117, 112], .ps .unk [[.int .i64 100, .int .i64 5000, .bool false], [.int .i64 50, .int .i64 5080, .bool false], [.int .i64 30, .int .i64 5200, .bool true]]], [.str [115, 105, 100, 101], .ps .unk [[.int .i64 40, .int .i64 0, .bool false]]]], .ps .unk [[.str [119], .str [117, 112], .int .i64 120, .str [115, 105, 100, 101], .bool false]], .ps .unk [[.str [97, 114, 99, 104], .str [98, 114, 105, 100, 103, 101], .str [117, 112], .int .i64 130, .int .i64 150]]], .agg [.ps .unk [[.str [109, 97, 105, 110], .ps .unk [[.int .i64 300, .int .i64 1000, .bool false]]]], .ps .unk [], .ps .unk []]], .int .i64 0⟩
theorem ac32 : ∀ lo H, CallOk NC lo ak32.f ak32.args H ak32.v H := known_ok saneNC awh31 (fuel := 5000) (by kernel_rfl) (by kernel_rfl) (by kernel_rfl)
def aw32 : List Known := ak32 :: aw31
theorem awh32 : ∀ k ∈ aw32, ∀ lo H, CallOk NC lo k.f k.args H k.v H := fun k h => (List.mem_cons.1 h).elim (fun e => e ▸ ac32) (awh31 k)

/-- versine/network.CheckHistory -/
def ak33 : Known := ⟨69, [.ps .unk [[.int .i64 10, .ps .unk [[.str [117, 112], .ps .unk [[.int .i64 100, .int .i64 5000, .bool false], [.int .i64 50, .int .i64 5080, .bool false], [.int .i64 30, .int .i64 5200, .bool true]]], [.str [115, 105, 100, 101], .ps .unk [[.int .i64 40, .int .i64 0, .bool false]]]], .ps .unk [[.str [119], .str [117, 112], .int .i64 120, .str [115, 105, 100, 101], .bool false]], .ps .unk [[.str [97, 114, 99, 104], .str [98, 114, 105, 100, 103, 101], .str [117, 112], .int .i64 130, .int .i64 150]], .ps .unk []], [.int .i64 20, .ps .unk [[.str [109, 97, 105, 110], .ps .unk [[.int .i64 300, .int .i64 1000, .bool false]]]], .ps .unk [], .ps .unk [], .ps .unk [[.str [117, 112], .int .i64 0, .int .i64 100, .str [109, 97, 105, 110], .int .i64 20, .bool false], [.str [117, 112], .int .i64 100, .int .i64 50, .str [109, 97, 105, 110], .int .i64 200, .bool true]]]]], .int .i64 0⟩
theorem ac33 : ∀ lo H, CallOk NC lo ak33.f ak33.args H ak33.v H := known_ok saneNC awh32 (fuel := 5000) (by kernel_rfl) (by kernel_rfl) (by kernel_rfl)
def aw33 : List Known := ak33 :: aw32
theorem awh33 : ∀ k ∈ aw33, ∀ lo H, CallOk NC lo k.f k.args H k.v H := fun k h => (List.mem_cons.1 h).elim (fun e => e ▸ ac33) (awh32 k)

/-- versine/network.Since -/
def ak34 : Known := ⟨65, [.ps .unk [[.int .i64 10, .ps .unk [[.str [117, 112], .ps .unk [[.int .i64 100, .int .i64 5000, .bool false], [.int .i64 50, .int .i64 5080, .bool false], [.int .i64 30, .int .i64 5200, .bool true]]], [.str [115, 105, 100, 101], .ps .unk [[.int .i64 40, .int .i64 0, .bool false]]]], .ps .unk [[.str [119], .str [117, 112], .int .i64 120, .str [115, 105, 100, 101], .bool false]], .ps .unk [[.str [97, 114, 99, 104], .str [98, 114, 105, 100, 103, 101], .str [117, 112], .int .i64 130, .int .i64 150]], .ps .unk []], [.int .i64 20, .ps .unk [[.str [109, 97, 105, 110], .ps .unk [[.int .i64 300, .int .i64 1000, .bool false]]]], .ps .unk [], .ps .unk [], .ps .unk [[.str [117, 112], .int .i64 0, .int .i64 100, .str [109, 97, 105, 110], .int .i64 20, .bool false], [.str [117, 112], .int .i64 100, .int .i64 50, .str [109, 97, 105, 110], .int .i64 200, .bool true]]]], .int .i64 15, .agg [.str [117, 112], .int .i64 1, .int .i64 5090], .int .i64 25], .tup [.agg [.str [109, 97, 105, 110], .int .i64 0, .int .i64 1239], .int .i64 0]⟩
theorem ac34 : ∀ lo H, CallOk NC lo ak34.f ak34.args H ak34.v H := known_ok saneNC awh33 (fuel := 5000) (by kernel_rfl) (by kernel_rfl) (by kernel_rfl)
def aw34 : List Known := ak34 :: aw33
theorem awh34 : ∀ k ∈ aw34, ∀ lo H, CallOk NC lo k.f k.args H k.v H := fun k h => (List.mem_cons.1 h).elim (fun e => e ▸ ac34) (awh33 k)

/-- versine/network.Since -/
def ak35 : Known := ⟨65, [.ps .unk [[.int .i64 10, .ps .unk [[.str [117, 112], .ps .unk [[.int .i64 100, .int .i64 5000, .bool false], [.int .i64 50, .int .i64 5080, .bool false], [.int .i64 30, .int .i64 5200, .bool true]]], [.str [115, 105, 100, 101], .ps .unk [[.int .i64 40, .int .i64 0, .bool false]]]], .ps .unk [[.str [119], .str [117, 112], .int .i64 120, .str [115, 105, 100, 101], .bool false]], .ps .unk [[.str [97, 114, 99, 104], .str [98, 114, 105, 100, 103, 101], .str [117, 112], .int .i64 130, .int .i64 150]], .ps .unk []], [.int .i64 20, .ps .unk [[.str [109, 97, 105, 110], .ps .unk [[.int .i64 300, .int .i64 1000, .bool false]]]], .ps .unk [], .ps .unk [], .ps .unk [[.str [117, 112], .int .i64 0, .int .i64 100, .str [109, 97, 105, 110], .int .i64 20, .bool false], [.str [117, 112], .int .i64 100, .int .i64 50, .str [109, 97, 105, 110], .int .i64 200, .bool true]]]], .int .i64 25, .agg [.str [109, 97, 105, 110], .int .i64 0, .int .i64 1239], .int .i64 10], .tup [.agg [.str [117, 112], .int .i64 1, .int .i64 5090], .int .i64 0]⟩
theorem ac35 : ∀ lo H, CallOk NC lo ak35.f ak35.args H ak35.v H := known_ok saneNC awh34 (fuel := 5000) (by kernel_rfl) (by kernel_rfl) (by kernel_rfl)
def aw35 : List Known := ak35 :: aw34
theorem awh35 : ∀ k ∈ aw35, ∀ lo H, CallOk NC lo k.f k.args H k.v H := fun k h => (List.mem_cons.1 h).elim (fun e => e ▸ ac35) (awh34 k)

/-- (versine/network.Network).placed -/
def ak36 : Known := ⟨102, [.agg [.ps .unk [[.str [117, 112], .ps .unk [[.int .i64 100, .int .i64 5000, .bool false], [.int .i64 50, .int .i64 5080, .bool false], [.int .i64 30, .int .i64 5200, .bool true]]], [.str [115, 105, 100, 101], .ps .unk [[.int .i64 40, .int .i64 0, .bool false]]]], .ps .unk [[.str [119], .str [117, 112], .int .i64 120, .str [115, 105, 100, 101], .bool false]], .ps .unk [[.str [97, 114, 99, 104], .str [98, 114, 105, 100, 103, 101], .str [117, 112], .int .i64 130, .int .i64 150]]], .agg [.str [117, 112], .int .i64 2, .int .i64 5171]], .tup [.agg [.str [117, 112], .int .i64 179], .int .i64 0]⟩
theorem ac36 : ∀ lo H, CallOk NC lo ak36.f ak36.args H ak36.v H := known_ok saneNC awh35 (fuel := 5000) (by kernel_rfl) (by kernel_rfl) (by kernel_rfl)
def aw36 : List Known := ak36 :: aw35
theorem awh36 : ∀ k ∈ aw36, ∀ lo H, CallOk NC lo k.f k.args H k.v H := fun k h => (List.mem_cons.1 h).elim (fun e => e ▸ ac36) (awh35 k)

/-- versine/network.Since -/
def ak37 : Known := ⟨65, [.ps .unk [[.int .i64 10, .ps .unk [[.str [117, 112], .ps .unk [[.int .i64 100, .int .i64 5000, .bool false], [.int .i64 50, .int .i64 5080, .bool false], [.int .i64 30, .int .i64 5200, .bool true]]], [.str [115, 105, 100, 101], .ps .unk [[.int .i64 40, .int .i64 0, .bool false]]]], .ps .unk [[.str [119], .str [117, 112], .int .i64 120, .str [115, 105, 100, 101], .bool false]], .ps .unk [[.str [97, 114, 99, 104], .str [98, 114, 105, 100, 103, 101], .str [117, 112], .int .i64 130, .int .i64 150]], .ps .unk []], [.int .i64 20, .ps .unk [[.str [109, 97, 105, 110], .ps .unk [[.int .i64 300, .int .i64 1000, .bool false]]]], .ps .unk [], .ps .unk [], .ps .unk [[.str [117, 112], .int .i64 0, .int .i64 100, .str [109, 97, 105, 110], .int .i64 20, .bool false], [.str [117, 112], .int .i64 100, .int .i64 50, .str [109, 97, 105, 110], .int .i64 200, .bool true]]]], .int .i64 15, .agg [.str [117, 112], .int .i64 2, .int .i64 5171], .int .i64 25], .tup [.agg [.str [], .int .i64 0, .int .i64 0], .int .i64 7]⟩
theorem ac37 : ∀ lo H, CallOk NC lo ak37.f ak37.args H ak37.v H := known_ok saneNC awh36 (fuel := 5000) (by kernel_rfl) (by kernel_rfl) (by kernel_rfl)
def aw37 : List Known := ak37 :: aw36
theorem awh37 : ∀ k ∈ aw37, ∀ lo H, CallOk NC lo k.f k.args H k.v H := fun k h => (List.mem_cons.1 h).elim (fun e => e ▸ ac37) (awh36 k)

/-- versine/network.Print -/
def ak38 : Known := ⟨87, [.agg [.ps .unk [[.str [117, 112], .ps .unk [[.int .i64 100, .int .i64 5000, .bool false], [.int .i64 50, .int .i64 5080, .bool false], [.int .i64 30, .int .i64 5200, .bool true]]], [.str [115, 105, 100, 101], .ps .unk [[.int .i64 40, .int .i64 0, .bool false]]]], .ps .unk [[.str [119], .str [117, 112], .int .i64 120, .str [115, 105, 100, 101], .bool false]], .ps .unk [[.str [97, 114, 99, 104], .str [98, 114, 105, 100, 103, 101], .str [117, 112], .int .i64 130, .int .i64 150]]]], .tup [.str [108, 105, 110, 101, 32, 117, 112, 10, 112, 105, 101, 99, 101, 32, 49, 48, 48, 32, 53, 48, 48, 48, 32, 117, 112, 10, 112, 105, 101, 99, 101, 32, 53, 48, 32, 53, 48, 56, 48, 32, 117, 112, 10, 112, 105, 101, 99, 101, 32, 51, 48, 32, 53, 50, 48, 48, 32, 100, 111, 119, 110, 10, 108, 105, 110, 101, 32, 115, 105, 100, 101, 10, 112, 105, 101, 99, 101, 32, 52, 48, 32, 48, 32, 117, 112, 10, 115, 119, 105, 116, 99, 104, 32, 119, 32, 117, 112, 32, 49, 50, 48, 32, 115, 105, 100, 101, 32, 102, 105, 114, 115, 116, 10, 115, 116, 114, 117, 99, 116, 117, 114, 101, 32, 97, 114, 99, 104, 32, 98, 114, 105, 100, 103, 101, 32, 117, 112, 32, 49, 51, 48, 32, 49, 53, 48, 10], .int .i64 0]⟩
theorem ac38 : ∀ lo H, CallOk NC lo ak38.f ak38.args H ak38.v H := known_ok saneNC awh37 (fuel := 5000) (by kernel_rfl) (by kernel_rfl) (by kernel_rfl)
def aw38 : List Known := ak38 :: aw37
theorem awh38 : ∀ k ∈ aw38, ∀ lo H, CallOk NC lo k.f k.args H k.v H := fun k h => (List.mem_cons.1 h).elim (fun e => e ▸ ac38) (awh37 k)

/-- versine/versinelaw02.awake -/
def ak39 : Known := ⟨16, [], .bool true⟩
theorem ac39 : ∀ lo H, CallOk NC lo ak39.f ak39.args H ak39.v H := known_ok saneNC awh38 (fuel := 5000) (by kernel_rfl) (by kernel_rfl) (by kernel_rfl)
def aw39 : List Known := ak39 :: aw38
theorem awh39 : ∀ k ∈ aw39, ∀ lo H, CallOk NC lo k.f k.args H k.v H := fun k h => (List.mem_cons.1 h).elim (fun e => e ▸ ac39) (awh38 k)

end Go.Sim

/-
The law: NetworkPlaces returns true.
-/
namespace Go.Sim
open Go Go.Proofs
set_option maxRecDepth 100000
set_option maxHeartbeats 16000000

noncomputable def p16 : List AV → Option AV := fun l => match l with
  | [] => some (.bool true)
  | _ => none
theorem pok16 : ∀ args v, p16 args = some v → ∀ lo H, CallOk NC lo 16 args H v H := by
  intro args v h
  cases args with
  | nil =>
    have : v = .bool true := by simpa [p16] using h.symm
    subst this
    exact ac39
  | cons a r => simp [p16] at h
theorem e16 : p16 [] = some (.bool true) := rfl

noncomputable def p17 : List AV → Option AV := primOf (α := Net) (fun x => [.agg x.cells]) (fun _ => True) (fun x => .bool (shortN x))
theorem pok17 : ∀ args v, p17 args = some v → ∀ lo H, CallOk NC lo 17 args H v H := by
  intro args v h
  obtain ⟨x, rfl, hp, rfl⟩ := primOf_inv h
  clear h
  revert x
  intro x; exact c17 x
theorem pe17 (x : Net) (hp : (fun _ => True) x) : p17 ((fun x => [.agg x.cells]) x) = some ((fun x => .bool (shortN x)) x) := primOf_enc (by intro x y h; exact cells1_inj x y h) x hp
noncomputable def p18 : List AV → Option AV := primOf (α := Net × List Nat) (fun x => [.agg x.1.cells, .str x.2]) (fun x => x.1.Ok) (fun x => .tup (if netP x.1 = 0 then (if lnB x.1.lines x.2 then [i64 (sumW (lnOf x.1.lines x.2).ps 0), i64 0] else [i64 0, i64 10]) else [i64 0, i64 (netP x.1)]))
theorem pok18 : ∀ args v, p18 args = some v → ∀ lo H, CallOk NC lo 18 args H v H := by
  intro args v h
  obtain ⟨x, rfl, hp, rfl⟩ := primOf_inv h
  clear h
  revert x
  intro x hx; exact c18 x.1 x.2 hx
theorem pe18 (x : Net × List Nat) (hp : (fun x => x.1.Ok) x) : p18 ((fun x => [.agg x.1.cells, .str x.2]) x) = some ((fun x => .tup (if netP x.1 = 0 then (if lnB x.1.lines x.2 then [i64 (sumW (lnOf x.1.lines x.2).ps 0), i64 0] else [i64 0, i64 10]) else [i64 0, i64 (netP x.1)])) x) := primOf_enc (by intro x y h; (obtain ⟨a, b⟩ := x; obtain ⟨c, d⟩ := y; simp only [List.cons.injEq, AV.agg.injEq, AV.str.injEq, true_and, and_true] at h; obtain ⟨h1, rfl⟩ := h; rw [Net.cells_inj _ _ h1])) x hp
noncomputable def p19 : List AV → Option AV := primOf (α := Net) (fun x => [.agg x.cells]) (fun x => x.fits ∧ x.sws.length ≤ maxRows ∧ x.sts.length ≤ maxRows) (fun x => .agg x.cells)
theorem pok19 : ∀ args v, p19 args = some v → ∀ lo H, CallOk NC lo 19 args H v H := by
  intro args v h
  obtain ⟨x, rfl, hp, rfl⟩ := primOf_inv h
  clear h
  revert x
  intro x hx; exact c19 x hx.1 hx.2.1 hx.2.2
theorem pe19 (x : Net) (hp : (fun x => x.fits ∧ x.sws.length ≤ maxRows ∧ x.sts.length ≤ maxRows) x) : p19 ((fun x => [.agg x.cells]) x) = some ((fun x => .agg x.cells) x) := primOf_enc (by intro x y h; exact cells1_inj x y h) x hp
noncomputable def p20 : List AV → Option AV := primOf (α := Net × List Nat × Int) (fun x => [.agg x.1.cells, .agg [.str x.2.1, i64 x.2.2]]) (fun x => x.1.Ok) (fun x => .tup (if netP x.1 = 0 then (if placeP x.1 x.2.1 x.2.2 = 0 then [.agg [.str x.2.1, i64 (addrK (lnOf x.1.lines x.2.1) x.2.2 (lnOf x.1.lines x.2.1).ps.length).1, i64 (addrK (lnOf x.1.lines x.2.1) x.2.2 (lnOf x.1.lines x.2.1).ps.length).2], i64 0] else [noAddr, i64 (placeP x.1 x.2.1 x.2.2)]) else [noAddr, i64 (netP x.1)]))
theorem pok20 : ∀ args v, p20 args = some v → ∀ lo H, CallOk NC lo 20 args H v H := by
  intro args v h
  obtain ⟨x, rfl, hp, rfl⟩ := primOf_inv h
  clear h
  revert x
  intro x hx; exact c20 x.1 x.2.1 x.2.2 hx
theorem pe20 (x : Net × List Nat × Int) (hp : (fun x => x.1.Ok) x) : p20 ((fun x => [.agg x.1.cells, .agg [.str x.2.1, i64 x.2.2]]) x) = some ((fun x => .tup (if netP x.1 = 0 then (if placeP x.1 x.2.1 x.2.2 = 0 then [.agg [.str x.2.1, i64 (addrK (lnOf x.1.lines x.2.1) x.2.2 (lnOf x.1.lines x.2.1).ps.length).1, i64 (addrK (lnOf x.1.lines x.2.1) x.2.2 (lnOf x.1.lines x.2.1).ps.length).2], i64 0] else [noAddr, i64 (placeP x.1 x.2.1 x.2.2)]) else [noAddr, i64 (netP x.1)])) x) := primOf_enc (by intro x y h; (obtain ⟨a, b, c⟩ := x; obtain ⟨d, e, f⟩ := y; simp only [List.cons.injEq, AV.agg.injEq, AV.str.injEq, AV.int.injEq, true_and, and_true] at h; obtain ⟨h1, rfl, rfl⟩ := h; rw [Net.cells_inj _ _ h1])) x hp
noncomputable def p21 : List AV → Option AV := primOf (α := Net × List Nat × Int × Int) (fun x => [.agg x.1.cells, .agg [.str x.2.1, i64 x.2.2.1, i64 x.2.2.2]]) (fun x => x.1.Ok) (fun x => .tup (if netP x.1 = 0 then placedP x.1 x.2.1 x.2.2.1 x.2.2.2 else [noPlace, i64 (netP x.1)]))
theorem pok21 : ∀ args v, p21 args = some v → ∀ lo H, CallOk NC lo 21 args H v H := by
  intro args v h
  obtain ⟨x, rfl, hp, rfl⟩ := primOf_inv h
  clear h
  revert x
  intro x hx; exact c21 x.1 x.2.1 x.2.2.1 x.2.2.2 hx
theorem pe21 (x : Net × List Nat × Int × Int) (hp : (fun x => x.1.Ok) x) : p21 ((fun x => [.agg x.1.cells, .agg [.str x.2.1, i64 x.2.2.1, i64 x.2.2.2]]) x) = some ((fun x => .tup (if netP x.1 = 0 then placedP x.1 x.2.1 x.2.2.1 x.2.2.2 else [noPlace, i64 (netP x.1)])) x) := primOf_enc (by intro x y h; (obtain ⟨a, b, c, d⟩ := x; obtain ⟨a', b', c', d'⟩ := y; simp only [List.cons.injEq, AV.agg.injEq, AV.str.injEq, AV.int.injEq, true_and, and_true] at h; obtain ⟨h1, rfl, rfl, rfl⟩ := h; rw [Net.cells_inj _ _ h1])) x hp
noncomputable def p22 : List AV → Option AV := primOf (α := Net) (fun x => [.agg x.cells]) (fun x => x.fits ∧ x.sws.length ≤ maxRows ∧ x.sts.length ≤ maxRows) (fun x => i64 (netR x))
theorem pok22 : ∀ args v, p22 args = some v → ∀ lo H, CallOk NC lo 22 args H v H := by
  intro args v h
  obtain ⟨x, rfl, hp, rfl⟩ := primOf_inv h
  clear h
  revert x
  intro x hx; exact c22 x hx.1 hx.2.1 hx.2.2
theorem pe22 (x : Net) (hp : (fun x => x.fits ∧ x.sws.length ≤ maxRows ∧ x.sts.length ≤ maxRows) x) : p22 ((fun x => [.agg x.cells]) x) = some ((fun x => i64 (netR x)) x) := primOf_enc (by intro x y h; exact cells1_inj x y h) x hp
noncomputable def p23 : List AV → Option AV := primOf (α := Net × List Nat) (fun x => [.agg x.1.cells, .str x.2]) (fun x => x.1.fits) (fun x => i64 (lineI x.1.lines x.2))
theorem pok23 : ∀ args v, p23 args = some v → ∀ lo H, CallOk NC lo 23 args H v H := by
  intro args v h
  obtain ⟨x, rfl, hp, rfl⟩ := primOf_inv h
  clear h
  revert x
  intro x hx; exact c23 x.1 x.2 hx
theorem pe23 (x : Net × List Nat) (hp : (fun x => x.1.fits) x) : p23 ((fun x => [.agg x.1.cells, .str x.2]) x) = some ((fun x => i64 (lineI x.1.lines x.2)) x) := primOf_enc (by intro x y h; (obtain ⟨a, b⟩ := x; obtain ⟨c, d⟩ := y; simp only [List.cons.injEq, AV.agg.injEq, AV.str.injEq, true_and, and_true] at h; obtain ⟨h1, rfl⟩ := h; rw [Net.cells_inj _ _ h1])) x hp
noncomputable def p24 : List AV → Option AV := primOf (α := Net × List Nat × Int) (fun x => [.agg x.1.cells, .agg [.str x.2.1, i64 x.2.2]]) (fun x => x.1.fits) (fun x => i64 (hasI x.1.lines x.2.1 x.2.2))
theorem pok24 : ∀ args v, p24 args = some v → ∀ lo H, CallOk NC lo 24 args H v H := by
  intro args v h
  obtain ⟨x, rfl, hp, rfl⟩ := primOf_inv h
  clear h
  revert x
  intro x hx; exact c24 x.1 x.2.1 x.2.2 hx
theorem pe24 (x : Net × List Nat × Int) (hp : (fun x => x.1.fits) x) : p24 ((fun x => [.agg x.1.cells, .agg [.str x.2.1, i64 x.2.2]]) x) = some ((fun x => i64 (hasI x.1.lines x.2.1 x.2.2)) x) := primOf_enc (by intro x y h; (obtain ⟨a, b, c⟩ := x; obtain ⟨d, e, f⟩ := y; simp only [List.cons.injEq, AV.agg.injEq, AV.str.injEq, AV.int.injEq, true_and, and_true] at h; obtain ⟨h1, rfl, rfl⟩ := h; rw [Net.cells_inj _ _ h1])) x hp
noncomputable def p25 : List AV → Option AV := primOf (α := Net × List Nat × Int × Int) (fun x => [.agg x.1.cells, .agg [.str x.2.1, i64 x.2.2.1, i64 x.2.2.2]]) (fun x => x.1.fits) (fun x => .tup (placedR x.1 x.2.1 x.2.2.1 x.2.2.2))
theorem pok25 : ∀ args v, p25 args = some v → ∀ lo H, CallOk NC lo 25 args H v H := by
  intro args v h
  obtain ⟨x, rfl, hp, rfl⟩ := primOf_inv h
  clear h
  revert x
  intro x hx; exact c25 x.1 x.2.1 x.2.2.1 x.2.2.2 hx
theorem pe25 (x : Net × List Nat × Int × Int) (hp : (fun x => x.1.fits) x) : p25 ((fun x => [.agg x.1.cells, .agg [.str x.2.1, i64 x.2.2.1, i64 x.2.2.2]]) x) = some ((fun x => .tup (placedR x.1 x.2.1 x.2.2.1 x.2.2.2)) x) := primOf_enc (by intro x y h; (obtain ⟨a, b, c, d⟩ := x; obtain ⟨a', b', c', d'⟩ := y; simp only [List.cons.injEq, AV.agg.injEq, AV.str.injEq, AV.int.injEq, true_and, and_true] at h; obtain ⟨h1, rfl, rfl, rfl⟩ := h; rw [Net.cells_inj _ _ h1])) x hp
noncomputable def p28 : List AV → Option AV := primOf (α := Net × List Nat × Int) (fun x => [.agg x.1.cells, .agg [.str x.2.1, i64 x.2.2]]) (fun x => (x.1.fits ∧ ∃ i, findL x.1.lines x.2.1 = some i)) (fun x => addrR (lnOf x.1.lines x.2.1) x.2.1 x.2.2)
theorem pok28 : ∀ args v, p28 args = some v → ∀ lo H, CallOk NC lo 28 args H v H := by
  intro args v h
  obtain ⟨x, rfl, hp, rfl⟩ := primOf_inv h
  clear h
  revert x
  (intro x hx; obtain ⟨i, hi⟩ := hx.2; exact c28 x.1 x.2.1 x.2.2 hx.1 hi)
theorem pe28 (x : Net × List Nat × Int) (hp : (fun x => (x.1.fits ∧ ∃ i, findL x.1.lines x.2.1 = some i)) x) : p28 ((fun x => [.agg x.1.cells, .agg [.str x.2.1, i64 x.2.2]]) x) = some ((fun x => addrR (lnOf x.1.lines x.2.1) x.2.1 x.2.2) x) := primOf_enc (by intro x y h; (obtain ⟨a, b, c⟩ := x; obtain ⟨d, e, f⟩ := y; simp only [List.cons.injEq, AV.agg.injEq, AV.str.injEq, AV.int.injEq, true_and, and_true] at h; obtain ⟨h1, rfl, rfl⟩ := h; rw [Net.cells_inj _ _ h1])) x hp
noncomputable def p30 : List AV → Option AV := primOf (α := Int × Int × Int × Int) (fun x => [i64 x.1, i64 x.2.1, i64 x.2.2.1, i64 x.2.2.2]) (fun _ => True) (fun x => .bool (numB x.1 x.2.1 x.2.2.1 x.2.2.2))
theorem pok30 : ∀ args v, p30 args = some v → ∀ lo H, CallOk NC lo 30 args H v H := by
  intro args v h
  obtain ⟨x, rfl, hp, rfl⟩ := primOf_inv h
  clear h
  revert x
  intro x; exact c30 x.1 x.2.1 x.2.2.1 x.2.2.2
theorem pe30 (x : Int × Int × Int × Int) (hp : (fun _ => True) x) : p30 ((fun x => [i64 x.1, i64 x.2.1, i64 x.2.2.1, i64 x.2.2.2]) x) = some ((fun x => .bool (numB x.1 x.2.1 x.2.2.1 x.2.2.2)) x) := primOf_enc (by intro x y h; (obtain ⟨a, b, c, d⟩ := x; obtain ⟨a', b', c', d'⟩ := y; simp at h; obtain ⟨rfl, rfl, rfl, rfl⟩ := h; rfl)) x hp
theorem e30 (a b c d : Int) : p30 [.int .i64 a, .int .i64 b, .int .i64 c, .int .i64 d] = some (.bool (numB a b c d)) := pe30 (a, b, c, d) trivial

noncomputable def PPO : FuncId → Option (List AV → Option AV) := addPrim 30 p30 (addPrim 28 p28 (addPrim 25 p25 (addPrim 24 p24 (addPrim 23 p23 (addPrim 22 p22 (addPrim 21 p21 (addPrim 20 p20 (addPrim 19 p19 (addPrim 18 p18 (addPrim 17 p17 (addPrim 16 p16 (PPN))))))))))))
theorem primsO : PrimsOk NC PPO := primsOk_add (primsOk_add (primsOk_add (primsOk_add (primsOk_add (primsOk_add (primsOk_add (primsOk_add (primsOk_add (primsOk_add (primsOk_add (primsOk_add (primsN) (by kernel_rfl) (by kernel_rfl) pok16) (by kernel_rfl) (by kernel_rfl) pok17) (by kernel_rfl) (by kernel_rfl) pok18) (by kernel_rfl) (by kernel_rfl) pok19) (by kernel_rfl) (by kernel_rfl) pok20) (by kernel_rfl) (by kernel_rfl) pok21) (by kernel_rfl) (by kernel_rfl) pok22) (by kernel_rfl) (by kernel_rfl) pok23) (by kernel_rfl) (by kernel_rfl) pok24) (by kernel_rfl) (by kernel_rfl) pok25) (by kernel_rfl) (by kernel_rfl) pok28) (by kernel_rfl) (by kernel_rfl) pok30
theorem enO_48 {rec : Rec} {lo : Nat} {args : List AV} {H : Heap} {K : AV → Heap → Prop} : VO (aenter (NC.withPrims PPO) rec lo 48 args H) K = AO (p48 args) fun v => K v H := enter_prim (by rfl) (by kernel_rfl)
theorem enO_121 {rec : Rec} {lo : Nat} {args : List AV} {H : Heap} {K : AV → Heap → Prop} : VO (aenter (NC.withPrims PPO) rec lo 121 args H) K = AO (p121 args) fun v => K v H := enter_prim (by rfl) (by kernel_rfl)
theorem enO_34 {rec : Rec} {lo : Nat} {args : List AV} {H : Heap} {K : AV → Heap → Prop} : VO (aenter (NC.withPrims PPO) rec lo 34 args H) K = AO (p34 args) fun v => K v H := enter_prim (by rfl) (by kernel_rfl)
theorem enO_111 {rec : Rec} {lo : Nat} {args : List AV} {H : Heap} {K : AV → Heap → Prop} : VO (aenter (NC.withPrims PPO) rec lo 111 args H) K = AO (p111 args) fun v => K v H := enter_prim (by rfl) (by kernel_rfl)
theorem enO_26 {rec : Rec} {lo : Nat} {args : List AV} {H : Heap} {K : AV → Heap → Prop} : VO (aenter (NC.withPrims PPO) rec lo 26 args H) K = AO (p26 args) fun v => K v H := enter_prim (by rfl) (by kernel_rfl)
theorem enO_178 {rec : Rec} {lo : Nat} {args : List AV} {H : Heap} {K : AV → Heap → Prop} : VO (aenter (NC.withPrims PPO) rec lo 178 args H) K = AO (p178 args) fun v => K v H := enter_prim (by rfl) (by kernel_rfl)
theorem enO_109 {rec : Rec} {lo : Nat} {args : List AV} {H : Heap} {K : AV → Heap → Prop} : VO (aenter (NC.withPrims PPO) rec lo 109 args H) K = AO (p109 args) fun v => K v H := enter_prim (by rfl) (by kernel_rfl)
theorem enO_108 {rec : Rec} {lo : Nat} {args : List AV} {H : Heap} {K : AV → Heap → Prop} : VO (aenter (NC.withPrims PPO) rec lo 108 args H) K = AO (p108 args) fun v => K v H := enter_prim (by rfl) (by kernel_rfl)
theorem enO_27 {rec : Rec} {lo : Nat} {args : List AV} {H : Heap} {K : AV → Heap → Prop} : VO (aenter (NC.withPrims PPO) rec lo 27 args H) K = AO (p27 args) fun v => K v H := enter_prim (by rfl) (by kernel_rfl)
theorem enO_97 {rec : Rec} {lo : Nat} {args : List AV} {H : Heap} {K : AV → Heap → Prop} : VO (aenter (NC.withPrims PPO) rec lo 97 args H) K = AO (p97 args) fun v => K v H := enter_prim (by rfl) (by kernel_rfl)
theorem enO_122 {rec : Rec} {lo : Nat} {args : List AV} {H : Heap} {K : AV → Heap → Prop} : VO (aenter (NC.withPrims PPO) rec lo 122 args H) K = AO (p122 args) fun v => K v H := enter_prim (by rfl) (by kernel_rfl)
theorem enO_182 {rec : Rec} {lo : Nat} {args : List AV} {H : Heap} {K : AV → Heap → Prop} : VO (aenter (NC.withPrims PPO) rec lo 182 args H) K = AO (p182 args) fun v => K v H := enter_prim (by rfl) (by kernel_rfl)
theorem enO_35 {rec : Rec} {lo : Nat} {args : List AV} {H : Heap} {K : AV → Heap → Prop} : VO (aenter (NC.withPrims PPO) rec lo 35 args H) K = AO (p35 args) fun v => K v H := enter_prim (by rfl) (by kernel_rfl)
theorem enO_115 {rec : Rec} {lo : Nat} {args : List AV} {H : Heap} {K : AV → Heap → Prop} : VO (aenter (NC.withPrims PPO) rec lo 115 args H) K = AO (p115 args) fun v => K v H := enter_prim (by rfl) (by kernel_rfl)
theorem enO_36 {rec : Rec} {lo : Nat} {args : List AV} {H : Heap} {K : AV → Heap → Prop} : VO (aenter (NC.withPrims PPO) rec lo 36 args H) K = AO (p36 args) fun v => K v H := enter_prim (by rfl) (by kernel_rfl)
theorem enO_120 {rec : Rec} {lo : Nat} {args : List AV} {H : Heap} {K : AV → Heap → Prop} : VO (aenter (NC.withPrims PPO) rec lo 120 args H) K = AO (p120 args) fun v => K v H := enter_prim (by rfl) (by kernel_rfl)
theorem enO_106 {rec : Rec} {lo : Nat} {args : List AV} {H : Heap} {K : AV → Heap → Prop} : VO (aenter (NC.withPrims PPO) rec lo 106 args H) K = AO (p106 args) fun v => K v H := enter_prim (by rfl) (by kernel_rfl)
theorem enO_179 {rec : Rec} {lo : Nat} {args : List AV} {H : Heap} {K : AV → Heap → Prop} : VO (aenter (NC.withPrims PPO) rec lo 179 args H) K = AO (p179 args) fun v => K v H := enter_prim (by rfl) (by kernel_rfl)
theorem enO_126 {rec : Rec} {lo : Nat} {args : List AV} {H : Heap} {K : AV → Heap → Prop} : VO (aenter (NC.withPrims PPO) rec lo 126 args H) K = AO (p126 args) fun v => K v H := enter_prim (by rfl) (by kernel_rfl)
theorem enO_103 {rec : Rec} {lo : Nat} {args : List AV} {H : Heap} {K : AV → Heap → Prop} : VO (aenter (NC.withPrims PPO) rec lo 103 args H) K = AO (p103 args) fun v => K v H := enter_prim (by rfl) (by kernel_rfl)
theorem enO_104 {rec : Rec} {lo : Nat} {args : List AV} {H : Heap} {K : AV → Heap → Prop} : VO (aenter (NC.withPrims PPO) rec lo 104 args H) K = AO (p104 args) fun v => K v H := enter_prim (by rfl) (by kernel_rfl)
theorem enO_105 {rec : Rec} {lo : Nat} {args : List AV} {H : Heap} {K : AV → Heap → Prop} : VO (aenter (NC.withPrims PPO) rec lo 105 args H) K = AO (p105 args) fun v => K v H := enter_prim (by rfl) (by kernel_rfl)
theorem enO_99 {rec : Rec} {lo : Nat} {args : List AV} {H : Heap} {K : AV → Heap → Prop} : VO (aenter (NC.withPrims PPO) rec lo 99 args H) K = AO (p99 args) fun v => K v H := enter_prim (by rfl) (by kernel_rfl)
theorem enO_226 {rec : Rec} {lo : Nat} {args : List AV} {H : Heap} {K : AV → Heap → Prop} : VO (aenter (NC.withPrims PPO) rec lo 226 args H) K = AO (p226 args) fun v => K v H := enter_prim (by rfl) (by kernel_rfl)
theorem enO_134 {rec : Rec} {lo : Nat} {args : List AV} {H : Heap} {K : AV → Heap → Prop} : VO (aenter (NC.withPrims PPO) rec lo 134 args H) K = AO (p134 args) fun v => K v H := enter_prim (by rfl) (by kernel_rfl)
theorem enO_177 {rec : Rec} {lo : Nat} {args : List AV} {H : Heap} {K : AV → Heap → Prop} : VO (aenter (NC.withPrims PPO) rec lo 177 args H) K = AO (p177 args) fun v => K v H := enter_prim (by rfl) (by kernel_rfl)
theorem enO_180 {rec : Rec} {lo : Nat} {args : List AV} {H : Heap} {K : AV → Heap → Prop} : VO (aenter (NC.withPrims PPO) rec lo 180 args H) K = AO (p180 args) fun v => K v H := enter_prim (by rfl) (by kernel_rfl)
theorem enO_98 {rec : Rec} {lo : Nat} {args : List AV} {H : Heap} {K : AV → Heap → Prop} : VO (aenter (NC.withPrims PPO) rec lo 98 args H) K = AO (p98 args) fun v => K v H := enter_prim (by rfl) (by kernel_rfl)
theorem enO_181 {rec : Rec} {lo : Nat} {args : List AV} {H : Heap} {K : AV → Heap → Prop} : VO (aenter (NC.withPrims PPO) rec lo 181 args H) K = AO (p181 args) fun v => K v H := enter_prim (by rfl) (by kernel_rfl)
theorem enO_183 {rec : Rec} {lo : Nat} {args : List AV} {H : Heap} {K : AV → Heap → Prop} : VO (aenter (NC.withPrims PPO) rec lo 183 args H) K = AO (p183 args) fun v => K v H := enter_prim (by rfl) (by kernel_rfl)
theorem enO_110 {rec : Rec} {lo : Nat} {args : List AV} {H : Heap} {K : AV → Heap → Prop} : VO (aenter (NC.withPrims PPO) rec lo 110 args H) K = AO (p110 args) fun v => K v H := enter_prim (by rfl) (by kernel_rfl)
theorem enO_112 {rec : Rec} {lo : Nat} {args : List AV} {H : Heap} {K : AV → Heap → Prop} : VO (aenter (NC.withPrims PPO) rec lo 112 args H) K = AO (p112 args) fun v => K v H := enter_prim (by rfl) (by kernel_rfl)
theorem enO_113 {rec : Rec} {lo : Nat} {args : List AV} {H : Heap} {K : AV → Heap → Prop} : VO (aenter (NC.withPrims PPO) rec lo 113 args H) K = AO (p113 args) fun v => K v H := enter_prim (by rfl) (by kernel_rfl)
theorem enO_29 {rec : Rec} {lo : Nat} {args : List AV} {H : Heap} {K : AV → Heap → Prop} : VO (aenter (NC.withPrims PPO) rec lo 29 args H) K = AO (p29 args) fun v => K v H := enter_prim (by rfl) (by kernel_rfl)
theorem enO_100 {rec : Rec} {lo : Nat} {args : List AV} {H : Heap} {K : AV → Heap → Prop} : VO (aenter (NC.withPrims PPO) rec lo 100 args H) K = AO (p100 args) fun v => K v H := enter_prim (by rfl) (by kernel_rfl)
theorem enO_101 {rec : Rec} {lo : Nat} {args : List AV} {H : Heap} {K : AV → Heap → Prop} : VO (aenter (NC.withPrims PPO) rec lo 101 args H) K = AO (p101 args) fun v => K v H := enter_prim (by rfl) (by kernel_rfl)
theorem enO_102 {rec : Rec} {lo : Nat} {args : List AV} {H : Heap} {K : AV → Heap → Prop} : VO (aenter (NC.withPrims PPO) rec lo 102 args H) K = AO (p102 args) fun v => K v H := enter_prim (by rfl) (by kernel_rfl)
theorem enO_107 {rec : Rec} {lo : Nat} {args : List AV} {H : Heap} {K : AV → Heap → Prop} : VO (aenter (NC.withPrims PPO) rec lo 107 args H) K = AO (p107 args) fun v => K v H := enter_prim (by rfl) (by kernel_rfl)
theorem enO_16 {rec : Rec} {lo : Nat} {args : List AV} {H : Heap} {K : AV → Heap → Prop} : VO (aenter (NC.withPrims PPO) rec lo 16 args H) K = AO (p16 args) fun v => K v H := enter_prim (by rfl) (by kernel_rfl)
theorem enO_17 {rec : Rec} {lo : Nat} {args : List AV} {H : Heap} {K : AV → Heap → Prop} : VO (aenter (NC.withPrims PPO) rec lo 17 args H) K = AO (p17 args) fun v => K v H := enter_prim (by rfl) (by kernel_rfl)
theorem enO_18 {rec : Rec} {lo : Nat} {args : List AV} {H : Heap} {K : AV → Heap → Prop} : VO (aenter (NC.withPrims PPO) rec lo 18 args H) K = AO (p18 args) fun v => K v H := enter_prim (by rfl) (by kernel_rfl)
theorem enO_19 {rec : Rec} {lo : Nat} {args : List AV} {H : Heap} {K : AV → Heap → Prop} : VO (aenter (NC.withPrims PPO) rec lo 19 args H) K = AO (p19 args) fun v => K v H := enter_prim (by rfl) (by kernel_rfl)
theorem enO_20 {rec : Rec} {lo : Nat} {args : List AV} {H : Heap} {K : AV → Heap → Prop} : VO (aenter (NC.withPrims PPO) rec lo 20 args H) K = AO (p20 args) fun v => K v H := enter_prim (by rfl) (by kernel_rfl)
theorem enO_21 {rec : Rec} {lo : Nat} {args : List AV} {H : Heap} {K : AV → Heap → Prop} : VO (aenter (NC.withPrims PPO) rec lo 21 args H) K = AO (p21 args) fun v => K v H := enter_prim (by rfl) (by kernel_rfl)
theorem enO_22 {rec : Rec} {lo : Nat} {args : List AV} {H : Heap} {K : AV → Heap → Prop} : VO (aenter (NC.withPrims PPO) rec lo 22 args H) K = AO (p22 args) fun v => K v H := enter_prim (by rfl) (by kernel_rfl)
theorem enO_23 {rec : Rec} {lo : Nat} {args : List AV} {H : Heap} {K : AV → Heap → Prop} : VO (aenter (NC.withPrims PPO) rec lo 23 args H) K = AO (p23 args) fun v => K v H := enter_prim (by rfl) (by kernel_rfl)
theorem enO_24 {rec : Rec} {lo : Nat} {args : List AV} {H : Heap} {K : AV → Heap → Prop} : VO (aenter (NC.withPrims PPO) rec lo 24 args H) K = AO (p24 args) fun v => K v H := enter_prim (by rfl) (by kernel_rfl)
theorem enO_25 {rec : Rec} {lo : Nat} {args : List AV} {H : Heap} {K : AV → Heap → Prop} : VO (aenter (NC.withPrims PPO) rec lo 25 args H) K = AO (p25 args) fun v => K v H := enter_prim (by rfl) (by kernel_rfl)
theorem enO_28 {rec : Rec} {lo : Nat} {args : List AV} {H : Heap} {K : AV → Heap → Prop} : VO (aenter (NC.withPrims PPO) rec lo 28 args H) K = AO (p28 args) fun v => K v H := enter_prim (by rfl) (by kernel_rfl)
theorem enO_30 {rec : Rec} {lo : Nat} {args : List AV} {H : Heap} {K : AV → Heap → Prop} : VO (aenter (NC.withPrims PPO) rec lo 30 args H) K = AO (p30 args) fun v => K v H := enter_prim (by rfl) (by kernel_rfl)
attribute [go_sem ↓] enO_48 enO_121 enO_34 enO_111 enO_26 enO_178 enO_109 enO_108 enO_27 enO_97 enO_122 enO_182
attribute [go_sem ↓] enO_35 enO_115 enO_36 enO_120 enO_106 enO_179 enO_126 enO_103 enO_104 enO_105 enO_99 enO_226
attribute [go_sem ↓] enO_134 enO_177 enO_180 enO_98 enO_181 enO_183 enO_110 enO_112 enO_113 enO_29 enO_100 enO_101
attribute [go_sem ↓] enO_102 enO_107 enO_16 enO_17 enO_18 enO_19 enO_20 enO_21 enO_22 enO_23 enO_24 enO_25
attribute [go_sem ↓] enO_28 enO_30


theorem ety30 : eqType NC.P 100 30 = true := by kernel_rfl
theorem ety28 : eqType NC.P 100 28 = true := by kernel_rfl
theorem aeq30' (a a' : List Nat) (b b' c c' : Int) : aeqT NC.P 100 30 (.agg [.str a, .int .i64 b, .int .i64 c]) (.agg [.str a', .int .i64 b', .int .i64 c']) =
    (match some (beqL a a') with
    | some true => (match some (eqI b b') with
      | some true => (match some (eqI c c') with
        | some true => some true
        | some false => some false
        | none => none)
      | some false => some false
      | none => none)
    | some false => some false
    | none => none) := by kernel_rfl
theorem aeq28' (a a' : List Nat) (b b' : Int) : aeqT NC.P 100 28 (.agg [.str a, .int .i64 b]) (.agg [.str a', .int .i64 b']) =
    (match some (beqL a a') with
    | some true => (match some (eqI b b') with
      | some true => some true
      | some false => some false
      | none => none)
    | some false => some false
    | none => none) := by kernel_rfl
theorem beqL_self (a : List Nat) : beqL a a = true := (beqL_iff a a).2 rfl
theorem eqI_self (a : Int) : eqI a a = true := by rw [eqI_iff]; simp
theorem aeq30 (a : List Nat) (b c : Int) : aeqT NC.P 100 30 (.agg [.str a, .int .i64 b, .int .i64 c]) (.agg [.str a, .int .i64 b, .int .i64 c]) = some true := by
  rw [aeq30', beqL_self, eqI_self, eqI_self]
theorem aeq28 (a : List Nat) (b : Int) : aeqT NC.P 100 28 (.agg [.str a, .int .i64 b]) (.agg [.str a, .int .i64 b]) = some true := by
  rw [aeq28', beqL_self, eqI_self]

theorem short_ok {n : Net} (h : shortN n = true) : n.Ok := by
  unfold shortN at h
  simp only [Bool.and_eq_true, Bool.not_eq_true', Bool.or_eq_false_iff, decide_eq_false_iff_not, List.all_eq_true] at h
  obtain ⟨⟨⟨⟨⟨h1, h2⟩, h3⟩, h4⟩, h5⟩, h6⟩ := h
  have short : ∀ s : List Nat, shortB s = true → s.length ≤ maxRows := by
    intro s hs
    unfold shortB at hs
    simp only [Bool.not_eq_true', decide_eq_false_iff_not] at hs
    unfold maxRows; omega
  refine ⟨by unfold maxRows; omega, fun l hl => ?_, by unfold maxRows; omega, fun s hs => ?_, by unfold maxRows; omega, fun s hs => ?_⟩
  · have := h4 l hl
    unfold shortLn at this
    simp only [Bool.and_eq_true, Bool.not_eq_true', decide_eq_false_iff_not] at this
    exact ⟨short _ this.1, by unfold maxRows; omega⟩
  · have := h5 s hs
    unfold shortSw at this
    simp only [Bool.and_eq_true] at this
    exact short _ this.1.1
  · have := h6 s hs
    unfold shortSt at this
    simp only [Bool.and_eq_true] at this
    exact ⟨short _ this.1.1, short _ this.1.2⟩

theorem num_bad {e : Int} (h : (e = 0) = False) : numB 0 e e 0 = true := by simp [numB, h]
theorem num_good (m : Int) : numB m 0 0 m = true := by simp [numB]

/-- **The law.** -/
theorem c3 (n : Net) (s : List Nat) (m : Int) (a : List Nat) (ap post : Int) : ∀ lo H, CallOk NC lo 3 [.agg n.cells, .agg [.str s, i64 m], .agg [.str a, i64 ap, i64 post]] H (.bool true) H := by
  refine contract saneNC primsO (fn := Tryz.f3) (by kernel_rfl) Tryz.func3 rfl rfl (by rfl) (by rfl) ?_
  have e17 := pe17 n trivial
  simp only [Net.cells] at e17
  cases hS : shortN n with
  | false =>
    simp only [hS] at e17
    simp only [go_sem, reduceIte, Nat.reduceEqDiff, Nat.reduceAdd, Nat.reduceMul, Nat.reduceSub, Nat.reduceLeDiff, Nat.reduceLT, Nat.reduceBEq, reduceCtorEq, Net.cells, e16, e17]
  | true =>
    simp only [hS] at e17
    rcases Classical.propComplete ((40 : Int) < s.length) with q1 | q1
    · simp only [go_sem, reduceIte, Nat.reduceEqDiff, Nat.reduceAdd, Nat.reduceMul, Nat.reduceSub, Nat.reduceLeDiff, Nat.reduceLT, Nat.reduceBEq, reduceCtorEq, Net.cells, e16, e17, q1]
    rcases Classical.propComplete ((40 : Int) < a.length) with q2 | q2
    · simp only [go_sem, reduceIte, Nat.reduceEqDiff, Nat.reduceAdd, Nat.reduceMul, Nat.reduceSub, Nat.reduceLeDiff, Nat.reduceLT, Nat.reduceBEq, reduceCtorEq, Net.cells, e16, e17, q1, q2]
    have hok := short_ok hS
    have e18 := pe18 (n, s) hok
    have e19 := pe19 n ⟨hok.fits, hok.sws, hok.sts⟩
    have e20 := pe20 (n, s, m) hok
    have e21 := pe21 (n, a, ap, post) hok
    have e22 := pe22 n ⟨hok.fits, hok.sws, hok.sts⟩
    have e23 := pe23 (n, s) hok.fits
    have e24 := pe24 (n, s, m) hok.fits
    have e25 := pe25 (n, a, ap, post) hok.fits
    have e27 := pe27 (n, s) hok.lines
    have e29 := pe29 n hok
    simp only [Net.cells, i64, net_same, place_same] at e18 e19 e20 e21 e22 e23 e24 e25 e27 e29
    rcases Classical.propComplete (netR n = 0) with z | z
    case inr =>
      simp only [z, if_false, noAddr, noPlace] at e18 e20 e21
      have hnum := num_bad z
      simp only [go_sem, reduceIte, Nat.reduceEqDiff, Nat.reduceAdd, Nat.reduceMul, Nat.reduceSub, Nat.reduceLeDiff, Nat.reduceLT, Nat.reduceBEq, reduceCtorEq, Net.cells, e16, e17, q1, q2, e18, e19, e20, e21, e22, e29, e30, hnum, z, ety30, ety28, aeq30, aeq28]
    have hz := of_eq_true z
    obtain ⟨s', m', e', hpl⟩ := placedP_shape n a ap post
    have hpr := (placed_same hz a ap post).symm.trans hpl
    simp only [hz, if_true, hpl, hpr, noAddr, lineI] at e18 e20 e21 e22 e23 e24 e25 e29
    cases hf : findL n.lines s with
    | none =>
      have hb : lnB n.lines s = false := by unfold lnB; rw [hf]; rfl
      have hh : hasI n.lines s m = 10 := by unfold hasI; rw [hf]
      have z10 : ((10 : Int) = 0) = False := by simp
      have hnum := num_bad z10
      simp only [hb, hh, hf, z10, if_false, Bool.false_eq_true, Option.isNone_none, whenI_true] at e18 e20 e23 e24
      simp only [go_sem, reduceIte, Nat.reduceEqDiff, Nat.reduceAdd, Nat.reduceMul, Nat.reduceSub, Nat.reduceLeDiff, Nat.reduceLT, Nat.reduceBEq, reduceCtorEq, Net.cells, e16, e17, q1, q2, e18, e19, e20, e21, e22, e23, e24, e25, e29, e30, hnum, z10, ety30, ety28, aeq30, aeq28]
    | some i =>
      obtain ⟨l, hl, hlt, hmem⟩ := findL_at hf
      have hlo : lnOf n.lines s = l := by unfold lnOf; rw [hf]; simp [hl]
      have hb : lnB n.lines s = true := by unfold lnB; rw [hf]; rfl
      have hr := map_at (f := Ln.row) hl
      have e26 := pe26 l (hok.line l hmem).2
      simp only [Ln.row, i64] at hr e26
      have hnum := num_good (sumW l.ps 0)
      simp only [hb, hlo, hf, if_true, Option.isNone_some, whenI_false, findI] at e18 e20 e23 e24 e27
      have hhas : hasI n.lines s m = whenI (decide (m < 0) || !decide (m < sumW l.ps 0)) 14 := by unfold hasI; simp only [hf, hl]
      generalize hF : hasI n.lines s m = F at e20 e24 hhas
      rcases Classical.propComplete (F = 0) with zF | zF
      · have hFz := of_eq_true zF
        have hm : ¬ m < 0 ∧ m < sumW l.ps 0 := by
          rw [hFz] at hhas
          by_cases h1 : m < 0
          · simp [h1, whenI] at hhas
          · by_cases h2 : m < sumW l.ps 0
            · exact ⟨h1, h2⟩
            · simp [h2, whenI] at hhas
        have hg := line_good hz hl
        have ha := addr_same hg s (m := m) (by omega) hm.2
        have e28 := pe28 (n, s, m) ⟨hok.fits, i, hf⟩
        simp only [Net.cells, i64, hlo, ← ha] at e28
        simp only [hFz, if_true] at e20 e24
        simp only [go_sem, reduceIte, Nat.reduceEqDiff, Nat.reduceAdd, Nat.reduceMul, Nat.reduceSub, Nat.reduceLeDiff, Nat.reduceLT, Nat.reduceBEq, reduceCtorEq, Net.cells, Ln.row, e16, e17, q1, q2, e18, e19, e20, e21, e22, e23, e24, e25, e26, e27, e28, e29, e30, List.length_map, hlt, hr, hnum, ety30, ety28, aeq30, aeq28]
      · simp only [zF, if_false] at e20
        simp only [go_sem, reduceIte, Nat.reduceEqDiff, Nat.reduceAdd, Nat.reduceMul, Nat.reduceSub, Nat.reduceLeDiff, Nat.reduceLT, Nat.reduceBEq, reduceCtorEq, Net.cells, Ln.row, e16, e17, q1, q2, e18, e19, e20, e21, e22, e23, e24, e25, e26, e27, e29, e30, List.length_map, hlt, hr, hnum, zF, ety30, ety28, aeq30, aeq28]

end Go.Sim
