/-
The parts NetV8, NetV9, NetV10, NetV11, NetV12, NetW4, NetV13, NetX2, NetX3, NetV14, NetX6, NetV15, NetX7, NetX8, NetY1, NetY2, NetY3, NetY4, NetY6 of one proof, joined: each begins with a remark that says what it shows.
-/
import Derived.Test.YtepaopekeidlmaaGreatDoorT14
set_option linter.unusedSimpArgs false
set_option linter.unusedVariables false
open Nat (reduceEqDiff reduceAdd reduceMul reduceSub reduceLeDiff reduceLT)

/-
Ways: a route offered to all ends, by the program.
-/
-- INJ Leg.row_iff lgs_iff
namespace Go.Sim
open Go Go.Proofs
set_option maxRecDepth 100000
set_option maxHeartbeats 64000000
variable {P:FuncId→Option (List AV→Option AV)}
theorem r229 (h151 : P 151 = some p151) (h203 : P 203 = some p203) (h204 : P 204 = some p204) (n : Net) (hn : n.Ok) (hsw : n.sws.length ≤ maxRows) (f : Pt) (w : List Leg) (L : Labs) (hw : w.length ≤ 16)
 (hsum : ∀ p, p ∈ ends (endE n) n.sws.length → wrapq .i64 (Int.add (wSum w) (legW ⟨p.1, f.2, p.2⟩)) = wSum (w ++ [⟨p.1, f.2, p.2⟩])) (hL : ∀ p v, lk L p = some v → v.length ≤ 17)
 (lo b0 b1 id : Nat) (H : Heap) (hlo : lo ≤ id) (hloH : lo ≤ H.n) (c0 : b0 < H.n) (c1 : b1 < H.n) (ci : id < H.n) (ne0 : b0 ≠ id) (ne1 : b1 ≠ id) (s0 : H.get b0 = .cells n.cells 40) (s1 : H.get b1 = .cells [.map id] 316) (si : H.get id = .map (lmap L)) :
 ∃ v H', R (NC.withPrims P) (.call lo 229 [.agg [.str f.1, .int .i64 f.2], .agg [.ps .unk (w.map Leg.row), .int .i64 (wSum w)], .ptr b0 0, .ptr b1 0] H) = some (.ofVal v H') ∧ v = .bool (offers (findI n.lines) f w (ends (endE n) n.sws.length) (L, false)).2 ∧
   H'.get id = .map (lmap (offers (findI n.lines) f w (ends (endE n) n.sws.length) (L, false)).1) ∧ H.n ≤ H'.n ∧ (∀ j, j < H.n → j ≠ id → H'.get j = H.get j) ∧ ∀ p v, lk (offers (findI n.lines) f w (ends (endE n) n.sws.length) (L, false)).1 p = some v → v.length ≤ 17 := by
 refine R_of_body (C := NC.withPrims P) (f := 229) (lo := lo) (args := [.agg [.str f.1, .int .i64 f.2], .agg [.ps .unk (w.map Leg.row), .int .i64 (wSum w)], .ptr b0 0, .ptr b1 0]) (H := H) (fn := Tryz.f229) (Q := fun v H' => v = .bool (offers (findI n.lines) f w (ends (endE n) n.sws.length) (L, false)).2 ∧
  H'.get id = .map (lmap (offers (findI n.lines) f w (ends (endE n) n.sws.length) (L, false)).1) ∧ H.n ≤ H'.n ∧ (∀ j, j < H.n → j ≠ id → H'.get j = H.get j) ∧ ∀ p v, lk (offers (findI n.lines) f w (ends (endE n) n.sws.length) (L, false)).1 p = some v → v.length ≤ 17) (by kernel_rfl) Tryz.func229 rfl rfl ?_
 have x1 : (b0 = H.n) = False := by simp only [eq_iff_iff, iff_false]; omega
 have x2 : (b0 = H.n + 1) = False := by simp only [eq_iff_iff, iff_false]; omega
 have x3 : (id = H.n) = False := by simp only [eq_iff_iff, iff_false]; omega
 have x4 : (id = H.n + 1) = False := by simp only [eq_iff_iff, iff_false]; omega
 simp only [Net.cells] at s0
 simp only [go_sem, reduceIte, reduceEqDiff, reduceAdd, reduceMul, reduceSub, reduceLeDiff, reduceLT, Nat.reduceBEq, reduceCtorEq, s0, x1, x2]
 refine W_for (fun i T H' M => M = [] ∧ getT T 2 = .ptr b0 0 ∧ getT T 3 = .ptr b1 0 ∧ getT T 4 = .ptr H.n 0 ∧ getT T 5 = .ptr (H.n + 1) 0 ∧ getT T 7 = .bool (offers (findI n.lines) f w (ends (endE n) i) (L, false)).2 ∧ getT T 16 = .ps .unk (n.sws.map Sw.row) ∧ getT T 17 = i64 (n.sws.length : Nat) ∧ getT T 18 = i64 (i : Nat) ∧ H.n + 1 < H'.n ∧ H'.get H.n = .cells [.str f.1, .int .i64 f.2] 45 ∧ H'.get (H.n + 1) = .cells [.ps .unk (w.map Leg.row), .int .i64 (wSum w)] 246 ∧
  H'.get id = .map (lmap (offers (findI n.lines) f w (ends (endE n) i) (L, false)).1) ∧ (∀ j, j < H.n → j ≠ id → H'.get j = H.get j) ∧ ∀ p v, lk (offers (findI n.lines) f w (ends (endE n) i) (L, false)).1 p = some v → v.length ≤ 17) n.sws.length ?_ ?_ ?_
 · simp only [go_sem, reduceIte, reduceEqDiff, reduceAdd, reduceMul, reduceSub, reduceLeDiff, reduceLT, Nat.reduceBEq, reduceCtorEq, List.length_map, x3, x4]
   refine ⟨rfl, si, fun j h1 h2 => ?_, hL⟩
   rw [if_neg (by omega), if_neg (by omega)]
 · rintro i T H1 M hk ⟨rfl, g2, g3, g4, g5, g7, g16, g17, g18, pn, p4, p5, pi, pO, pL⟩
   obtain ⟨sw, hsx⟩ : ∃ p, n.sws[i]? = some p := ⟨n.sws[i], by simp⟩
   have hr := map_at (f := Sw.row) hsx
   have hw18 := wrap_succ hk hsw
   have hE : endE n i = fun k => if k then (sw.other, endM n sw) else (sw.line, sw.metre) := by funext k; unfold endE; rw [hsx]
   have e151 := pe151 n sw hn
   have hb0 : H1.get b0 = .cells n.cells 40 := by rw [pO b0 c0 ne0]; exact s0
   have hend : ends (endE n) (i + 1) = ends (endE n) i ++ [endE n i false, endE n i true] := rfl
   have hend2 : offers (findI n.lines) f w (ends (endE n) (i + 1)) (L, false) = offers (findI n.lines) f w (([endE n i false, endE n i true] : List Pt).take 2) (offers (findI n.lines) f w (ends (endE n) i) (L, false)) := by
    rw [hend]
    unfold offers
    rw [List.foldl_append]; rfl
   have y1 : (b0 = H1.n) = False := by simp only [eq_iff_iff, iff_false]; omega
   have y2 : (id = H1.n) = False := by simp only [eq_iff_iff, iff_false]; omega
   have y3 : (H.n = H1.n) = False := by simp only [eq_iff_iff, iff_false]; omega
   have y4 : (H.n + 1 = H1.n) = False := by simp only [eq_iff_iff, iff_false]; omega
   have hlo1 : (lo ≤ H1.n) = True := by simp only [eq_iff_iff, iff_true]; omega
   generalize endM n sw = EM at e151 hE
   obtain ⟨w1, w2, w3, w4, w5⟩ := sw
   simp only at hE
   simp only [Sw.row, Net.cells] at hr e151 hb0
   simp only [go_sem, reduceIte, reduceEqDiff, reduceAdd, reduceMul, reduceSub, reduceLeDiff, reduceLT, Nat.reduceBEq, reduceCtorEq, g2, g3, g4, g5, g7, g16, g17, g18, List.length_map, hk, hr, hb0, y1, hlo1, en151 h151, Net.cells, e151]
   refine W_for (fun k T' H2 M => M = [] ∧ getT T' 2 = .ptr b0 0 ∧ getT T' 3 = .ptr b1 0 ∧ getT T' 4 = .ptr H.n 0 ∧ getT T' 5 = .ptr (H.n + 1) 0 ∧ getT T' 7 = .bool (offers (findI n.lines) f w (([endE n i false, endE n i true] : List Pt).take k) (offers (findI n.lines) f w (ends (endE n) i) (L, false))).2 ∧ getT T' 16 = .ps .unk (n.sws.map Sw.row) ∧ getT T' 17 = i64 (n.sws.length : Nat) ∧ getT T' 18 = i64 (i : Nat) ∧ getT T' 24 = .agg [.str w2, .int .i64 w3, .str w4, .int .i64 EM] ∧ getT T' 25 = i64 (k : Nat) ∧ H.n + 1 < H2.n ∧ H2.get H.n = .cells [.str f.1, .int .i64 f.2] 45 ∧ H2.get (H.n + 1) = .cells [.ps .unk (w.map Leg.row), .int .i64 (wSum w)] 246 ∧
    H2.get id = .map (lmap (offers (findI n.lines) f w (([endE n i false, endE n i true] : List Pt).take k) (offers (findI n.lines) f w (ends (endE n) i) (L, false))).1) ∧ (∀ j, j < H.n → j ≠ id → H2.get j = H.get j) ∧ ∀ p v, lk (offers (findI n.lines) f w (([endE n i false, endE n i true] : List Pt).take k) (offers (findI n.lines) f w (ends (endE n) i) (L, false))).1 p = some v → v.length ≤ 17) 2 ?_ ?_ ?_
   · simp only [go_sem, reduceIte, reduceEqDiff, reduceAdd, reduceMul, reduceSub, reduceLeDiff, reduceLT, Nat.reduceBEq, reduceCtorEq, g2, g3, g4, g5, g7, g16, g17, g18, y2, y3, y4, List.take_zero]
     refine ⟨rfl, by omega, p4, p5, pi, fun j h1 h2 => ?_, pL⟩
     rw [if_neg (by omega), if_neg (by omega)]; exact pO j h1 h2
   rintro k T' H2 M hk2 ⟨rfl, i2, i3, i4, i5, i7, i16, i17, i18, i24, i25, qn, q4, q5, qi, qO, qL⟩
   have qb0 : H2.get b0 = .cells [.ps .unk (n.lines.map Ln.row), .ps .unk (n.sws.map Sw.row), .ps .unk (n.sts.map Stc.row)] 40 := by rw [qO b0 c0 ne0]; exact s0
   have qb1 : H2.get b1 = .cells [.map id] 316 := by rw [qO b1 c1 ne1]; exact s1
   have d0 : (b0 = H2.n) = False := by simp only [eq_iff_iff, iff_false]; omega
   have d1 : (b0 = H2.n + 1) = False := by simp only [eq_iff_iff, iff_false]; omega
   have d2 : (b0 = H2.n + 1 + 1) = False := by simp only [eq_iff_iff, iff_false]; omega
   have d3 : (b1 = H2.n) = False ∧ (b1 = H2.n + 1) = False ∧ (b1 = H2.n + 1 + 1) = False := by simp only [eq_iff_iff, iff_false]; omega
   have d4 : (id = H2.n) = False := by simp only [eq_iff_iff, iff_false]; omega
   have d5 : (id = H2.n + 1) = False := by simp only [eq_iff_iff, iff_false]; omega
   have d6 : (id = H2.n + 1 + 1) = False := by simp only [eq_iff_iff, iff_false]; omega
   have d7 : (H.n = H2.n) = False ∧ (H.n = H2.n + 1) = False ∧ (H.n = H2.n + 1 + 1) = False := by simp only [eq_iff_iff, iff_false]; omega
   have d8 : (H.n + 1 = H2.n) = False ∧ (H.n + 1 = H2.n + 1) = False ∧ (H.n + 1 = H2.n + 1 + 1) = False := by simp only [eq_iff_iff, iff_false]; omega
   have d9 : (H.n = id) = False ∧ (H.n + 1 = id) = False := by simp only [eq_iff_iff, iff_false]; omega
   have da : (b0 = id) = False := by simp [ne0]
   have db : (b1 = id) = False := by simp [ne1]
   have dc : (H2.n = id) = False ∧ (H2.n + 1 = id) = False ∧ (H2.n + 1 + 1 = id) = False := by simp only [eq_iff_iff, iff_false]; omega
   have hjn : ∀ j, j < H.n → (j = H2.n) = False ∧ (j = H2.n + 1) = False ∧ (j = H2.n + 1 + 1) = False := fun j h => by simp only [eq_iff_iff, iff_false]; omega
   have hlo1 : (lo ≤ H2.n) = True := by simp only [eq_iff_iff, iff_true]; omega
   have hlo2' : (lo ≤ H2.n + 1) = True := by simp only [eq_iff_iff, iff_true]; omega
   have hlo3 : (lo ≤ H2.n + 1 + 1) = True := by simp only [eq_iff_iff, iff_true]; omega
   have hloi : (lo ≤ id) = True := by simp [hlo]
   rcases (show k = 0 ∨ k = 1 by omega) with rfl | rfl
   · -- end 0
     have hpt : (w2, w3) = endE n i false := by rw [hE]; rfl
     have hmem : (w2, w3) ∈ ends (endE n) n.sws.length := (mem_ends _).2 ⟨i, false, hk, hpt⟩
     have hs0 := hsum _ hmem
     have hw25 : wrapq .i64 (Int.add ((0 : Nat) : Int) 1) = ((0 + 1 : Nat) : Int) := rfl
     have hstep : offers (findI n.lines) f w (([endE n i false, endE n i true] : List Pt).take (0 + 1)) (offers (findI n.lines) f w (ends (endE n) i) (L, false)) = offer1 (findI n.lines) f w (w2, w3) (offers (findI n.lines) f w (([endE n i false, endE n i true] : List Pt).take 0) (offers (findI n.lines) f w (ends (endE n) i) (L, false))) := by rw [hpt]; rfl
     rw [hstep]
     generalize offers (findI n.lines) f w (([endE n i false, endE n i true] : List Pt).take 0) (offers (findI n.lines) f w (ends (endE n) i) (L, false)) = s at i7 qi qL ⊢
     obtain ⟨LL, bb⟩ := s
     simp only at i7 qi qL
     have hlook := lookL (H := ((((H2.push (.cells [.str [], .int .i64 0] 45)).set H2.n (.cells [.str w2, .int .i64 w3] 45)).push (.cells [.ps .nil [], .int .i64 0] 246)).set (H2.n + 1) (.cells [.ps .unk ((w ++ [(⟨w2, f.2, w3⟩ : Leg)]).map Leg.row), .int .i64 (wSum (w ++ [(⟨w2, f.2, w3⟩ : Leg)]))] 246))) (id := id) (L := LL) (by simp only [go_sem, reduceIte, reduceEqDiff, reduceAdd, reduceMul, reduceSub, reduceLeDiff, reduceLT, Nat.reduceBEq, reduceCtorEq, d4, d5, d6]; exact qi) (w2, w3)
     have hup : ∀ old, amapUpdate NC.P lo ((((((H2.push (.cells [.str [], .int .i64 0] 45)).set H2.n (.cells [.str w2, .int .i64 w3] 45)).push (.cells [.ps .nil [], .int .i64 0] 246)).set (H2.n + 1) (.cells [.ps .unk ((w ++ [(⟨w2, f.2, w3⟩ : Leg)]).map Leg.row), .int .i64 (wSum (w ++ [(⟨w2, f.2, w3⟩ : Leg)]))] 246)).push (.cells [.ps .nil [], .int .i64 0] 246)).set (H2.n + 1 + 1) (.cells old 246)) 316 (.map id) (.agg [.str w2, .int .i64 w3]) (.agg [.ps .unk ((w ++ [(⟨w2, f.2, w3⟩ : Leg)]).map Leg.row), .int .i64 (wSum (w ++ [(⟨w2, f.2, w3⟩ : Leg)]))]) = some (((((((H2.push (.cells [.str [], .int .i64 0] 45)).set H2.n (.cells [.str w2, .int .i64 w3] 45)).push (.cells [.ps .nil [], .int .i64 0] 246)).set (H2.n + 1) (.cells [.ps .unk ((w ++ [(⟨w2, f.2, w3⟩ : Leg)]).map Leg.row), .int .i64 (wSum (w ++ [(⟨w2, f.2, w3⟩ : Leg)]))] 246)).push (.cells [.ps .nil [], .int .i64 0] 246)).set (H2.n + 1 + 1) (.cells old 246)).set id (.map (lmap (up LL (w2, w3) (w ++ [(⟨w2, f.2, w3⟩ : Leg)]))))) := fun old => updL (L := LL) (by simp only [go_sem, reduceIte, reduceEqDiff, reduceAdd, reduceMul, reduceSub, reduceLeDiff, reduceLT, Nat.reduceBEq, reduceCtorEq, d4, d5, d6]; exact qi) hlo (w2, w3) (w ++ [(⟨w2, f.2, w3⟩ : Leg)]) rfl
     have e204 := pe204 w (wSum w) ⟨w2, f.2, w3⟩ (by unfold maxRows; omega)
     rw [hs0] at e204
     have ho : offer1 (findI n.lines) f w (w2, w3) (LL, bb) = if w2 = f.1 then (match lk LL (w2, w3) with
      | none => (up LL (w2, w3) (w ++ [(⟨w2, f.2, w3⟩ : Leg)]), true)
      | some old => if wLt (findI n.lines) (w ++ [(⟨w2, f.2, w3⟩ : Leg)]) old then (up LL (w2, w3) (w ++ [(⟨w2, f.2, w3⟩ : Leg)]), true) else (LL, bb)) else (LL, bb) := rfl
     rw [ho]
     have hup17 : ∀ q v, lk (up LL (w2, w3) (w ++ [(⟨w2, f.2, w3⟩ : Leg)])) q = some v → v.length ≤ 17 := by
      intro q v hq
      rw [lk_up] at hq
      split at hq
      · cases hq; rw [List.length_append]; simp; omega
      · exact qL q v hq
     have hol : ∀ j, j < H.n → j ≠ id → ∀ (A : ABlk), H2.get j = H.get j := fun j h1 h2 _ => qO j h1 h2
     clear hstep hpt hmem hs0 ho
     simp only [Leg.row] at e204
     cases hB : beqL w2 f.1 with
     | false =>
       have hne : ¬ (w2 = f.1) := fun e => by rw [e, beqL_self] at hB; cases hB
       rw [if_neg hne]
       simp only [go_sem, reduceIte, reduceEqDiff, reduceAdd, reduceMul, reduceSub, reduceLeDiff, reduceLT, Nat.reduceBEq, reduceCtorEq, i2, i3, i4, i5, i7, i16, i17, i18, i24, i25, q4, q5, qb0, qb1, List.length_map, hk, d0, d1, d2, d3, d4, d5, d6, d7, d8, d9, da, db, dc, hlo1, hlo2', hlo3, hloi, hw25, i02, i12, cast1, cast2, wl01, wl12, hB]
       exact ⟨by omega, qi, fun j h1 h2 => by obtain ⟨z1, z2, z3⟩ := hjn j h1; simp only [z1, z2, z3, h2, if_false]; exact qO j h1 h2, qL⟩
     | true =>
       have heq : w2 = f.1 := (beqL_iff _ _).1 hB
       rw [if_pos heq]
       cases hl : lk LL (w2, w3) with
       | none =>
         rw [hl] at hlook
         simp only [] at hlook ⊢
         have hup := hup [.ps .nil [], .int .i64 0]
         generalize (w ++ [(⟨w2, f.2, w3⟩ : Leg)]).map Leg.row = NR at e204 hlook hup
         generalize wSum (w ++ [(⟨w2, f.2, w3⟩ : Leg)]) = NS at e204 hlook hup
         simp only [go_sem, reduceIte, reduceEqDiff, reduceAdd, reduceMul, reduceSub, reduceLeDiff, reduceLT, Nat.reduceBEq, reduceCtorEq, i2, i3, i4, i5, i7, i16, i17, i18, i24, i25, q4, q5, qb0, qb1, List.length_map, hk, d0, d1, d2, d3, d4, d5, d6, d7, d8, d9, da, db, dc, hlo1, hlo2', hlo3, hloi, hw25, i02, i12, cast1, cast2, wl01, wl12, hB, en204 h204, e204, hlook, hup]
         exact ⟨by omega, fun j h1 h2 => by obtain ⟨z1, z2, z3⟩ := hjn j h1; simp only [z1, z2, z3, h2, if_false]; exact qO j h1 h2, hup17⟩
       | some old =>
         rw [hl] at hlook
         have hol17 := qL _ _ hl
         have e203 := pe203 n (w ++ [(⟨w2, f.2, w3⟩ : Leg)]) (wSum (w ++ [(⟨w2, f.2, w3⟩ : Leg)])) old (wSum old) ⟨hn.lines, by rw [List.length_append]; unfold maxRows; simp; omega, by unfold maxRows; omega⟩
         have hcmp := cmpRt_lt n (w ++ [(⟨w2, f.2, w3⟩ : Leg)]) old
         generalize cmpRt n (w ++ [(⟨w2, f.2, w3⟩ : Leg)]) (wSum (w ++ [(⟨w2, f.2, w3⟩ : Leg)])) old (wSum old) = C at e203 hcmp
         simp only [rtC] at hlook
         have hup := hup [.ps .unk (old.map Leg.row), .int .i64 (wSum old)]
         simp only [Net.cells] at e203
         generalize old.map Leg.row = OR at e203 hlook hup
         generalize wSum old = OS at e203 hlook hup
         simp only []
         cases hlt : wLt (findI n.lines) (w ++ [(⟨w2, f.2, w3⟩ : Leg)]) old with
         | true =>
           have hC : (C < 0) = True := by rw [hlt] at hcmp; simpa using hcmp
           rw [if_pos rfl]
           generalize (w ++ [(⟨w2, f.2, w3⟩ : Leg)]).map Leg.row = NR at e203 e204 hlook hup
           generalize wSum (w ++ [(⟨w2, f.2, w3⟩ : Leg)]) = NS at e203 e204 hlook hup
           simp only [go_sem, reduceIte, reduceEqDiff, reduceAdd, reduceMul, reduceSub, reduceLeDiff, reduceLT, Nat.reduceBEq, reduceCtorEq, i2, i3, i4, i5, i7, i16, i17, i18, i24, i25, q4, q5, qb0, qb1, List.length_map, hk, d0, d1, d2, d3, d4, d5, d6, d7, d8, d9, da, db, dc, hlo1, hlo2', hlo3, hloi, hw25, i02, i12, cast1, cast2, wl01, wl12, hB, en204 h204, e204, hlook, Net.cells, en203 h203, e203, hC, hup]
           exact ⟨by omega, fun j h1 h2 => by obtain ⟨z1, z2, z3⟩ := hjn j h1; simp only [z1, z2, z3, h2, if_false]; exact qO j h1 h2, hup17⟩
         | false =>
           have hC : (C < 0) = False := by rw [hlt] at hcmp; simpa using hcmp
           rw [if_neg (by simp)]
           generalize (w ++ [(⟨w2, f.2, w3⟩ : Leg)]).map Leg.row = NR at e203 e204 hlook hup
           generalize wSum (w ++ [(⟨w2, f.2, w3⟩ : Leg)]) = NS at e203 e204 hlook hup
           simp only [go_sem, reduceIte, reduceEqDiff, reduceAdd, reduceMul, reduceSub, reduceLeDiff, reduceLT, Nat.reduceBEq, reduceCtorEq, i2, i3, i4, i5, i7, i16, i17, i18, i24, i25, q4, q5, qb0, qb1, List.length_map, hk, d0, d1, d2, d3, d4, d5, d6, d7, d8, d9, da, db, dc, hlo1, hlo2', hlo3, hloi, hw25, i02, i12, cast1, cast2, wl01, wl12, hB, en204 h204, e204, hlook, Net.cells, en203 h203, e203, hC]
           exact ⟨by omega, qi, fun j h1 h2 => by obtain ⟨z1, z2, z3⟩ := hjn j h1; simp only [z1, z2, z3, h2, if_false]; exact qO j h1 h2, qL⟩
   · -- end 1
     have hpt : (w4, EM) = endE n i true := by rw [hE]; rfl
     have hmem : (w4, EM) ∈ ends (endE n) n.sws.length := (mem_ends _).2 ⟨i, true, hk, hpt⟩
     have hs0 := hsum _ hmem
     have hw25 : wrapq .i64 (Int.add ((1 : Nat) : Int) 1) = ((1 + 1 : Nat) : Int) := rfl
     have hstep : offers (findI n.lines) f w (([endE n i false, endE n i true] : List Pt).take (1 + 1)) (offers (findI n.lines) f w (ends (endE n) i) (L, false)) = offer1 (findI n.lines) f w (w4, EM) (offers (findI n.lines) f w (([endE n i false, endE n i true] : List Pt).take 1) (offers (findI n.lines) f w (ends (endE n) i) (L, false))) := by rw [hpt]; rfl
     rw [hstep]
     generalize offers (findI n.lines) f w (([endE n i false, endE n i true] : List Pt).take 1) (offers (findI n.lines) f w (ends (endE n) i) (L, false)) = s at i7 qi qL ⊢
     obtain ⟨LL, bb⟩ := s
     simp only at i7 qi qL
     have hlook := lookL (H := ((((H2.push (.cells [.str [], .int .i64 0] 45)).set H2.n (.cells [.str w4, .int .i64 EM] 45)).push (.cells [.ps .nil [], .int .i64 0] 246)).set (H2.n + 1) (.cells [.ps .unk ((w ++ [(⟨w4, f.2, EM⟩ : Leg)]).map Leg.row), .int .i64 (wSum (w ++ [(⟨w4, f.2, EM⟩ : Leg)]))] 246))) (id := id) (L := LL) (by simp only [go_sem, reduceIte, reduceEqDiff, reduceAdd, reduceMul, reduceSub, reduceLeDiff, reduceLT, Nat.reduceBEq, reduceCtorEq, d4, d5, d6]; exact qi) (w4, EM)
     have hup : ∀ old, amapUpdate NC.P lo ((((((H2.push (.cells [.str [], .int .i64 0] 45)).set H2.n (.cells [.str w4, .int .i64 EM] 45)).push (.cells [.ps .nil [], .int .i64 0] 246)).set (H2.n + 1) (.cells [.ps .unk ((w ++ [(⟨w4, f.2, EM⟩ : Leg)]).map Leg.row), .int .i64 (wSum (w ++ [(⟨w4, f.2, EM⟩ : Leg)]))] 246)).push (.cells [.ps .nil [], .int .i64 0] 246)).set (H2.n + 1 + 1) (.cells old 246)) 316 (.map id) (.agg [.str w4, .int .i64 EM]) (.agg [.ps .unk ((w ++ [(⟨w4, f.2, EM⟩ : Leg)]).map Leg.row), .int .i64 (wSum (w ++ [(⟨w4, f.2, EM⟩ : Leg)]))]) = some (((((((H2.push (.cells [.str [], .int .i64 0] 45)).set H2.n (.cells [.str w4, .int .i64 EM] 45)).push (.cells [.ps .nil [], .int .i64 0] 246)).set (H2.n + 1) (.cells [.ps .unk ((w ++ [(⟨w4, f.2, EM⟩ : Leg)]).map Leg.row), .int .i64 (wSum (w ++ [(⟨w4, f.2, EM⟩ : Leg)]))] 246)).push (.cells [.ps .nil [], .int .i64 0] 246)).set (H2.n + 1 + 1) (.cells old 246)).set id (.map (lmap (up LL (w4, EM) (w ++ [(⟨w4, f.2, EM⟩ : Leg)]))))) := fun old => updL (L := LL) (by simp only [go_sem, reduceIte, reduceEqDiff, reduceAdd, reduceMul, reduceSub, reduceLeDiff, reduceLT, Nat.reduceBEq, reduceCtorEq, d4, d5, d6]; exact qi) hlo (w4, EM) (w ++ [(⟨w4, f.2, EM⟩ : Leg)]) rfl
     have e204 := pe204 w (wSum w) ⟨w4, f.2, EM⟩ (by unfold maxRows; omega)
     rw [hs0] at e204
     have ho : offer1 (findI n.lines) f w (w4, EM) (LL, bb) = if w4 = f.1 then (match lk LL (w4, EM) with
      | none => (up LL (w4, EM) (w ++ [(⟨w4, f.2, EM⟩ : Leg)]), true)
      | some old => if wLt (findI n.lines) (w ++ [(⟨w4, f.2, EM⟩ : Leg)]) old then (up LL (w4, EM) (w ++ [(⟨w4, f.2, EM⟩ : Leg)]), true) else (LL, bb)) else (LL, bb) := rfl
     rw [ho]
     have hup17 : ∀ q v, lk (up LL (w4, EM) (w ++ [(⟨w4, f.2, EM⟩ : Leg)])) q = some v → v.length ≤ 17 := by
      intro q v hq
      rw [lk_up] at hq
      split at hq
      · cases hq; rw [List.length_append]; simp; omega
      · exact qL q v hq
     have hol : ∀ j, j < H.n → j ≠ id → ∀ (A : ABlk), H2.get j = H.get j := fun j h1 h2 _ => qO j h1 h2
     clear hstep hpt hmem hs0 ho
     simp only [Leg.row] at e204
     cases hB : beqL w4 f.1 with
     | false =>
       have hne : ¬ (w4 = f.1) := fun e => by rw [e, beqL_self] at hB; cases hB
       rw [if_neg hne]
       simp only [go_sem, reduceIte, reduceEqDiff, reduceAdd, reduceMul, reduceSub, reduceLeDiff, reduceLT, Nat.reduceBEq, reduceCtorEq, i2, i3, i4, i5, i7, i16, i17, i18, i24, i25, q4, q5, qb0, qb1, List.length_map, hk, d0, d1, d2, d3, d4, d5, d6, d7, d8, d9, da, db, dc, hlo1, hlo2', hlo3, hloi, hw25, i02, i12, cast1, cast2, wl01, wl12, hB]
       exact ⟨by omega, qi, fun j h1 h2 => by obtain ⟨z1, z2, z3⟩ := hjn j h1; simp only [z1, z2, z3, h2, if_false]; exact qO j h1 h2, qL⟩
     | true =>
       have heq : w4 = f.1 := (beqL_iff _ _).1 hB
       rw [if_pos heq]
       cases hl : lk LL (w4, EM) with
       | none =>
         rw [hl] at hlook
         simp only [] at hlook ⊢
         have hup := hup [.ps .nil [], .int .i64 0]
         generalize (w ++ [(⟨w4, f.2, EM⟩ : Leg)]).map Leg.row = NR at e204 hlook hup
         generalize wSum (w ++ [(⟨w4, f.2, EM⟩ : Leg)]) = NS at e204 hlook hup
         simp only [go_sem, reduceIte, reduceEqDiff, reduceAdd, reduceMul, reduceSub, reduceLeDiff, reduceLT, Nat.reduceBEq, reduceCtorEq, i2, i3, i4, i5, i7, i16, i17, i18, i24, i25, q4, q5, qb0, qb1, List.length_map, hk, d0, d1, d2, d3, d4, d5, d6, d7, d8, d9, da, db, dc, hlo1, hlo2', hlo3, hloi, hw25, i02, i12, cast1, cast2, wl01, wl12, hB, en204 h204, e204, hlook, hup]
         exact ⟨by omega, fun j h1 h2 => by obtain ⟨z1, z2, z3⟩ := hjn j h1; simp only [z1, z2, z3, h2, if_false]; exact qO j h1 h2, hup17⟩
       | some old =>
         rw [hl] at hlook
         have hol17 := qL _ _ hl
         have e203 := pe203 n (w ++ [(⟨w4, f.2, EM⟩ : Leg)]) (wSum (w ++ [(⟨w4, f.2, EM⟩ : Leg)])) old (wSum old) ⟨hn.lines, by rw [List.length_append]; unfold maxRows; simp; omega, by unfold maxRows; omega⟩
         have hcmp := cmpRt_lt n (w ++ [(⟨w4, f.2, EM⟩ : Leg)]) old
         generalize cmpRt n (w ++ [(⟨w4, f.2, EM⟩ : Leg)]) (wSum (w ++ [(⟨w4, f.2, EM⟩ : Leg)])) old (wSum old) = C at e203 hcmp
         simp only [rtC] at hlook
         have hup := hup [.ps .unk (old.map Leg.row), .int .i64 (wSum old)]
         simp only [Net.cells] at e203
         generalize old.map Leg.row = OR at e203 hlook hup
         generalize wSum old = OS at e203 hlook hup
         simp only []
         cases hlt : wLt (findI n.lines) (w ++ [(⟨w4, f.2, EM⟩ : Leg)]) old with
         | true =>
           have hC : (C < 0) = True := by rw [hlt] at hcmp; simpa using hcmp
           rw [if_pos rfl]
           generalize (w ++ [(⟨w4, f.2, EM⟩ : Leg)]).map Leg.row = NR at e203 e204 hlook hup
           generalize wSum (w ++ [(⟨w4, f.2, EM⟩ : Leg)]) = NS at e203 e204 hlook hup
           simp only [go_sem, reduceIte, reduceEqDiff, reduceAdd, reduceMul, reduceSub, reduceLeDiff, reduceLT, Nat.reduceBEq, reduceCtorEq, i2, i3, i4, i5, i7, i16, i17, i18, i24, i25, q4, q5, qb0, qb1, List.length_map, hk, d0, d1, d2, d3, d4, d5, d6, d7, d8, d9, da, db, dc, hlo1, hlo2', hlo3, hloi, hw25, i02, i12, cast1, cast2, wl01, wl12, hB, en204 h204, e204, hlook, Net.cells, en203 h203, e203, hC, hup]
           exact ⟨by omega, fun j h1 h2 => by obtain ⟨z1, z2, z3⟩ := hjn j h1; simp only [z1, z2, z3, h2, if_false]; exact qO j h1 h2, hup17⟩
         | false =>
           have hC : (C < 0) = False := by rw [hlt] at hcmp; simpa using hcmp
           rw [if_neg (by simp)]
           generalize (w ++ [(⟨w4, f.2, EM⟩ : Leg)]).map Leg.row = NR at e203 e204 hlook hup
           generalize wSum (w ++ [(⟨w4, f.2, EM⟩ : Leg)]) = NS at e203 e204 hlook hup
           simp only [go_sem, reduceIte, reduceEqDiff, reduceAdd, reduceMul, reduceSub, reduceLeDiff, reduceLT, Nat.reduceBEq, reduceCtorEq, i2, i3, i4, i5, i7, i16, i17, i18, i24, i25, q4, q5, qb0, qb1, List.length_map, hk, d0, d1, d2, d3, d4, d5, d6, d7, d8, d9, da, db, dc, hlo1, hlo2', hlo3, hloi, hw25, i02, i12, cast1, cast2, wl01, wl12, hB, en204 h204, e204, hlook, Net.cells, en203 h203, e203, hC]
           exact ⟨by omega, qi, fun j h1 h2 => by obtain ⟨z1, z2, z3⟩ := hjn j h1; simp only [z1, z2, z3, h2, if_false]; exact qO j h1 h2, qL⟩
   rintro T' H2 M ⟨rfl, i2, i3, i4, i5, i7, i16, i17, i18, i24, i25, qn, q4, q5, qi, qO, qL⟩
   rw [← hend2] at i7 qi qL
   have h22 : (((2 : Nat) : Int) < 2) = False := by simp
   simp only [go_sem, reduceIte, reduceEqDiff, reduceAdd, reduceMul, reduceSub, reduceLeDiff, reduceLT, Nat.reduceBEq, reduceCtorEq, i2, i3, i4, i5, i7, i16, i17, i18, i25, h22, hw18]
   exact ⟨qn, q4, q5, qi, qO, qL⟩
 · rintro T H1 M ⟨rfl, g2, g3, g4, g5, g7, g16, g17, g18, pn, p4, p5, pi, pO, pL⟩
   simp only [go_sem, reduceIte, reduceEqDiff, reduceAdd, reduceMul, reduceSub, reduceLeDiff, reduceLT, Nat.reduceBEq, reduceCtorEq, g2, g3, g4, g5, g7, g16, g17, g18, Nat.lt_irrefl]
   exact ⟨pi, by omega, pO, pL⟩
end Go.Sim

/-
Ways: the best routes to all ends, by the program.
-/
-- INJ Leg.row_iff lgs_iff
namespace Go.Sim
open Go Go.Proofs
set_option maxRecDepth 100000
set_option maxHeartbeats 64000000
variable {P:FuncId→Option (List AV→Option AV)}
/-! ### Sums are small -/
def inR (x:Int):Prop:=0≤x∧x≤800000
theorem legW_len {l:Leg} (h1:inR l.fr) (h2:inR l.to):legW l=l.len∧0≤l.len∧l.len≤800000:=by
 obtain ⟨a1,a2⟩:=h1
 obtain ⟨b1,b2⟩:=h2
 have e1:Int.sub l.fr l.to=l.fr - l.to:=rfl
 have e2:Int.sub l.to l.fr=l.to - l.fr:=rfl
 unfold legW Leg.len
 rw [e1,e2,wrap_small (x:=l.fr - l.to) (by omega) (by omega),wrap_small (x:=l.to - l.fr) (by omega) (by omega)]
 unfold maxI dI
 (repeat' split)<;>omega
theorem wSum_small:∀ {w:List Leg},(∀ l ∈ w,inR l.fr∧inR l.to)→wSum w≤800000 * w.length
 | [],_=>by simp [wSum]
 | l::r,h=>by
   have ih:=wSum_small (w:=r) fun x hx=>h x (by simp [hx])
   obtain ⟨h1,h2⟩:=h l (by simp)
   have:=(legW_len h1 h2).2.2
   simp only [wSum,List.length_cons];omega
theorem legsOf_in {E:Nat→Bool→Pt} {N:Nat} (hE:∀ i k,i < N→inR (E i k).2):∀ {a:Pt} {σ:List Stp} {b:Pt},inR a.2→inR b.2→okS E N a σ b → ∀ l ∈ legsOf E a σ b,inR l.fr∧inR l.to
 | a,[],b,ha,hb,_=>by
   intro l hl
   rw [List.mem_singleton.1 hl];exact ⟨ha,hb⟩
 | a,s::r,b,ha,hb,h=>by
   intro l hl
   rcases List.mem_cons.1 hl with rfl | hl
   · exact ⟨ha,hE _ _ h.1⟩
   · exact legsOf_in hE (hE _ _ h.1) hb h.2.2 l hl
theorem sum_one {w:List Leg} {l:Leg} (hw:∀ l ∈ w,inR l.fr∧inR l.to) (hn:w.length≤16) (h1:inR l.fr) (h2:inR l.to):wrapq .i64 (Int.add (wSum w) (legW l))=wSum (w++[l]):=by
 obtain ⟨e1,e2,e3⟩:=legW_len h1 h2
 have hs:=wSum_small hw
 have h0:=wSum_nonneg w
 have e:Int.add (wSum w) l.len=wSum w+l.len:=rfl
 rw [e1,e,wSum_append]
 have:wSum [l]=l.len:=by simp [wSum]
 rw [this]
 exact wrapq_i64 (by omega) (by omega)
theorem sum_ok {n:Net} {a:Pt} {σ:List Stp} {fr:Int} (ha:inR a.2) (hE:∀ i k,i < n.sws.length→inR (endE n i k).2) {q:Pt} (h:okS (endE n) n.sws.length a σ q) (hl:σ.length≤15) (hf:inR fr) :
 inR q.2 → ∀ p ∈ ends (endE n) n.sws.length,wrapq .i64 (Int.add (wSum (legsOf (endE n) a σ q)) (legW ⟨p.1,fr,p.2⟩))=wSum (legsOf (endE n) a σ q++[⟨p.1,fr,p.2⟩]):=by
 intro hq p hp
 obtain ⟨j,m,hj,rfl⟩:=(mem_ends _).1 hp
 exact sum_one (legsOf_in hE ha hq h) (by rw [legsOf_length];omega) hf (hE j m hj)
theorem first_better {ix:List Nat→Int} {o L:Labs} (hb:better ix o L) {p:Pt} {x:List Leg} (h:∃ v,lk o p=some v∧(v=x∨wLt ix v x=true∨wLt ix x v=false)):∃ w,lk L p=some w∧(w=x∨wLt ix w x=true∨wLt ix x w=false):=by
 obtain ⟨v,h1,h2⟩:=h
 obtain ⟨u,h3,h4⟩:=hb p v h1
 refine ⟨u,h3, ?_⟩
 rcases h4 with rfl | h4
 · exact h2
 · rcases h2 with rfl | h2 | h2
   · exact .inr (.inl h4)
   · exact .inr (.inl (wLt_trans ix h4 h2))
   · right;right
     cases c:wLt ix x u with
     | false=>rfl
     | true =>
       have:=wLt_trans ix c h4
       rw [this] at h2;cases h2
def rsD (E:Nat→Bool→Pt) (N:Nat) (ix:List Nat→Int) (L:Labs) (i:Nat):Nat→Labs × Bool
 | 0=>rounds E N ix i (L,false)
 | 1=>rstep E N ix i false (rounds E N ix i (L,false))
 | _=>rstep E N ix i true (rstep E N ix i false (rounds E N ix i (L,false)))
theorem rsD_valid {E:Nat→Bool→Pt} {N:Nat} {ix:List Nat→Int} {a:Pt} {L:Labs} (h:LabV E N a L) {i:Nat} (hi:i < N):∀ k,k≤2→LabV E N a (rsD E N ix L i k).1
 | 0,_=>(rounds_rs (ix:=ix) (by omega) h).valid
 | 1,_=>(rstep_rs (ix:=ix) hi false (rounds_rs (ix:=ix) (by omega) h).valid).valid
 | 2,_=>(rstep_rs (ix:=ix) hi true (rstep_rs (ix:=ix) hi false (rounds_rs (ix:=ix) (by omega) h).valid).valid).valid
 | n+3,h=>absurd h (by omega)
theorem ab334 (a c a' c':List Nat) (b d b' d':Int):abuild NC.P 334 [(0,.agg [.str a,.int .i64 b,.str c,.int .i64 d]),(1,.agg [.str a',.int .i64 b',.str c',.int .i64 d'])]=some (.agg [.str a,.int .i64 b,.str c,.int .i64 d,.str a',.int .i64 b',.str c',.int .i64 d']):=by kernel_rfl
theorem evalO_nilm {C:Cfg} {T:TT AV}:evalO C T (.const (.map none))=some .nilm:=rfl
theorem r185 (h151:P 151=some p151) (h203:P 203=some p203) (h204:P 204=some p204) (h229:P 229=none) (n:Net) (hn:n.Ok) (hsw:n.sws.length≤maxRows) (a:Pt) (hRa:inR a.2) (hRE:∀ i k,i < n.sws.length→inR (endE n i k).2) (lo:Nat) (H:Heap) (hlo:lo≤H.n) :
 ∃ v H',R (NC.withPrims P) (.call lo 185 [.agg n.cells,.agg [.str a.1,.int .i64 a.2]] H)=some (.ofVal v H') ∧ ∃ L,v=.map (H.n+2)∧H.n+2 < H'.n∧H'.get (H.n+2)=.map (lmap L)∧Lab (endE n) n.sws.length (findI n.lines) a (lk L)∧LabV (endE n) n.sws.length a L ∧ ∀ j,j < H.n→H'.get j=H.get j:=by
 refine R_of_body (C:=NC.withPrims P) (f:=185) (lo:=lo) (args:=[.agg n.cells,.agg [.str a.1,.int .i64 a.2]]) (H:=H) (fn:=Tryz.f185) (Q:=fun v H'=>∃ L,v=.map (H.n+2)∧H.n+2 < H'.n∧H'.get (H.n+2)=.map (lmap L)∧Lab (endE n) n.sws.length (findI n.lines) a (lk L)∧LabV (endE n) n.sws.length a L ∧ ∀ j,j < H.n→H'.get j=H.get j) (by kernel_rfl) Tryz.func185 rfl rfl ?_
 have hend1:∀ s,(rounds (endE n) n.sws.length (findI n.lines) 0 s)=s:=fun s=>rfl
 obtain ⟨v1,H1,r1,rfl,r2,r3,r4,r5⟩:=r229 (P:=P) h151 h203 h204 n hn hsw a [] [] (by simp) (by
  intro p hp
  obtain ⟨j,m,hj,rfl⟩:=(mem_ends _).1 hp
  exact sum_one (w:=[]) (fun l hl=>by cases hl) (by simp) hRa (hRE j m hj)) (fun p v h=>by cases h)
  lo H.n (H.n+3) (H.n+2) (((((H.push (.cells n.cells 40)).push (.cells [.str a.1,.int .i64 a.2] 45)).push (.map [])).push (.cells [.nilm] 316)).set (H.n+3) (.cells [.map (H.n+2)] 316)) (by omega) (by simp;omega) (by simp;omega) (by simp) (by simp) (by omega) (by omega) (by simp only [go_sem,reduceIte,reduceEqDiff,reduceAdd,reduceMul,reduceSub,reduceLeDiff,reduceLT,Nat.reduceBEq,reduceCtorEq]) (by simp only [go_sem,reduceIte,reduceEqDiff,reduceAdd,reduceMul,reduceSub,reduceLeDiff,reduceLT,Nat.reduceBEq,reduceCtorEq]) (by simp only [go_sem,reduceIte,reduceEqDiff,reduceAdd,reduceMul,reduceSub,reduceLeDiff,reduceLT,Nat.reduceBEq,reduceCtorEq];rfl)
 have hv0:=offers_valid (ix:=findI n.lines) (rt_first (E:=endE n) (N:=n.sws.length) (a:=a)) (ends (endE n) n.sws.length) ends_all ([],false) (fun p w h=>by cases h)
 have hf0:=offers_least (findI n.lines) a [] (ends (endE n) n.sws.length) ([],false)
 generalize offers (findI n.lines) a [] (ends (endE n) n.sws.length) ([],false)=o at r1 r2 r5 hv0 hf0
 obtain ⟨o1,o2⟩:=o
 simp only at r1 r2 r5 hv0 hf0
 have hlo3:(lo≤H.n+1+1+1)=True:=by simp only [eq_iff_iff,iff_true];omega
 have r1':=r1
 simp only [Net.cells,List.map_nil,wSum] at r1'
 simp only [go_sem,reduceIte,reduceEqDiff,reduceAdd,reduceMul,reduceSub,reduceLeDiff,reduceLT,Nat.reduceBEq,reduceCtorEq,evalO_nilm,hlo3,Net.cells,en229 h229,r1',ofVal_v,ofVal_H]
 have z0:=r4 H.n (by simp;omega) (by omega)
 have z3:=r4 (H.n+3) (by simp) (by omega)
 have zO:∀ j,j < H.n→H1.get j=H.get j:=fun j h=>by
  rw [r4 j (by simp;omega) (by omega)]
  simp only [go_sem,reduceIte,reduceEqDiff,reduceAdd,reduceMul,reduceSub,reduceLeDiff,reduceLT,Nat.reduceBEq,reduceCtorEq]
  rw [if_neg (by omega),if_neg (by omega),if_neg (by omega),if_neg (by omega),if_neg (by omega)]
 have z0:H1.get H.n=.cells n.cells 40:=by rw [z0];simp only [go_sem,reduceIte,reduceEqDiff,reduceAdd,reduceMul,reduceSub,reduceLeDiff,reduceLT,Nat.reduceBEq,reduceCtorEq]
 have z3:H1.get (H.n+3)=.cells [.map (H.n+2)] 316:=by rw [z3];simp only [go_sem,reduceIte,reduceEqDiff,reduceAdd,reduceMul,reduceSub,reduceLeDiff,reduceLT,Nat.reduceBEq,reduceCtorEq]
 have zn:H.n+3 < H1.n:=by simp at r3;omega
 clear r1 r1' r3 r4 hlo3
 refine W_while (fun m T H' M=>M=[]∧getT T 2=.ptr H.n 0∧getT T 5=.ptr (H.n+3) 0∧getT T 6=.fn 229 [] [.ptr H.n 0,.ptr (H.n+3) 0]∧H.n+3 < H'.n∧H'.get H.n=.cells n.cells 40∧H'.get (H.n+3)=.cells [.map (H.n+2)] 316∧(∀ j,j < H.n→H'.get j=H.get j) ∧ ∃ (L:Labs) (ag:Bool),getT T 7=.bool ag∧H'.get (H.n+2)=.map (lmap L)∧LabV (endE n) n.sws.length a L∧better (findI n.lines) o1 L∧(ag=false→(rounds (endE n) n.sws.length (findI n.lines) n.sws.length (L,false)).2=false)∧m=if ag then mu (endE n) n.sws.length (findI n.lines) a L+1 else 0) ?_ (mu (endE n) n.sws.length (findI n.lines) a o1+1) _ _ _ ?_
 case refine_2 =>
  simp only [go_sem,reduceIte,reduceEqDiff,reduceAdd,reduceMul,reduceSub,reduceLeDiff,reduceLT,Nat.reduceBEq,reduceCtorEq]
  exact ⟨zn,z0,z3,zO,o1,true,rfl,r2,hv0,better_refl _ _,fun h=>(by cases h),rfl⟩
 case refine_1 =>
 clear z0 z3 zO zn r2 r5 hv0
 rintro m T H' M ⟨rfl,t2,t5,t6,hn',g0,g3,gO,L,ag,t7,gL,hLv,hb,hfin,rfl⟩
 cases ag with
 | false =>
   have hr:=hfin rfl
   simp only [go_sem,reduceIte,reduceEqDiff,reduceAdd,reduceMul,reduceSub,reduceLeDiff,reduceLT,Nat.reduceBEq,reduceCtorEq,t7,t5,g3]
   refine ⟨L,by omega,gL,lab_of hLv ?_ hr,hLv,gO⟩
   intro p hp hl
   have:=first_better hb (hf0 p hp hl)
   rw [List.nil_append,hl] at this
   exact this
 | true =>
 clear hfin
 obtain ⟨rsK,hrsK⟩:∃ r:Nat→Nat→Labs × Bool,r=fun i k=>rsD (endE n) n.sws.length (findI n.lines) L i k:=⟨_,rfl⟩
 have hval:∀ i k,i < n.sws.length→k≤2→LabV (endE n) n.sws.length a (rsK i k).1:=fun i k hi hk=>by rw [hrsK];exact rsD_valid hLv hi k hk
 have hall:=rounds_rs (ix:=findI n.lines) (Nat.le_refl n.sws.length) (s:=(L,false)) hLv
 have hre:rounds (endE n) n.sws.length (findI n.lines) n.sws.length (L,false)=rsK n.sws.length 0:=by rw [hrsK];rfl
 have hrf:=fun h=>rounds_false (E:=endE n) (N:=n.sws.length) (ix:=findI n.lines) (n:=n.sws.length) (s:=(L,false)) h
 rw [hre] at hall hrf
 have hr0:rsK 0 0=(L,false):=by rw [hrsK];rfl
 have hrS:∀ i,rsK (i+1) 0=rsK i 2:=fun i=>by rw [hrsK];rfl
 have g0':=g0
 simp only [Net.cells] at g0'
 simp only [go_sem,reduceIte,reduceEqDiff,reduceAdd,reduceMul,reduceSub,reduceLeDiff,reduceLT,Nat.reduceBEq,reduceCtorEq,t7,t5,t2,t6,g0']
 refine W_for (fun i T H' M=>M=[]∧getT T 2=.ptr H.n 0∧getT T 5=.ptr (H.n+3) 0∧getT T 6=.fn 229 [] [.ptr H.n 0,.ptr (H.n+3) 0]∧getT T 7=.bool (rsK i 0).2∧getT T 23=.ps .unk (n.sws.map Sw.row)∧getT T 24=i64 (n.sws.length:Nat)∧getT T 25=i64 (i:Nat)∧H.n+3 < H'.n∧H'.get H.n=.cells n.cells 40∧H'.get (H.n+3)=.cells [.map (H.n+2)] 316∧(∀ j,j < H.n→H'.get j=H.get j)∧H'.get (H.n+2)=.map (lmap (rsK i 0).1)) n.sws.length ?_ ?_ ?_
 · simp only [go_sem,reduceIte,reduceEqDiff,reduceAdd,reduceMul,reduceSub,reduceLeDiff,reduceLT,Nat.reduceBEq,reduceCtorEq,t2,t5,t6,List.length_map,hr0]
   exact ⟨hn',g0,g3,gO,gL⟩
 · rintro i T H1 M hk ⟨rfl,t2,t5,t6,t7,t23,t24,t25,pn,p0,p3,pO,pL⟩
   obtain ⟨sw,hsx⟩:∃ p,n.sws[i]? = some p:=⟨n.sws[i],by simp⟩
   have hr:=map_at (f:=Sw.row) hsx
   have hw25:=wrap_succ hk hsw
   have hE:endE n i=fun k=>if k then (sw.other,endM n sw) else (sw.line,sw.metre):=by funext k;unfold endE;rw [hsx]
   have e151:=pe151 n sw hn
   have y1:(H.n=H1.n)=False:=by simp only [eq_iff_iff,iff_false];omega
   have y2:(H.n=H1.n+1)=False:=by simp only [eq_iff_iff,iff_false];omega
   have y3:(H.n+3=H1.n)=False:=by simp only [eq_iff_iff,iff_false];omega
   have y4:(H.n+3=H1.n+1)=False:=by simp only [eq_iff_iff,iff_false];omega
   have y5:(H.n+2=H1.n)=False:=by simp only [eq_iff_iff,iff_false];omega
   have y6:(H.n+2=H1.n+1)=False:=by simp only [eq_iff_iff,iff_false];omega
   have hlo1:(lo≤H1.n)=True:=by simp only [eq_iff_iff,iff_true];omega
   have hlo2:(lo≤H1.n+1)=True:=by simp only [eq_iff_iff,iff_true];omega
   rw [hrS]
   generalize endM n sw=EM at e151 hE
   obtain ⟨w1,w2,w3,w4,w5⟩:=sw
   simp only at hE
   have p0':=p0
   simp only [Sw.row,Net.cells] at hr e151 p0'
   simp only [go_sem,reduceIte,reduceEqDiff,reduceAdd,reduceMul,reduceSub,reduceLeDiff,reduceLT,Nat.reduceBEq,reduceCtorEq,t2,t5,t6,t7,t23,t24,t25,List.length_map,hk,hr,p0',y1,y2,hlo1,hlo2,en151 h151,Net.cells,e151,ab259,ab334]
   refine W_for (fun k T H2 M=>M=[]∧getT T 2=.ptr H.n 0∧getT T 5=.ptr (H.n+3) 0∧getT T 6=.fn 229 [] [.ptr H.n 0,.ptr (H.n+3) 0]∧getT T 7=.bool (rsK i k).2∧getT T 23=.ps .unk (n.sws.map Sw.row)∧getT T 24=i64 (n.sws.length:Nat)∧getT T 25=i64 (i:Nat)∧getT T 38=.agg [.str w2,.int .i64 w3,.str w4,.int .i64 EM,.str w4,.int .i64 EM,.str w2,.int .i64 w3]∧getT T 39=i64 (k:Nat)∧H.n+3 < H2.n∧H2.get H.n=.cells n.cells 40∧H2.get (H.n+3)=.cells [.map (H.n+2)] 316∧(∀ j,j < H.n→H2.get j=H.get j)∧H2.get (H.n+2)=.map (lmap (rsK i k).1)) 2 ?_ ?_ ?_
   · simp only [go_sem,reduceIte,reduceEqDiff,reduceAdd,reduceMul,reduceSub,reduceLeDiff,reduceLT,Nat.reduceBEq,reduceCtorEq,t2,t5,t6,t7,t23,t24,t25,y1,y2,y3,y4,y5,y6]
     refine ⟨by omega,p0,p3,fun j h => ?_,pL⟩
     rw [if_neg (by omega),if_neg (by omega),if_neg (by omega),if_neg (by omega)];exact pO j h
   rintro k T H2 M hk2 ⟨rfl,i2,i5,i6,i7,i23,i24,i25,i38,i39,qn,qs0,qs1,qO,qi⟩
   have d0:(H.n=H2.n)=False:=by simp only [eq_iff_iff,iff_false];omega
   have d1:(H.n=H2.n+1)=False:=by simp only [eq_iff_iff,iff_false];omega
   have d2:(H.n+3=H2.n)=False:=by simp only [eq_iff_iff,iff_false];omega
   have d3:(H.n+3=H2.n+1)=False:=by simp only [eq_iff_iff,iff_false];omega
   have d4:(H.n+2=H2.n)=False:=by simp only [eq_iff_iff,iff_false];omega
   have d5:(H.n+2=H2.n+1)=False:=by simp only [eq_iff_iff,iff_false];omega
   have hlo1:(lo≤H2.n)=True:=by simp only [eq_iff_iff,iff_true];omega
   have hlo2:(lo≤H2.n+1)=True:=by simp only [eq_iff_iff,iff_true];omega
   clear hall hrf hre hr0 hrS e151 y1 y2 y3 y4 y5 y6 pO pL p0 p3 hf0
   rcases (show k=0∨k=1 by omega) with rfl | rfl
   · -- entered at end 0
     have hpt:endE n i false=(w2,w3):=by rw [hE];rfl
     have hqt:endE n i (!false)=(w4,EM):=by rw [hE];rfl
     have hrs:rsK i (0+1)=rstep (endE n) n.sws.length (findI n.lines) i false (rsK i 0):=by rw [hrsK];rfl
     have hsv:=hval i 0 (by omega) (by omega)
     rw [hrs]
     generalize rsK i 0=s at i7 qi hsv ⊢
     obtain ⟨LL,bb⟩:=s
     simp only at i7 qi hsv
     have hlook:=lookL (H:=((H2.push (.cells [.str [],.int .i64 0,.str [],.int .i64 0] 259)).set H2.n (.cells [.str w2,.int .i64 w3,.str w4,.int .i64 EM] 259))) (id:=H.n+2) (L:=LL) (by simp only [go_sem,reduceIte,reduceEqDiff,reduceAdd,reduceMul,reduceSub,reduceLeDiff,reduceLT,Nat.reduceBEq,reduceCtorEq,d4,d5];exact qi) (w2,w3)
     have hst:rstep (endE n) n.sws.length (findI n.lines) i false (LL,bb)=match lk LL (w2,w3) with
      | none=>(LL,bb)
      | some r=>if r.length < 16 then ((offers (findI n.lines) (w4,EM) r (ends (endE n) n.sws.length) (LL,false)).1,bb || (offers (findI n.lines) (w4,EM) r (ends (endE n) n.sws.length) (LL,false)).2) else (LL,bb):=by
      unfold rstep
      rw [hpt,hqt]
      all_goals (show (match lk LL (w2,w3) with | none=>_ | some r=>_)=_;cases lk LL (w2,w3)<;>rfl)
     rw [hst]
     cases hl:lk LL (w2,w3) with
     | none =>
       rw [hl] at hlook
       simp only [] at hlook ⊢
       simp only [go_sem,reduceIte,reduceEqDiff,reduceAdd,reduceMul,reduceSub,reduceLeDiff,reduceLT,Nat.reduceBEq,reduceCtorEq,i2,i5,i6,i7,i23,i24,i25,i38,i39,qs1,qi,i02,i12,cast1,cast2,wl01,wl12,d0,d1,d2,d3,d4,d5,hlo1,hlo2,hlook]
       refine ⟨by omega,qs0,fun j h => ?_⟩
       rw [if_neg (by omega),if_neg (by omega),if_neg (by omega),if_neg (by omega)];exact qO j h
     | some r =>
       rw [hl] at hlook
       obtain ⟨_,σ,s1,s2,s3⟩:=hsv _ _ hl
       have hrl:r.length≤16:=by rw [s2,legsOf_length];omega
       simp only [rtC] at hlook
       simp only []
       rcases Nat.lt_or_ge r.length 16 with h16 | h16
       case inr =>
        have h16':((r.length:Int) < 16)=False:=by simp only [eq_iff_iff,iff_false];omega
        rw [if_neg (by omega)]
        simp only [go_sem,reduceIte,reduceEqDiff,reduceAdd,reduceMul,reduceSub,reduceLeDiff,reduceLT,Nat.reduceBEq,reduceCtorEq,i2,i5,i6,i7,i23,i24,i25,i38,i39,qs1,qi,i02,i12,cast1,cast2,wl01,wl12,d0,d1,d2,d3,d4,d5,hlo1,hlo2,hlook,List.length_map,h16']
        refine ⟨by omega,qs0,fun j h => ?_⟩
        rw [if_neg (by omega),if_neg (by omega),if_neg (by omega),if_neg (by omega)];exact qO j h
       have h16':((r.length:Int) < 16)=True:=by simp only [eq_iff_iff,iff_true];omega
       rw [if_pos h16]
       have hrt:∀ p ∈ ends (endE n) n.sws.length,wrapq .i64 (Int.add (wSum r) (legW ⟨p.1,EM,p.2⟩))=wSum (r++[⟨p.1,EM,p.2⟩]):=by
        rw [s2]
        exact sum_ok hRa hRE s1 (by omega) (by have:=hRE i (!false) (by omega);rw [hqt] at this;exact this) (by have:=hRE i false (by omega);rw [hpt] at this;exact this)
       obtain ⟨v3,H3,r1,rfl,r2,r3,r4,r5⟩:=r229 (P:=P) h151 h203 h204 n hn hsw (w4,EM) r LL hrl hrt (fun p v h=>by obtain ⟨_,τ,t1,t2,t3⟩:=hsv p v h;rw [t2,legsOf_length];omega)
        lo H.n (H.n+3) (H.n+2) (((((H2.push (.cells [.str [],.int .i64 0,.str [],.int .i64 0] 259)).set H2.n (.cells [.str w2,.int .i64 w3,.str w4,.int .i64 EM] 259)).push (.cells [.ps .nil [],.int .i64 0] 246)).set (H2.n+1) (.cells [.ps .unk (r.map Leg.row),.int .i64 (wSum r)] 246))) (by omega) (by simp;omega) (by simp;omega) (by simp;omega) (by simp;omega) (by omega) (by omega) (by simp only [go_sem,reduceIte,reduceEqDiff,reduceAdd,reduceMul,reduceSub,reduceLeDiff,reduceLT,Nat.reduceBEq,reduceCtorEq,d0,d1];exact qs0) (by simp only [go_sem,reduceIte,reduceEqDiff,reduceAdd,reduceMul,reduceSub,reduceLeDiff,reduceLT,Nat.reduceBEq,reduceCtorEq,d2,d3];exact qs1) (by simp only [go_sem,reduceIte,reduceEqDiff,reduceAdd,reduceMul,reduceSub,reduceLeDiff,reduceLT,Nat.reduceBEq,reduceCtorEq,d4,d5];exact qi)
       generalize offers (findI n.lines) (w4,EM) r (ends (endE n) n.sws.length) (LL,false)=o at r1 r2 r5 ⊢
       obtain ⟨o1,o2⟩:=o
       simp only at r1 r2 r5
       have r6:H2.n < H3.n:=by simp at r3;omega
       have r7:=r4 H.n (by simp;omega) (by omega)
       have r8:=r4 (H.n+3) (by simp;omega) (by omega)
       have r9:∀ j,j < H.n→H3.get j=H.get j:=fun j h=>by
        rw [r4 j (by simp;omega) (by omega)]
        simp only [go_sem,reduceIte,reduceEqDiff,reduceAdd,reduceMul,reduceSub,reduceLeDiff,reduceLT,Nat.reduceBEq,reduceCtorEq]
        rw [if_neg (by omega),if_neg (by omega),if_neg (by omega),if_neg (by omega)];exact qO j h
       have r7:H3.get H.n=.cells n.cells 40:=by rw [r7];simp only [go_sem,reduceIte,reduceEqDiff,reduceAdd,reduceMul,reduceSub,reduceLeDiff,reduceLT,Nat.reduceBEq,reduceCtorEq,d0,d1];exact qs0
       have r8:H3.get (H.n+3)=.cells [.map (H.n+2)] 316:=by rw [r8];simp only [go_sem,reduceIte,reduceEqDiff,reduceAdd,reduceMul,reduceSub,reduceLeDiff,reduceLT,Nat.reduceBEq,reduceCtorEq,d2,d3];exact qs1
       cases o2<;>simp only [go_sem,reduceIte,reduceEqDiff,reduceAdd,reduceMul,reduceSub,reduceLeDiff,reduceLT,Nat.reduceBEq,reduceCtorEq,i2,i5,i6,i7,i23,i24,i25,i38,i39,qs1,qi,i02,i12,cast1,cast2,wl01,wl12,d0,d1,d2,d3,d4,d5,hlo1,hlo2,hlook,List.length_map,h16',en229 h229,r1,ofVal_v,ofVal_H,Bool.or_true,Bool.or_false]
       · exact ⟨by omega,r7,r8,r9,r2⟩
       · exact ⟨by omega,r7,r8,r9,r2⟩
   · -- entered at end 1
     have hpt:endE n i true=(w4,EM):=by rw [hE];rfl
     have hqt:endE n i (!true)=(w2,w3):=by rw [hE];rfl
     have hrs:rsK i (1+1)=rstep (endE n) n.sws.length (findI n.lines) i true (rsK i 1):=by rw [hrsK];rfl
     have hsv:=hval i 1 (by omega) (by omega)
     rw [hrs]
     generalize rsK i 1=s at i7 qi hsv ⊢
     obtain ⟨LL,bb⟩:=s
     simp only at i7 qi hsv
     have hlook:=lookL (H:=((H2.push (.cells [.str [],.int .i64 0,.str [],.int .i64 0] 259)).set H2.n (.cells [.str w4,.int .i64 EM,.str w2,.int .i64 w3] 259))) (id:=H.n+2) (L:=LL) (by simp only [go_sem,reduceIte,reduceEqDiff,reduceAdd,reduceMul,reduceSub,reduceLeDiff,reduceLT,Nat.reduceBEq,reduceCtorEq,d4,d5];exact qi) (w4,EM)
     have hst:rstep (endE n) n.sws.length (findI n.lines) i true (LL,bb)=match lk LL (w4,EM) with
      | none=>(LL,bb)
      | some r=>if r.length < 16 then ((offers (findI n.lines) (w2,w3) r (ends (endE n) n.sws.length) (LL,false)).1,bb || (offers (findI n.lines) (w2,w3) r (ends (endE n) n.sws.length) (LL,false)).2) else (LL,bb):=by
      unfold rstep
      rw [hpt,hqt]
      all_goals (show (match lk LL (w4,EM) with | none=>_ | some r=>_)=_;cases lk LL (w4,EM)<;>rfl)
     rw [hst]
     cases hl:lk LL (w4,EM) with
     | none =>
       rw [hl] at hlook
       simp only [] at hlook ⊢
       simp only [go_sem,reduceIte,reduceEqDiff,reduceAdd,reduceMul,reduceSub,reduceLeDiff,reduceLT,Nat.reduceBEq,reduceCtorEq,i2,i5,i6,i7,i23,i24,i25,i38,i39,qs1,qi,i02,i12,cast1,cast2,wl01,wl12,d0,d1,d2,d3,d4,d5,hlo1,hlo2,hlook]
       refine ⟨by omega,qs0,fun j h => ?_⟩
       rw [if_neg (by omega),if_neg (by omega),if_neg (by omega),if_neg (by omega)];exact qO j h
     | some r =>
       rw [hl] at hlook
       obtain ⟨_,σ,s1,s2,s3⟩:=hsv _ _ hl
       have hrl:r.length≤16:=by rw [s2,legsOf_length];omega
       simp only [rtC] at hlook
       simp only []
       rcases Nat.lt_or_ge r.length 16 with h16 | h16
       case inr =>
        have h16':((r.length:Int) < 16)=False:=by simp only [eq_iff_iff,iff_false];omega
        rw [if_neg (by omega)]
        simp only [go_sem,reduceIte,reduceEqDiff,reduceAdd,reduceMul,reduceSub,reduceLeDiff,reduceLT,Nat.reduceBEq,reduceCtorEq,i2,i5,i6,i7,i23,i24,i25,i38,i39,qs1,qi,i02,i12,cast1,cast2,wl01,wl12,d0,d1,d2,d3,d4,d5,hlo1,hlo2,hlook,List.length_map,h16']
        refine ⟨by omega,qs0,fun j h => ?_⟩
        rw [if_neg (by omega),if_neg (by omega),if_neg (by omega),if_neg (by omega)];exact qO j h
       have h16':((r.length:Int) < 16)=True:=by simp only [eq_iff_iff,iff_true];omega
       rw [if_pos h16]
       have hrt:∀ p ∈ ends (endE n) n.sws.length,wrapq .i64 (Int.add (wSum r) (legW ⟨p.1,w3,p.2⟩))=wSum (r++[⟨p.1,w3,p.2⟩]):=by
        rw [s2]
        exact sum_ok hRa hRE s1 (by omega) (by have:=hRE i (!true) (by omega);rw [hqt] at this;exact this) (by have:=hRE i true (by omega);rw [hpt] at this;exact this)
       obtain ⟨v3,H3,r1,rfl,r2,r3,r4,r5⟩:=r229 (P:=P) h151 h203 h204 n hn hsw (w2,w3) r LL hrl hrt (fun p v h=>by obtain ⟨_,τ,t1,t2,t3⟩:=hsv p v h;rw [t2,legsOf_length];omega)
        lo H.n (H.n+3) (H.n+2) (((((H2.push (.cells [.str [],.int .i64 0,.str [],.int .i64 0] 259)).set H2.n (.cells [.str w4,.int .i64 EM,.str w2,.int .i64 w3] 259)).push (.cells [.ps .nil [],.int .i64 0] 246)).set (H2.n+1) (.cells [.ps .unk (r.map Leg.row),.int .i64 (wSum r)] 246))) (by omega) (by simp;omega) (by simp;omega) (by simp;omega) (by simp;omega) (by omega) (by omega) (by simp only [go_sem,reduceIte,reduceEqDiff,reduceAdd,reduceMul,reduceSub,reduceLeDiff,reduceLT,Nat.reduceBEq,reduceCtorEq,d0,d1];exact qs0) (by simp only [go_sem,reduceIte,reduceEqDiff,reduceAdd,reduceMul,reduceSub,reduceLeDiff,reduceLT,Nat.reduceBEq,reduceCtorEq,d2,d3];exact qs1) (by simp only [go_sem,reduceIte,reduceEqDiff,reduceAdd,reduceMul,reduceSub,reduceLeDiff,reduceLT,Nat.reduceBEq,reduceCtorEq,d4,d5];exact qi)
       generalize offers (findI n.lines) (w2,w3) r (ends (endE n) n.sws.length) (LL,false)=o at r1 r2 r5 ⊢
       obtain ⟨o1,o2⟩:=o
       simp only at r1 r2 r5
       have r6:H2.n < H3.n:=by simp at r3;omega
       have r7:=r4 H.n (by simp;omega) (by omega)
       have r8:=r4 (H.n+3) (by simp;omega) (by omega)
       have r9:∀ j,j < H.n→H3.get j=H.get j:=fun j h=>by
        rw [r4 j (by simp;omega) (by omega)]
        simp only [go_sem,reduceIte,reduceEqDiff,reduceAdd,reduceMul,reduceSub,reduceLeDiff,reduceLT,Nat.reduceBEq,reduceCtorEq]
        rw [if_neg (by omega),if_neg (by omega),if_neg (by omega),if_neg (by omega)];exact qO j h
       have r7:H3.get H.n=.cells n.cells 40:=by rw [r7];simp only [go_sem,reduceIte,reduceEqDiff,reduceAdd,reduceMul,reduceSub,reduceLeDiff,reduceLT,Nat.reduceBEq,reduceCtorEq,d0,d1];exact qs0
       have r8:H3.get (H.n+3)=.cells [.map (H.n+2)] 316:=by rw [r8];simp only [go_sem,reduceIte,reduceEqDiff,reduceAdd,reduceMul,reduceSub,reduceLeDiff,reduceLT,Nat.reduceBEq,reduceCtorEq,d2,d3];exact qs1
       cases o2<;>simp only [go_sem,reduceIte,reduceEqDiff,reduceAdd,reduceMul,reduceSub,reduceLeDiff,reduceLT,Nat.reduceBEq,reduceCtorEq,i2,i5,i6,i7,i23,i24,i25,i38,i39,qs1,qi,i02,i12,cast1,cast2,wl01,wl12,d0,d1,d2,d3,d4,d5,hlo1,hlo2,hlook,List.length_map,h16',en229 h229,r1,ofVal_v,ofVal_H,Bool.or_true,Bool.or_false]
       · exact ⟨by omega,r7,r8,r9,r2⟩
       · exact ⟨by omega,r7,r8,r9,r2⟩
   rintro T H2 M ⟨rfl,i2,i5,i6,i7,i23,i24,i25,i38,i39,qn,qs0,qs1,qO,qi⟩
   have h22:(((2:Nat):Int) < 2)=False:=by simp
   simp only [go_sem,reduceIte,reduceEqDiff,reduceAdd,reduceMul,reduceSub,reduceLeDiff,reduceLT,Nat.reduceBEq,reduceCtorEq,i2,i5,i6,i7,i23,i24,i25,i39,h22,hw25]
   exact ⟨qn,qs0,qs1,qO,qi⟩
 · rintro T H1 M ⟨rfl,t2,t5,t6,t7,t23,t24,t25,pn,p0,p3,pO,pL⟩
   simp only [go_sem,reduceIte,reduceEqDiff,reduceAdd,reduceMul,reduceSub,reduceLeDiff,reduceLT,Nat.reduceBEq,reduceCtorEq,t2,t5,t6,t7,t23,t24,t25,Nat.lt_irrefl]
   refine ⟨_, ?_,pn,p0,p3,pO,(rsK n.sws.length 0).1,(rsK n.sws.length 0).2,rfl,pL,hall.valid,better_trans _ hb hall.better,fun h => ?_,rfl⟩
   · cases hbb:(rsK n.sws.length 0).2 with
     | false=>simp
     | true =>
       simp only [if_true]
       rcases hall.less with ⟨_,c⟩ | ⟨_,c⟩
       · exact Bool.noConfusion (hbb.symm.trans c)
       · have c':mu (endE n) n.sws.length (findI n.lines) a (rsK n.sws.length 0).1 < mu (endE n) n.sws.length (findI n.lines) a L:=c
         omega
   · obtain ⟨e,_⟩:=hrf h
     rw [e,hre];exact h
end Go.Sim

/-
Ways: the best of the candidates.
-/
-- INJ Leg.row_iff lgs_iff
namespace Go.Sim
open Go Go.Proofs
set_option maxRecDepth 100000
set_option maxHeartbeats 64000000
variable {P:FuncId→Option (List AV→Option AV)}
def takeW (ix:List Nat→Int) (s:Option (List Leg)) (w:List Leg):Option (List Leg):=match s with
 | none=>some w
 | some v=>if wLt ix w v=true then some w else some v
def wayStep (E:Nat→Bool→Pt) (ix:List Nat→Int) (b:Pt) (L:Labs) (i:Nat) (k:Bool) (s:Option (List Leg)):Option (List Leg):=match lk L (E i k) with
 | none=>s
 | some r=>if (E i (!k)).1=b.1∧r.length < 16 then takeW ix s (r++[⟨b.1,(E i (!k)).2,b.2⟩]) else s
def wayD (E:Nat→Bool→Pt) (ix:List Nat→Int) (b:Pt) (L:Labs) (i:Nat) (s:Option (List Leg)):Nat→Option (List Leg)
 | 0=>s
 | 1=>wayStep E ix b L i false s
 | _=>wayStep E ix b L i true (wayStep E ix b L i false s)
def wayR (E:Nat→Bool→Pt) (ix:List Nat→Int) (b:Pt) (L:Labs) (s:Option (List Leg)):Nat→Option (List Leg)
 | 0=>s
 | n+1=>wayD E ix b L n (wayR E ix b L s n) 2
def wayS (E:Nat→Bool→Pt) (N:Nat) (ix:List Nat→Int) (a b:Pt) (L:Labs):Option (List Leg) :=
 wayR E ix b L (if a.1=b.1 then some [⟨a.1,a.2,b.2⟩] else none) N
def InvW (ix:List Nat→Int) (Q:List Leg→Prop):Option (List Leg)→Prop
 | none=>∀ v,¬ Q v
 | some w=>Q w ∧ ∀ v,Q v→wLe ix w v
theorem InvW.congr {ix:List Nat→Int} {Q R:List Leg→Prop} {s:Option (List Leg)} (h:InvW ix Q s) (e:∀ v,Q v ↔ R v):InvW ix R s:=by
 cases s with
 | none=>exact fun v hv=>h v ((e v).2 hv)
 | some w=>exact ⟨(e w).1 h.1,fun v hv=>h.2 v ((e v).2 hv)⟩
theorem takeW_inv {ix:List Nat→Int} {Q:List Leg→Prop} {s:Option (List Leg)} (h:InvW ix Q s) (w:List Leg):InvW ix (fun v=>Q v∨v=w) (takeW ix s w):=by
 cases s with
 | none =>
   refine ⟨.inr rfl,fun v hv => ?_⟩
   rcases hv with hv | rfl
   · exact absurd hv (h v)
   · exact wLe_refl ix _
 | some u =>
   unfold takeW
   simp only []
   cases hc:wLt ix w u with
   | true =>
     rw [if_pos rfl]
     refine ⟨.inr rfl,fun v hv => ?_⟩
     rcases hv with hv | rfl
     · have h1:wLt ix v u=false:=h.2 v hv
       show wLt ix v w=false
       cases hd:wLt ix v w with
       | false=>rfl
       | true=>rw [wLt_trans ix hd hc] at h1;cases h1
     · exact wLe_refl ix _
   | false =>
     rw [if_neg (by simp)]
     refine ⟨.inl h.1,fun v hv => ?_⟩
     rcases hv with hv | rfl
     · exact h.2 v hv
     · exact hc
theorem wayStep_inv {E:Nat→Bool→Pt} {ix:List Nat→Int} {b:Pt} {L:Labs} {Q:List Leg→Prop} {s:Option (List Leg)} (i:Nat) (k:Bool) (h:InvW ix Q s) :
 InvW ix (fun v=>Q v ∨ ∃ r,lk L (E i k)=some r∧(E i (!k)).1=b.1∧r.length < 16∧v=r++[⟨(E i (!k)).1,(E i (!k)).2,b.2⟩]) (wayStep E ix b L i k s):=by
 unfold wayStep
 cases hl:lk L (E i k) with
 | none=>exact h.congr fun v=>⟨.inl,fun x=>x.elim id fun ⟨r,h1,_⟩=>by cases h1⟩
 | some r =>
   simp only []
   rcases Classical.em ((E i (!k)).1=b.1∧r.length < 16) with hc | hc
   · rw [if_pos hc]
     refine (takeW_inv h _).congr fun v=>or_congr Iff.rfl ⟨fun e=>⟨r,rfl,hc.1,hc.2,by rw [hc.1];exact e⟩, ?_⟩
     rintro ⟨r',h1,h2,_,h3⟩
     cases h1
     rw [h3,h2]
   · rw [if_neg hc]
     refine h.congr fun v=>⟨.inl,fun x=>x.elim id ?_⟩
     rintro ⟨r',h1,h2,h3,_⟩
     cases h1
     exact absurd ⟨h2,h3⟩ hc
theorem wayR_inv {E:Nat→Bool→Pt} {ix:List Nat→Int} {b:Pt} {L:Labs} {Q:List Leg→Prop} {s:Option (List Leg)} (h:InvW ix Q s):∀ n,
 InvW ix (fun v=>Q v ∨ ∃ i k r,i < n∧lk L (E i k)=some r∧(E i (!k)).1=b.1∧r.length < 16∧v=r++[⟨(E i (!k)).1,(E i (!k)).2,b.2⟩]) (wayR E ix b L s n)
 | 0=>h.congr fun v=>⟨.inl,fun x=>x.elim id fun ⟨i,k,r,h0,_⟩=>absurd h0 (Nat.not_lt_zero _)⟩
 | n+1=>by
   refine (wayStep_inv (E:=E) (L:=L) (b:=b) n true (wayStep_inv (E:=E) (L:=L) (b:=b) n false (wayR_inv h n))).congr fun v=>⟨?_, ?_⟩
   · rintro (((h | ⟨i,k,r,h0,h1⟩) | ⟨r,h1⟩) | ⟨r,h1⟩)
     · exact .inl h
     · exact .inr ⟨i,k,r,by omega,h1⟩
     · exact .inr ⟨n,false,r,by omega,h1⟩
     · exact .inr ⟨n,true,r,by omega,h1⟩
   · rintro (h | ⟨i,k,r,h0,h1⟩)
     · exact .inl (.inl (.inl h))
     · rcases Nat.lt_or_ge i n with hi | hi
       · exact .inl (.inl (.inr ⟨i,k,r,hi,h1⟩))
       · have:i=n:=by omega
         subst this
         cases k with
         | false=>exact .inl (.inr ⟨r,h1⟩)
         | true=>exact .inr ⟨r,h1⟩
theorem wayS_inv (E:Nat→Bool→Pt) (N:Nat) (ix:List Nat→Int) (a b:Pt) (L:Labs):InvW ix (candW (E:=E) (N:=N) (lk L) a b) (wayS E N ix a b L):=by
 have h0:InvW ix (fun v=>a.1=b.1∧v=legsOf E a [] b) (if a.1=b.1 then some [⟨a.1,a.2,b.2⟩] else none):=by
  rcases Classical.em (a.1=b.1) with h | h
  · rw [if_pos h]
    have e:legsOf E a [] b=[⟨a.1,a.2,b.2⟩]:=by show [_]=[_];rw [h]
    exact ⟨⟨h,e.symm⟩,fun v hv=>by rw [hv.2,e];exact wLe_refl ix _⟩
  · rw [if_neg h]
    exact fun v hv=>h hv.1
 exact (wayR_inv h0 N).congr fun v=>by unfold candW;exact Iff.rfl
theorem wayS_best {E:Nat→Bool→Pt} {N:Nat} {ix:List Nat→Int} {S:List Nat→Prop} (inj:∀ a b,S a→S b→ix a=ix b→a=b) (hS:∀ i k,i < N→S (E i k).1) {a b:Pt} {L:Labs} (h:Lab E N ix a (lk L)) (hN:N≤14) (ha:S a.1) :
 match wayS E N ix a b L with
 | none=>∀ w,¬ isWay E N a b w
 | some w=>Best E N ix a b w:=by
 have hi:=wayS_inv E N ix a b L
 cases hw:wayS E N ix a b L with
 | none =>
   rw [hw] at hi
   rintro w ⟨σ,s1,_⟩
   obtain ⟨v,v1,_⟩:=cand_least inj hS h hN ha s1
   exact hi v v1
 | some w =>
   rw [hw] at hi
   exact cand_best inj hS h hN ha hi.1 hi.2
/-! ### The closure that takes a candidate -/
def optC (s:Option (List Leg)):List AV:=match s with
 | none=>[.ps .nil [],.int .i64 0]
 | some v=>[.ps .unk (v.map Leg.row),.int .i64 (wSum v)]
theorem r202 (h203 : P 203 = some p203) (n : Net) (hn : n.Ok) (w : List Leg) (hw : w.length ≤ maxRows) (s : Option (List Leg)) (hs : ∀ v, s = some v → v.length ≤ maxRows)
 (lo bf bn bb : Nat) (H : Heap) (hlf : lo ≤ bf) (hlb : lo ≤ bb) (hloH : lo ≤ H.n) (cf : bf < H.n) (cn : bn < H.n) (cb : bb < H.n) (nfb : bf ≠ bb) (nfn : bf ≠ bn) (nbn : bb ≠ bn) (sf : H.get bf = .cells [.bool s.isSome] 4) (sn : H.get bn = .cells n.cells 40) (sb : H.get bb = .cells (optC s) 246) :
 ∃ v H', R (NC.withPrims P) (.call lo 202 [.agg [.ps .unk (w.map Leg.row), .int .i64 (wSum w)], .ptr bf 0, .ptr bn 0, .ptr bb 0] H) = some (.ofVal v H') ∧ v = .tup [] ∧ H.n ≤ H'.n ∧ H'.get bf = .cells [.bool true] 4 ∧ H'.get bb = .cells (optC (takeW (findI n.lines) s w)) 246 ∧ ∀ j, j < H.n → j ≠ bf → j ≠ bb → H'.get j = H.get j := by
 refine R_of_body (C := NC.withPrims P) (f := 202) (lo := lo) (args := [.agg [.ps .unk (w.map Leg.row), .int .i64 (wSum w)], .ptr bf 0, .ptr bn 0, .ptr bb 0]) (H := H) (fn := Tryz.f202) (Q := fun v H' => v = .tup [] ∧ H.n ≤ H'.n ∧ H'.get bf = .cells [.bool true] 4 ∧ H'.get bb = .cells (optC (takeW (findI n.lines) s w)) 246 ∧ ∀ j, j < H.n → j ≠ bf → j ≠ bb → H'.get j = H.get j) (by kernel_rfl) Tryz.func202 rfl rfl ?_
 have x1 : (bf = H.n) = False := by simp only [eq_iff_iff, iff_false]; omega
 have x2 : (bn = H.n) = False := by simp only [eq_iff_iff, iff_false]; omega
 have x3 : (bb = H.n) = False := by simp only [eq_iff_iff, iff_false]; omega
 have x4 : (bf = bb) = False := by simp [nfb]
 have x5 : (bf = bn) = False := by simp [nfn]
 have x6 : (bb = bn) = False := by simp [nbn]
 have x7 : (bb = bf) = False := by simp [Ne.symm nfb]
 have x8 : (H.n = bf) = False := by simp only [eq_iff_iff, iff_false]; omega
 have x9 : (H.n = bb) = False := by simp only [eq_iff_iff, iff_false]; omega
 have hlo1 : (lo ≤ bf) = True := by simp [hlf]
 have hlo2 : (lo ≤ bb) = True := by simp [hlb]
 have hjn : ∀ j, j < H.n → (j = H.n) = False := fun j h => by simp only [eq_iff_iff, iff_false]; omega
 have hlo3 : (lo ≤ H.n) = True := by simp [hloH]
 cases s with
 | none =>
   simp only [optC, Option.isSome_none] at sf sb
   simp only [takeW, optC]
   generalize w.map Leg.row = WR at *
   generalize wSum w = WS at *
   simp only [go_sem, reduceIte, reduceEqDiff, reduceAdd, reduceMul, reduceSub, reduceLeDiff, reduceLT, Nat.reduceBEq, reduceCtorEq, sf, sb, x1, x2, x3, x4, x5, x6, x7, x8, x9, hlo1, hlo2, hlo3]
   refine ⟨by omega, fun j h1 h2 h3 => ?_⟩
   simp only [hjn j h1, h2, h3, if_false]
 | some v =>
   have e203 := pe203 n w (wSum w) v (wSum v) ⟨hn.lines, hw, hs v rfl⟩
   have hcmp := cmpRt_lt n w v
   generalize cmpRt n w (wSum w) v (wSum v) = C at e203 hcmp
   simp only [optC, Option.isSome_some] at sf sb
   simp only [takeW]
   simp only [Net.cells] at e203 sn
   cases hlt : wLt (findI n.lines) w v with
   | true =>
     have hC : (C < 0) = True := by rw [hlt] at hcmp; simpa using hcmp
     rw [if_pos rfl]
     simp only [optC]
     generalize w.map Leg.row = WR at *
     generalize wSum w = WS at *
     generalize v.map Leg.row = VR at *
     generalize wSum v = VS at *
     simp only [go_sem, reduceIte, reduceEqDiff, reduceAdd, reduceMul, reduceSub, reduceLeDiff, reduceLT, Nat.reduceBEq, reduceCtorEq, sf, sb, sn, x1, x2, x3, x4, x5, x6, x7, x8, x9, hlo1, hlo2, hlo3, Net.cells, en203 h203, e203, hC]
     refine ⟨by omega, fun j h1 h2 h3 => ?_⟩
     simp only [hjn j h1, h2, h3, if_false]
   | false =>
     have hC : (C < 0) = False := by rw [hlt] at hcmp; simpa using hcmp
     rw [if_neg (by simp)]
     simp only [optC]
     generalize w.map Leg.row = WR at *
     generalize wSum w = WS at *
     generalize v.map Leg.row = VR at *
     generalize wSum v = VS at *
     simp only [go_sem, reduceIte, reduceEqDiff, reduceAdd, reduceMul, reduceSub, reduceLeDiff, reduceLT, Nat.reduceBEq, reduceCtorEq, sf, sb, sn, x1, x2, x3, x4, x5, x6, x7, x8, x9, hlo1, hlo2, hlo3, Net.cells, en203 h203, e203, hC]
     refine ⟨by omega, fun j h1 h2 h3 => ?_⟩
     simp only [hjn j h1, if_false]
end Go.Sim

/-
Ways: the best way, by the program.
-/
-- INJ Leg.row_iff lgs_iff
namespace Go.Sim
open Go Go.Proofs
set_option maxRecDepth 100000
set_option maxHeartbeats 64000000
variable {P:FuncId→Option (List AV→Option AV)}
theorem en185 {P:FuncId→Option (List AV→Option AV)} (hP:P 185=none) {lo:Nat} {args:List AV} {H:Heap} {K:AV→Heap→Prop}:VO (aenter (NC.withPrims P) (R (NC.withPrims P)) lo 185 args H) K=AO (R (NC.withPrims P) (.call H.n 185 args H)) fun o=>K o.val o.s.H:=by
 refine enter_fresh rfl ?_ (by kernel_rfl) (by kernel_rfl) (by kernel_rfl)
 show (match NC.prim 185 with | some p=>some p | none=>P 185)=none
 rw [hP];kernel_rfl
theorem en202 {P:FuncId→Option (List AV→Option AV)} (hP:P 202=none) {lo:Nat} {args:List AV} {H:Heap} {K:AV→Heap→Prop}:VO (aenter (NC.withPrims P) (R (NC.withPrims P)) lo 202 args H) K=AO (R (NC.withPrims P) (.call lo 202 args H)) fun o=>K o.val o.s.H:=by
 refine enter_free rfl ?_ (by kernel_rfl) (by kernel_rfl) (by kernel_rfl)
 show (match NC.prim 202 with | some p=>some p | none=>P 202)=none
 rw [hP];kernel_rfl
theorem W_assoc {C:Cfg} {lo:Nat} {fid:FuncId} {rnd:Bool} {T:TT AV} {H:Heap} {M:List Nat} {Q:AExit→TT AV→Heap→List Nat→Prop} (a b c:Code):W C lo fid rnd (.seq a (.seq b c)) T H M Q=W C lo fid rnd (.seq (.seq a b) c) T H M Q:=by
 simp only [W_seq]
 refine congrArg (fun q=>W C lo fid rnd a T H M q) ?_
 funext e T H M
 cases e<;>first | rfl | (show W C lo fid rnd (.seq b c) T H M Q=_;rw [W_seq];rfl)
theorem W_cut {C:Cfg} {lo:Nat} {fid:FuncId} {rnd:Bool} {T:TT AV} {H:Heap} {M:List Nat} {Q:AExit→TT AV→Heap→List Nat→Prop} {a b:Code} (I:TT AV→Heap→List Nat→Prop) (h:W C lo fid rnd a T H M fun e T H M=>e=.nrm∧I T H M) (h2:∀ T H M,I T H M→W C lo fid rnd b T H M Q):W C lo fid rnd (.seq a b) T H M Q:=by
 rw [W_seq]
 refine W_mono h fun e T H M hi => ?_
 rw [hi.1]
 exact h2 T H M hi.2
theorem takeW_len (ix:List Nat→Int) {s:Option (List Leg)} (h:∀ v,s=some v→v.length≤17) {w:List Leg} (hw:w.length≤17):∀ v,takeW ix s w=some v→v.length≤17:=by
 intro v hv
 cases s with
 | none=>cases hv;exact hw
 | some u =>
   unfold takeW at hv
   simp only [] at hv
   split at hv
   · cases hv;exact hw
   · cases hv;exact h _ rfl
theorem takeW_some (ix:List Nat→Int) (s:Option (List Leg)) (w:List Leg):(takeW ix s w).isSome=true:=by
 cases s with
 | none=>rfl
 | some u =>
   unfold takeW
   simp only []
   split<;>rfl
theorem r142 (h151 : P 151 = some p151) (h203 : P 203 = some p203) (h204 : P 204 = some p204) (h229 : P 229 = none) (h185 : P 185 = none) (h202 : P 202 = none) (n : Net) (hn : n.Ok) (hsw : n.sws.length ≤ maxRows) (a b : Pt) (hRa : inR a.2) (hRb : inR b.2) (hRE : ∀ i k, i < n.sws.length → inR (endE n i k).2) (lo : Nat) (H : Heap) (hlo : lo ≤ H.n) :
 ∃ v H', R (NC.withPrims P) (.call lo 142 [.agg n.cells, .agg [.str a.1, .int .i64 a.2], .agg [.str b.1, .int .i64 b.2]] H) = some (.ofVal v H') ∧ ∃ L, Lab (endE n) n.sws.length (findI n.lines) a (lk L) ∧ v = .tup [.agg (optC (wayS (endE n) n.sws.length (findI n.lines) a b L)), .bool (wayS (endE n) n.sws.length (findI n.lines) a b L).isSome] ∧ (∀ v, wayS (endE n) n.sws.length (findI n.lines) a b L = some v → v.length ≤ 17) ∧ ∀ j, j < H.n → H'.get j = H.get j := by
 refine R_of_body (C := NC.withPrims P) (f := 142) (lo := lo) (args := [.agg n.cells, .agg [.str a.1, .int .i64 a.2], .agg [.str b.1, .int .i64 b.2]]) (H := H) (fn := Tryz.f142) (Q := fun v H' => ∃ L, Lab (endE n) n.sws.length (findI n.lines) a (lk L) ∧ v = .tup [.agg (optC (wayS (endE n) n.sws.length (findI n.lines) a b L)), .bool (wayS (endE n) n.sws.length (findI n.lines) a b L).isSome] ∧ (∀ v, wayS (endE n) n.sws.length (findI n.lines) a b L = some v → v.length ≤ 17) ∧ ∀ j, j < H.n → H'.get j = H.get j) (by kernel_rfl) Tryz.func142 rfl rfl ?_
 obtain ⟨s0, hs0⟩ : ∃ s : Option (List Leg), s = if a.1 = b.1 then some [⟨a.1, a.2, b.2⟩] else none := ⟨_, rfl⟩
 have hs1 : ∀ v, s0 = some v → v.length ≤ 17 := by
  intro v hv
  rw [hs0] at hv
  split at hv
  · cases hv; simp
  · cases hv
 have hwS : ∀ L, wayS (endE n) n.sws.length (findI n.lines) a b L = wayR (endE n) (findI n.lines) b L s0 n.sws.length := fun L => by rw [hs0]; rfl
 rw [W_assoc, W_assoc, W_assoc, W_assoc]
 refine W_cut (fun T Ha M => M = [] ∧ getT T 3 = .ptr H.n 0 ∧ getT T 4 = .ptr (H.n + 1) 0 ∧ getT T 5 = .ptr (H.n + 2) 0 ∧ getT T 6 = .ptr (H.n + 3) 0 ∧ getT T 8 = .ptr (H.n + 4) 0 ∧ getT T 9 = .ptr (H.n + 5) 0 ∧ getT T 10 = .fn 202 [] [.ptr (H.n + 5) 0, .ptr H.n 0, .ptr (H.n + 4) 0] ∧ H.n + 5 < Ha.n ∧ Ha.get H.n = .cells n.cells 40 ∧ Ha.get (H.n + 1) = .cells [.str a.1, .int .i64 a.2] 45 ∧ Ha.get (H.n + 2) = .cells [.str b.1, .int .i64 b.2] 45 ∧ Ha.get (H.n + 4) = .cells (optC s0) 246 ∧ Ha.get (H.n + 5) = .cells [.bool s0.isSome] 4 ∧ Ha.get (H.n + 3) = .cells [.ps .nil [], .int .i64 0] 246 ∧ ∀ j, j < H.n → Ha.get j = H.get j) ?_ ?_
 · have hlo0 : (lo ≤ H.n + 1 + 1 + 1 + 1 + 1) = True := by simp only [eq_iff_iff, iff_true]; omega
   cases hB : beqL a.1 b.1 with
   | false =>
     have hne : ¬ (a.1 = b.1) := fun e => by rw [e, beqL_self] at hB; cases hB
     rw [hs0, if_neg hne]
     simp only [go_sem, reduceIte, reduceEqDiff, reduceAdd, reduceMul, reduceSub, reduceLeDiff, reduceLT, Nat.reduceBEq, reduceCtorEq, hB, hlo0, optC, Net.cells]
     refine ⟨?_, rfl, fun j h => ?_⟩
     · rw [if_neg (by omega), if_neg (by omega)]
     (repeat' rw [if_neg (by omega)])
   | true =>
     have heq : a.1 = b.1 := (beqL_iff _ _).1 hB
     rw [hs0, if_pos heq]
     have e204 := pe204 [] 0 ⟨a.1, a.2, b.2⟩ (by unfold maxRows; simp)
     have h1 : wrapq .i64 (Int.add 0 (legW ⟨a.1, a.2, b.2⟩)) = wSum [⟨a.1, a.2, b.2⟩] := sum_one (w := []) (fun l hl => by cases hl) (by simp) hRa hRb
     rw [h1] at e204
     obtain ⟨v3, H3, r1, rfl, r3, r4, r5, r6⟩ := r202 (P := P) h203 n hn [⟨a.1, a.2, b.2⟩] (by unfold maxRows; simp) none (fun v h => by cases h)
      lo (H.n + 5) H.n (H.n + 4) (((((((H.push (.cells n.cells 40)).push (.cells [.str a.1, .int .i64 a.2] 45)).push (.cells [.str b.1, .int .i64 b.2] 45)).push (.cells [.ps .nil [], .int .i64 0] 246)).push (.cells [.ps .nil [], .int .i64 0] 246)).push (.cells [.bool false] 4)).set (H.n + 5) (.cells [.bool false] 4)) (by omega) (by omega) (by simp; omega) (by simp) (by simp; omega) (by simp) (by omega) (by omega) (by omega) (by simp only [go_sem, reduceIte, reduceEqDiff, reduceAdd, reduceMul, reduceSub, reduceLeDiff, reduceLT, Nat.reduceBEq, reduceCtorEq]; rfl) (by simp only [go_sem, reduceIte, reduceEqDiff, reduceAdd, reduceMul, reduceSub, reduceLeDiff, reduceLT, Nat.reduceBEq, reduceCtorEq]; exact if_neg (by omega)) (by simp only [go_sem, reduceIte, reduceEqDiff, reduceAdd, reduceMul, reduceSub, reduceLeDiff, reduceLT, Nat.reduceBEq, reduceCtorEq]; rfl)
     have h2 : takeW (findI n.lines) none [⟨a.1, a.2, b.2⟩] = some [⟨a.1, a.2, b.2⟩] := rfl
     rw [h2] at r5
     simp only [optC] at r5 ⊢
     generalize wSum [⟨a.1, a.2, b.2⟩] = WS at *
     simp only [Net.cells, List.map_nil, List.map_cons, List.nil_append, Leg.row] at e204 r1 r5 ⊢
     have r7 : ∀ j, j < H.n + 4 → H3.get j = ((((H.push (.cells n.cells 40)).push (.cells [.str a.1, .int .i64 a.2] 45)).push (.cells [.str b.1, .int .i64 b.2] 45)).push (.cells [.ps .nil [], .int .i64 0] 246)).get j := fun j h => by
      rw [r6 j (by simp; omega) (by omega) (by omega)]
      simp only [go_sem, reduceIte, reduceEqDiff, reduceAdd, reduceMul, reduceSub, reduceLeDiff, reduceLT, Nat.reduceBEq, reduceCtorEq]
      rw [if_neg (by omega), if_neg (by omega), if_neg (by omega)]
     have u0 := r7 H.n (by omega)
     have u1 := r7 (H.n + 1) (by omega)
     have u2 := r7 (H.n + 2) (by omega)
     have u4 := r7 (H.n + 3) (by omega)
     have u3 : ∀ j, j < H.n → H3.get j = H.get j := fun j h => (r7 j (by omega)).trans (by simp only [go_sem, reduceIte, reduceEqDiff, reduceAdd, reduceMul, reduceSub, reduceLeDiff, reduceLT, Nat.reduceBEq, reduceCtorEq]; rw [if_neg (by omega), if_neg (by omega), if_neg (by omega), if_neg (by omega)])
     simp only [go_sem, reduceIte, reduceEqDiff, reduceAdd, reduceMul, reduceSub, reduceLeDiff, reduceLT, Nat.reduceBEq, reduceCtorEq, Net.cells] at u0 u1 u2 u4
     simp only [go_sem, reduceIte, reduceEqDiff, reduceAdd, reduceMul, reduceSub, reduceLeDiff, reduceLT, Nat.reduceBEq, reduceCtorEq, hB, hlo0, en204 h204, e204, en202 h202, Net.cells, r1, ofVal_v, ofVal_H]
     exact ⟨by simp at r3; omega, u0, u1, u2, r5, r4, u4, u3⟩
 rintro T Ha M ⟨rfl, t3, t4, t5, t6, t8, t9, t10, hnA, g0, g1, g2, g4, g5, gs3, gA⟩
 obtain ⟨v1, H1, q1, ⟨L, rfl, q2, q3, hLab, hLv, q4⟩⟩ := r185 (P := P) h151 h203 h204 h229 n hn hsw a hRa hRE Ha.n Ha (Nat.le_refl _)
 have hx : H.n + 5 < H1.n := by omega
 have g0 := (q4 H.n (by omega)).trans g0
 have g1' := g1
 have g2 := (q4 (H.n + 2) (by omega)).trans g2
 have g4 := (q4 (H.n + 4) (by omega)).trans g4
 have g5 := (q4 (H.n + 5) (by omega)).trans g5
 have gO : ∀ j, (j < H.n ∨ j = H.n + 3) → H1.get j = Ha.get j := fun j h => q4 j (by omega)
 obtain ⟨id, hid⟩ : ∃ id, id = Ha.n + 2 := ⟨_, rfl⟩
 rw [← hid] at q1 q2 q3
 have hid5 : H.n + 5 < id := by omega
 have g0h : Ha.get H.n = .cells n.cells 40 := by rw [← q4 H.n (by omega)]; exact g0
 have g0' := g0
 simp only [Net.cells] at g0h q1 g0'
 obtain ⟨rsK, hrsK⟩ : ∃ r : Nat → Nat → Option (List Leg), r = fun i k => wayD (endE n) (findI n.lines) b L i (wayR (endE n) (findI n.lines) b L s0 i) k := ⟨_, rfl⟩
 have hr0 : rsK 0 0 = s0 := by rw [hrsK]; rfl
 have hrS : ∀ i, rsK (i + 1) 0 = rsK i 2 := fun i => by rw [hrsK]; rfl
 have hrN : wayR (endE n) (findI n.lines) b L s0 n.sws.length = rsK n.sws.length 0 := by rw [hrsK]; rfl
 clear q4 g1'
 simp only [go_sem, reduceIte, reduceEqDiff, reduceAdd, reduceMul, reduceSub, reduceLeDiff, reduceLT, Nat.reduceBEq, reduceCtorEq, t3, t4, g0h, g1, en185 h185, q1, ofVal_v, ofVal_H, g0']
 refine W_for (fun i T H' M => M = [] ∧ getT T 3 = .ptr H.n 0 ∧ getT T 5 = .ptr (H.n + 2) 0 ∧ getT T 6 = .ptr (H.n + 3) 0 ∧ getT T 8 = .ptr (H.n + 4) 0 ∧ getT T 9 = .ptr (H.n + 5) 0 ∧ getT T 10 = .fn 202 [] [.ptr (H.n + 5) 0, .ptr H.n 0, .ptr (H.n + 4) 0] ∧ getT T 11 = .map id ∧ getT T 40 = .ps .unk (n.sws.map Sw.row) ∧ getT T 41 = i64 (n.sws.length : Nat) ∧ getT T 42 = i64 (i : Nat) ∧ (∀ v, rsK i 0 = some v → v.length ≤ 17) ∧ id < H'.n ∧ H'.get H.n = .cells n.cells 40 ∧ H'.get (H.n + 2) = .cells [.str b.1, .int .i64 b.2] 45 ∧ H'.get (H.n + 4) = .cells (optC (rsK i 0)) 246 ∧ H'.get (H.n + 5) = .cells [.bool (rsK i 0).isSome] 4 ∧ (∀ j, (j < H.n ∨ j = H.n + 3) → H'.get j = Ha.get j) ∧ H'.get id = .map (lmap L)) n.sws.length ?_ ?_ ?_
 · simp only [go_sem, reduceIte, reduceEqDiff, reduceAdd, reduceMul, reduceSub, reduceLeDiff, reduceLT, Nat.reduceBEq, reduceCtorEq, t3, t5, t6, t8, t9, t10, List.length_map, hr0]
   exact ⟨hs1, q2, g0, g2, g4, g5, gO, q3⟩
 · rintro i T H1 M hk ⟨rfl, t3, t5, t6, t8, t9, t10, t11, t40, t41, t42, hsl, pn, p0, p2, p4, p5, pO, pL⟩
   obtain ⟨sw, hsx⟩ : ∃ p, n.sws[i]? = some p := ⟨n.sws[i], by simp⟩
   have hr := map_at (f := Sw.row) hsx
   have hw42 := wrap_succ hk hsw
   have hE : endE n i = fun k => if k then (sw.other, endM n sw) else (sw.line, sw.metre) := by funext k; unfold endE; rw [hsx]
   have e151 := pe151 n sw hn
   have y1 : (H.n = H1.n) = False ∧ (H.n = H1.n + 1) = False := by simp only [eq_iff_iff, iff_false]; omega
   have y2 : (H.n + 2 = H1.n) = False ∧ (H.n + 2 = H1.n + 1) = False := by simp only [eq_iff_iff, iff_false]; omega
   have y3 : (H.n + 4 = H1.n) = False ∧ (H.n + 4 = H1.n + 1) = False := by simp only [eq_iff_iff, iff_false]; omega
   have y4 : (H.n + 5 = H1.n) = False ∧ (H.n + 5 = H1.n + 1) = False := by simp only [eq_iff_iff, iff_false]; omega
   have y5 : (id = H1.n) = False ∧ (id = H1.n + 1) = False := by simp only [eq_iff_iff, iff_false]; omega
   have hlo1 : (lo ≤ H1.n) = True := by simp only [eq_iff_iff, iff_true]; omega
   have hlo2 : (lo ≤ H1.n + 1) = True := by simp only [eq_iff_iff, iff_true]; omega
   rw [hrS]
   generalize endM n sw = EM at e151 hE
   obtain ⟨w1, w2, w3, w4, w5⟩ := sw
   simp only at hE
   have p0' := p0
   simp only [Sw.row, Net.cells] at hr e151 p0'
   simp only [go_sem, reduceIte, reduceEqDiff, reduceAdd, reduceMul, reduceSub, reduceLeDiff, reduceLT, Nat.reduceBEq, reduceCtorEq, t3, t5, t6, t8, t9, t10, t11, t40, t41, t42, List.length_map, hk, hr, p0', y1, y2, hlo1, hlo2, en151 h151, Net.cells, e151, ab259, ab334]
   refine W_for (fun k T H2 M => M = [] ∧ getT T 3 = .ptr H.n 0 ∧ getT T 5 = .ptr (H.n + 2) 0 ∧ getT T 6 = .ptr (H.n + 3) 0 ∧ getT T 8 = .ptr (H.n + 4) 0 ∧ getT T 9 = .ptr (H.n + 5) 0 ∧ getT T 10 = .fn 202 [] [.ptr (H.n + 5) 0, .ptr H.n 0, .ptr (H.n + 4) 0] ∧ getT T 11 = .map id ∧ getT T 40 = .ps .unk (n.sws.map Sw.row) ∧ getT T 41 = i64 (n.sws.length : Nat) ∧ getT T 42 = i64 (i : Nat) ∧ getT T 55 = .agg [.str w2, .int .i64 w3, .str w4, .int .i64 EM, .str w4, .int .i64 EM, .str w2, .int .i64 w3] ∧ getT T 56 = i64 (k : Nat) ∧ (∀ v, rsK i k = some v → v.length ≤ 17) ∧ id < H2.n ∧ H2.get H.n = .cells n.cells 40 ∧ H2.get (H.n + 2) = .cells [.str b.1, .int .i64 b.2] 45 ∧ H2.get (H.n + 4) = .cells (optC (rsK i k)) 246 ∧ H2.get (H.n + 5) = .cells [.bool (rsK i k).isSome] 4 ∧ (∀ j, (j < H.n ∨ j = H.n + 3) → H2.get j = Ha.get j) ∧ H2.get id = .map (lmap L)) 2 ?_ ?_ ?_
   · simp only [go_sem, reduceIte, reduceEqDiff, reduceAdd, reduceMul, reduceSub, reduceLeDiff, reduceLT, Nat.reduceBEq, reduceCtorEq, t3, t5, t6, t8, t9, t10, t11, t40, t41, t42, y1, y2, y3, y4, y5]
     refine ⟨hsl, by omega, p0, p2, p4, p5, fun j h => ?_, pL⟩
     (repeat' rw [if_neg (by omega)]); exact pO j h
   rintro k T H2 M hk2 ⟨rfl, i3, i5, i6, i8, i9, i10, i11, i40, i41, i42, i55, i56, hsl, qn, qs0, qs2, q4, q5, qO, qi⟩
   have d0 : (H.n = H2.n) = False := by simp only [eq_iff_iff, iff_false]; omega
   have d1 : (H.n = H2.n + 1) = False := by simp only [eq_iff_iff, iff_false]; omega
   have d2 : (H.n + 2 = H2.n) = False := by simp only [eq_iff_iff, iff_false]; omega
   have d3 : (H.n + 2 = H2.n + 1) = False := by simp only [eq_iff_iff, iff_false]; omega
   have d4 : (id = H2.n) = False := by simp only [eq_iff_iff, iff_false]; omega
   have d5 : (id = H2.n + 1) = False := by simp only [eq_iff_iff, iff_false]; omega
   have d6 : (H.n + 5 = H2.n) = False := by simp only [eq_iff_iff, iff_false]; omega
   have d7 : (H.n + 5 = H2.n + 1) = False := by simp only [eq_iff_iff, iff_false]; omega
   have d8 : (H.n + 4 = H2.n) = False := by simp only [eq_iff_iff, iff_false]; omega
   have d9 : (H.n + 4 = H2.n + 1) = False := by simp only [eq_iff_iff, iff_false]; omega
   have hlo1 : (lo ≤ H2.n) = True := by simp only [eq_iff_iff, iff_true]; omega
   have hlo2 : (lo ≤ H2.n + 1) = True := by simp only [eq_iff_iff, iff_true]; omega
   have qm := qi
   clear hr0 hrS hrN e151 y1 y2 y3 y4 y5 pO pL p0 p2 p4 p5 hs1
   rcases (show k = 0 ∨ k = 1 by omega) with rfl | rfl
   · -- entered at end 0
     have hw25 : wrapq .i64 (Int.add ((0 : Nat) : Int) 1) = ((0 + 1 : Nat) : Int) := rfl
     have hpt : endE n i false = (w2, w3) := by rw [hE]; rfl
     have hqt : endE n i (!false) = (w4, EM) := by rw [hE]; rfl
     have hrs : rsK i (0 + 1) = wayStep (endE n) (findI n.lines) b L i false (rsK i 0) := by rw [hrsK]; rfl
     rw [hrs]
     generalize rsK i 0 = s at hsl q4 q5 ⊢
     have hlook := lookL (H := ((H2.push (.cells [.str [], .int .i64 0, .str [], .int .i64 0] 259)).set H2.n (.cells [.str w2, .int .i64 w3, .str w4, .int .i64 EM] 259))) (id := id) (L := L) (by simp only [go_sem, reduceIte, reduceEqDiff, reduceAdd, reduceMul, reduceSub, reduceLeDiff, reduceLT, Nat.reduceBEq, reduceCtorEq, d4, d5]; exact qi) (w2, w3)
     have hst : wayStep (endE n) (findI n.lines) b L i false s = match lk L (w2, w3) with
      | none => s
      | some r => if w4 = b.1 ∧ r.length < 16 then takeW (findI n.lines) s (r ++ [⟨b.1, EM, b.2⟩]) else s := by
      unfold wayStep
      rw [hpt, hqt]
      try rfl
     rw [hst]
     cases hl : lk L (w2, w3) with
     | none =>
       rw [hl] at hlook
       simp only [] at hlook ⊢
       simp only [go_sem, reduceIte, reduceEqDiff, reduceAdd, reduceMul, reduceSub, reduceLeDiff, reduceLT, Nat.reduceBEq, reduceCtorEq, i3, i5, i6, i8, i9, i10, i11, i40, i41, i42, i55, i56, qm, qs2, qi, i02, i12, cast1, cast2, wl01, wl12, d0, d1, d2, d3, d4, d5, d6, d7, d8, d9, hlo1, hlo2, hw25, hlook]
       refine ⟨hsl, by omega, qs0, q4, q5, fun j h => ?_⟩
       rw [if_neg (by omega), if_neg (by omega), if_neg (by omega), if_neg (by omega)]; exact qO j h
     | some r =>
       rw [hl] at hlook
       obtain ⟨_, σ, s1, s2, s3⟩ := hLv _ _ hl
       have hrl : r.length ≤ 16 := by rw [s2, legsOf_length]; omega
       simp only [rtC] at hlook
       simp only []
       cases hB : beqL w4 b.1 with
       | false =>
         have hne : ¬ (w4 = b.1) := fun e => by rw [e, beqL_self] at hB; cases hB
         rw [if_neg fun h => hne h.1]
         simp only [go_sem, reduceIte, reduceEqDiff, reduceAdd, reduceMul, reduceSub, reduceLeDiff, reduceLT, Nat.reduceBEq, reduceCtorEq, i3, i5, i6, i8, i9, i10, i11, i40, i41, i42, i55, i56, qm, qs2, qi, i02, i12, cast1, cast2, wl01, wl12, d0, d1, d2, d3, d4, d5, d6, d7, d8, d9, hlo1, hlo2, hw25, hlook, hB]
         refine ⟨hsl, by omega, qs0, q4, q5, fun j h => ?_⟩
         rw [if_neg (by omega), if_neg (by omega), if_neg (by omega), if_neg (by omega)]; exact qO j h
       | true =>
       have heq : w4 = b.1 := (beqL_iff _ _).1 hB
       rcases Nat.lt_or_ge r.length 16 with h16 | h16
       case inr =>
        have h16' : ((r.length : Int) < 16) = False := by simp only [eq_iff_iff, iff_false]; omega
        rw [if_neg fun h => by omega]
        simp only [go_sem, reduceIte, reduceEqDiff, reduceAdd, reduceMul, reduceSub, reduceLeDiff, reduceLT, Nat.reduceBEq, reduceCtorEq, i3, i5, i6, i8, i9, i10, i11, i40, i41, i42, i55, i56, qm, qs2, qi, i02, i12, cast1, cast2, wl01, wl12, d0, d1, d2, d3, d4, d5, d6, d7, d8, d9, hlo1, hlo2, hw25, hlook, List.length_map, h16', hB]
        refine ⟨hsl, by omega, qs0, q4, q5, fun j h => ?_⟩
        rw [if_neg (by omega), if_neg (by omega), if_neg (by omega), if_neg (by omega)]; exact qO j h
       have h16' : ((r.length : Int) < 16) = True := by simp only [eq_iff_iff, iff_true]; omega
       rw [if_pos ⟨heq, h16⟩]
       have hrt : wrapq .i64 (Int.add (wSum r) (legW ⟨b.1, EM, b.2⟩)) = wSum (r ++ [⟨b.1, EM, b.2⟩]) := by
        rw [s2]
        refine sum_one (legsOf_in hRE hRa (by have := hRE i false (by omega); rw [hpt] at this; exact this) s1) (by rw [legsOf_length]; omega) ?_ hRb
        have := hRE i (!false) (by omega)
        rw [hqt] at this; exact this
       have e204 := pe204 r (wSum r) ⟨b.1, EM, b.2⟩ (by unfold maxRows; omega)
       rw [hrt] at e204
       obtain ⟨v3, H3, r1, rfl, r3, r4, r5, r6⟩ := r202 (P := P) h203 n hn (r ++ [⟨b.1, EM, b.2⟩]) (by rw [List.length_append]; unfold maxRows; simp; omega) s (fun v h => by have := hsl v h; unfold maxRows; omega)
        lo (H.n + 5) H.n (H.n + 4) ((((H2.push (.cells [.str [], .int .i64 0, .str [], .int .i64 0] 259)).set H2.n (.cells [.str w2, .int .i64 w3, .str w4, .int .i64 EM] 259)).push (.cells [.ps .nil [], .int .i64 0] 246)).set (H2.n + 1) (.cells [.ps .unk (r.map Leg.row), .int .i64 (wSum r)] 246)) (by omega) (by omega) (by simp; omega) (by simp; omega) (by simp; omega) (by simp; omega) (by omega) (by omega) (by omega) (by simp only [go_sem, reduceIte, reduceEqDiff, reduceAdd, reduceMul, reduceSub, reduceLeDiff, reduceLT, Nat.reduceBEq, reduceCtorEq, d6, d7]; exact q5) (by simp only [go_sem, reduceIte, reduceEqDiff, reduceAdd, reduceMul, reduceSub, reduceLeDiff, reduceLT, Nat.reduceBEq, reduceCtorEq, d0, d1]; exact qs0) (by simp only [go_sem, reduceIte, reduceEqDiff, reduceAdd, reduceMul, reduceSub, reduceLeDiff, reduceLT, Nat.reduceBEq, reduceCtorEq, d8, d9]; exact q4)
       have hol := takeW_len (findI n.lines) hsl (w := r ++ [⟨b.1, EM, b.2⟩]) (by rw [List.length_append]; simp; omega)
       have hom := takeW_some (findI n.lines) s (r ++ [⟨b.1, EM, b.2⟩])
       generalize takeW (findI n.lines) s (r ++ [⟨b.1, EM, b.2⟩]) = o at r5 hol hom ⊢
       generalize (r ++ [(⟨b.1, EM, b.2⟩ : Leg)]).map Leg.row = NR at e204 r1
       generalize wSum (r ++ [⟨b.1, EM, b.2⟩]) = NS at e204 r1
       have r7 : ∀ j, j < H2.n → j ≠ H.n + 4 → j ≠ H.n + 5 → H3.get j = H2.get j := fun j h1 h2 h3 => by
        rw [r6 j (by simp; omega) h3 h2]
        simp only [go_sem, reduceIte, reduceEqDiff, reduceAdd, reduceMul, reduceSub, reduceLeDiff, reduceLT, Nat.reduceBEq, reduceCtorEq]
        rw [if_neg (by omega), if_neg (by omega), if_neg (by omega), if_neg (by omega)]
       have r8 : H2.n < H3.n := by simp at r3; omega
       have u0 := (r7 H.n (by omega) (by omega) (by omega)).trans qs0
       have u1 := (r7 (H.n + 2) (by omega) (by omega) (by omega)).trans qs2
       have u2 := (r7 id (by omega) (by omega) (by omega)).trans qi
       have u3 : ∀ j, (j < H.n ∨ j = H.n + 3) → H3.get j = Ha.get j := fun j h => (r7 j (by omega) (by omega) (by omega)).trans (qO j h)
       clear r7 r6 r3
       simp only [Leg.row] at e204
       simp only [go_sem, reduceIte, reduceEqDiff, reduceAdd, reduceMul, reduceSub, reduceLeDiff, reduceLT, Nat.reduceBEq, reduceCtorEq, i3, i5, i6, i8, i9, i10, i11, i40, i41, i42, i55, i56, qm, qs2, qi, i02, i12, cast1, cast2, wl01, wl12, d0, d1, d2, d3, d4, d5, d6, d7, d8, d9, hlo1, hlo2, hw25, hlook, List.length_map, h16', hB, en204 h204, e204, en202 h202, r1, ofVal_v, ofVal_H]
       exact ⟨hol, by omega, u0, u1, r5, by rw [r4, hom], u3, u2⟩
   · -- entered at end 1
     have hw25 : wrapq .i64 (Int.add ((1 : Nat) : Int) 1) = ((1 + 1 : Nat) : Int) := rfl
     have hpt : endE n i true = (w4, EM) := by rw [hE]; rfl
     have hqt : endE n i (!true) = (w2, w3) := by rw [hE]; rfl
     have hrs : rsK i (1 + 1) = wayStep (endE n) (findI n.lines) b L i true (rsK i 1) := by rw [hrsK]; rfl
     rw [hrs]
     generalize rsK i 1 = s at hsl q4 q5 ⊢
     have hlook := lookL (H := ((H2.push (.cells [.str [], .int .i64 0, .str [], .int .i64 0] 259)).set H2.n (.cells [.str w4, .int .i64 EM, .str w2, .int .i64 w3] 259))) (id := id) (L := L) (by simp only [go_sem, reduceIte, reduceEqDiff, reduceAdd, reduceMul, reduceSub, reduceLeDiff, reduceLT, Nat.reduceBEq, reduceCtorEq, d4, d5]; exact qi) (w4, EM)
     have hst : wayStep (endE n) (findI n.lines) b L i true s = match lk L (w4, EM) with
      | none => s
      | some r => if w2 = b.1 ∧ r.length < 16 then takeW (findI n.lines) s (r ++ [⟨b.1, w3, b.2⟩]) else s := by
      unfold wayStep
      rw [hpt, hqt]
      try rfl
     rw [hst]
     cases hl : lk L (w4, EM) with
     | none =>
       rw [hl] at hlook
       simp only [] at hlook ⊢
       simp only [go_sem, reduceIte, reduceEqDiff, reduceAdd, reduceMul, reduceSub, reduceLeDiff, reduceLT, Nat.reduceBEq, reduceCtorEq, i3, i5, i6, i8, i9, i10, i11, i40, i41, i42, i55, i56, qm, qs2, qi, i02, i12, cast1, cast2, wl01, wl12, d0, d1, d2, d3, d4, d5, d6, d7, d8, d9, hlo1, hlo2, hw25, hlook]
       refine ⟨hsl, by omega, qs0, q4, q5, fun j h => ?_⟩
       rw [if_neg (by omega), if_neg (by omega), if_neg (by omega), if_neg (by omega)]; exact qO j h
     | some r =>
       rw [hl] at hlook
       obtain ⟨_, σ, s1, s2, s3⟩ := hLv _ _ hl
       have hrl : r.length ≤ 16 := by rw [s2, legsOf_length]; omega
       simp only [rtC] at hlook
       simp only []
       cases hB : beqL w2 b.1 with
       | false =>
         have hne : ¬ (w2 = b.1) := fun e => by rw [e, beqL_self] at hB; cases hB
         rw [if_neg fun h => hne h.1]
         simp only [go_sem, reduceIte, reduceEqDiff, reduceAdd, reduceMul, reduceSub, reduceLeDiff, reduceLT, Nat.reduceBEq, reduceCtorEq, i3, i5, i6, i8, i9, i10, i11, i40, i41, i42, i55, i56, qm, qs2, qi, i02, i12, cast1, cast2, wl01, wl12, d0, d1, d2, d3, d4, d5, d6, d7, d8, d9, hlo1, hlo2, hw25, hlook, hB]
         refine ⟨hsl, by omega, qs0, q4, q5, fun j h => ?_⟩
         rw [if_neg (by omega), if_neg (by omega), if_neg (by omega), if_neg (by omega)]; exact qO j h
       | true =>
       have heq : w2 = b.1 := (beqL_iff _ _).1 hB
       rcases Nat.lt_or_ge r.length 16 with h16 | h16
       case inr =>
        have h16' : ((r.length : Int) < 16) = False := by simp only [eq_iff_iff, iff_false]; omega
        rw [if_neg fun h => by omega]
        simp only [go_sem, reduceIte, reduceEqDiff, reduceAdd, reduceMul, reduceSub, reduceLeDiff, reduceLT, Nat.reduceBEq, reduceCtorEq, i3, i5, i6, i8, i9, i10, i11, i40, i41, i42, i55, i56, qm, qs2, qi, i02, i12, cast1, cast2, wl01, wl12, d0, d1, d2, d3, d4, d5, d6, d7, d8, d9, hlo1, hlo2, hw25, hlook, List.length_map, h16', hB]
        refine ⟨hsl, by omega, qs0, q4, q5, fun j h => ?_⟩
        rw [if_neg (by omega), if_neg (by omega), if_neg (by omega), if_neg (by omega)]; exact qO j h
       have h16' : ((r.length : Int) < 16) = True := by simp only [eq_iff_iff, iff_true]; omega
       rw [if_pos ⟨heq, h16⟩]
       have hrt : wrapq .i64 (Int.add (wSum r) (legW ⟨b.1, w3, b.2⟩)) = wSum (r ++ [⟨b.1, w3, b.2⟩]) := by
        rw [s2]
        refine sum_one (legsOf_in hRE hRa (by have := hRE i true (by omega); rw [hpt] at this; exact this) s1) (by rw [legsOf_length]; omega) ?_ hRb
        have := hRE i (!true) (by omega)
        rw [hqt] at this; exact this
       have e204 := pe204 r (wSum r) ⟨b.1, w3, b.2⟩ (by unfold maxRows; omega)
       rw [hrt] at e204
       obtain ⟨v3, H3, r1, rfl, r3, r4, r5, r6⟩ := r202 (P := P) h203 n hn (r ++ [⟨b.1, w3, b.2⟩]) (by rw [List.length_append]; unfold maxRows; simp; omega) s (fun v h => by have := hsl v h; unfold maxRows; omega)
        lo (H.n + 5) H.n (H.n + 4) ((((H2.push (.cells [.str [], .int .i64 0, .str [], .int .i64 0] 259)).set H2.n (.cells [.str w4, .int .i64 EM, .str w2, .int .i64 w3] 259)).push (.cells [.ps .nil [], .int .i64 0] 246)).set (H2.n + 1) (.cells [.ps .unk (r.map Leg.row), .int .i64 (wSum r)] 246)) (by omega) (by omega) (by simp; omega) (by simp; omega) (by simp; omega) (by simp; omega) (by omega) (by omega) (by omega) (by simp only [go_sem, reduceIte, reduceEqDiff, reduceAdd, reduceMul, reduceSub, reduceLeDiff, reduceLT, Nat.reduceBEq, reduceCtorEq, d6, d7]; exact q5) (by simp only [go_sem, reduceIte, reduceEqDiff, reduceAdd, reduceMul, reduceSub, reduceLeDiff, reduceLT, Nat.reduceBEq, reduceCtorEq, d0, d1]; exact qs0) (by simp only [go_sem, reduceIte, reduceEqDiff, reduceAdd, reduceMul, reduceSub, reduceLeDiff, reduceLT, Nat.reduceBEq, reduceCtorEq, d8, d9]; exact q4)
       have hol := takeW_len (findI n.lines) hsl (w := r ++ [⟨b.1, w3, b.2⟩]) (by rw [List.length_append]; simp; omega)
       have hom := takeW_some (findI n.lines) s (r ++ [⟨b.1, w3, b.2⟩])
       generalize takeW (findI n.lines) s (r ++ [⟨b.1, w3, b.2⟩]) = o at r5 hol hom ⊢
       generalize (r ++ [(⟨b.1, w3, b.2⟩ : Leg)]).map Leg.row = NR at e204 r1
       generalize wSum (r ++ [⟨b.1, w3, b.2⟩]) = NS at e204 r1
       have r7 : ∀ j, j < H2.n → j ≠ H.n + 4 → j ≠ H.n + 5 → H3.get j = H2.get j := fun j h1 h2 h3 => by
        rw [r6 j (by simp; omega) h3 h2]
        simp only [go_sem, reduceIte, reduceEqDiff, reduceAdd, reduceMul, reduceSub, reduceLeDiff, reduceLT, Nat.reduceBEq, reduceCtorEq]
        rw [if_neg (by omega), if_neg (by omega), if_neg (by omega), if_neg (by omega)]
       have r8 : H2.n < H3.n := by simp at r3; omega
       have u0 := (r7 H.n (by omega) (by omega) (by omega)).trans qs0
       have u1 := (r7 (H.n + 2) (by omega) (by omega) (by omega)).trans qs2
       have u2 := (r7 id (by omega) (by omega) (by omega)).trans qi
       have u3 : ∀ j, (j < H.n ∨ j = H.n + 3) → H3.get j = Ha.get j := fun j h => (r7 j (by omega) (by omega) (by omega)).trans (qO j h)
       clear r7 r6 r3
       simp only [Leg.row] at e204
       simp only [go_sem, reduceIte, reduceEqDiff, reduceAdd, reduceMul, reduceSub, reduceLeDiff, reduceLT, Nat.reduceBEq, reduceCtorEq, i3, i5, i6, i8, i9, i10, i11, i40, i41, i42, i55, i56, qm, qs2, qi, i02, i12, cast1, cast2, wl01, wl12, d0, d1, d2, d3, d4, d5, d6, d7, d8, d9, hlo1, hlo2, hw25, hlook, List.length_map, h16', hB, en204 h204, e204, en202 h202, r1, ofVal_v, ofVal_H]
       exact ⟨hol, by omega, u0, u1, r5, by rw [r4, hom], u3, u2⟩
   rintro T H2 M ⟨rfl, i3, i5, i6, i8, i9, i10, i11, i40, i41, i42, i55, i56, hsl, qn, qs0, qs2, q4, q5, qO, qi⟩
   have h22 : (((2 : Nat) : Int) < 2) = False := by simp
   simp only [go_sem, reduceIte, reduceEqDiff, reduceAdd, reduceMul, reduceSub, reduceLeDiff, reduceLT, Nat.reduceBEq, reduceCtorEq, i3, i5, i6, i8, i9, i10, i11, i40, i41, i42, i56, h22, hw42]
   exact ⟨hsl, qn, qs0, qs2, q4, q5, qO, qi⟩
 · rintro T H1 M ⟨rfl, t3, t5, t6, t8, t9, t10, t11, t40, t41, t42, hsl, pn, p0, p2, p4, p5, pO, pL⟩
   have hlo3 : (lo ≤ H.n + 3) = True := by simp only [eq_iff_iff, iff_true]; omega
   rw [← hrN] at hsl p4 p5
   generalize hw : wayR (endE n) (findI n.lines) b L s0 n.sws.length = o at hsl p4 p5
   have p3 := (pO (H.n + 3) (.inr rfl)).trans gs3
   have z1 : (H.n + 3 = H.n + 4) = False := by simp only [eq_iff_iff, iff_false]; omega
   have hfin : ∃ L', Lab (endE n) n.sws.length (findI n.lines) a (lk L') ∧ wayS (endE n) n.sws.length (findI n.lines) a b L' = o := ⟨L, hLab, by rw [hwS, hw]⟩
   clear hw hwS hrN hrS hr0 hLab hLv hrsK q1 q2 q3 pL
   obtain ⟨L', k1, k2⟩ := hfin
   have hO : ∀ j, j < H.n → (j = H.n + 3) = False := fun j h => by simp only [eq_iff_iff, iff_false]; omega
   cases o <;> simp only [optC, Option.isSome_some, Option.isSome_none] at p4 p5 <;> simp only [go_sem, reduceIte, reduceEqDiff, reduceAdd, reduceMul, reduceSub, reduceLeDiff, reduceLT, Nat.reduceBEq, reduceCtorEq, t3, t5, t6, t8, t9, t10, t11, t40, t41, t42, Nat.lt_irrefl, p3, p4, p5, hlo3, z1]
   · refine ⟨L', k1, by rw [k2]; rfl, fun v hv => hsl v (by rw [← hv, k2]), fun j h => ?_⟩
     simp only [hO j h, if_false]; exact (pO j (.inl h)).trans (gA j h)
   · refine ⟨L', k1, by rw [k2]; rfl, fun v hv => hsl v (by rw [← hv, k2]), fun j h => ?_⟩
     simp only [hO j h, if_false]; exact (pO j (.inl h)).trans (gA j h)
end Go.Sim

/-
Ways: the places are looked at.
-/
-- INJ Leg.row_iff lgs_iff pts_iff
namespace Go.Sim
open Go Go.Proofs
set_option maxRecDepth 100000
set_option maxHeartbeats 64000000
variable {P:FuncId→Option (List AV→Option AV)}
def ptRow (p:Pt):List AV:=[.str p.1,.int .i64 p.2]
theorem ptRow_inj (p q:Pt) (h:ptRow p=ptRow q):p=q:=by
 obtain ⟨a,b⟩:=p
 obtain ⟨c,d⟩:=q
 simp only [ptRow,List.cons.injEq,AV.str.injEq,AV.int.injEq,true_and,and_true] at h
 rw [h.1,h.2]
theorem pts_iff (p q:List Pt):p.map ptRow=q.map ptRow ↔ p=q:=⟨fun h=>map_inj ptRow_inj h,fun h=>by rw [h]⟩
theorem en184 {P:FuncId→Option (List AV→Option AV)} (hP:P 184=none) {lo:Nat} {args:List AV} {H:Heap} {K:AV→Heap→Prop}:VO (aenter (NC.withPrims P) (R (NC.withPrims P)) lo 184 args H) K=AO (R (NC.withPrims P) (.call H.n 184 args H)) fun o=>o.val.strip.pure=true∧K o.val.strip H:=by
 refine enter_pure rfl ?_ (by kernel_rfl) (by kernel_rfl) (by kernel_rfl)
 show (match NC.prim 184 with | some p=>some p | none=>P 184)=none
 rw [hP];kernel_rfl
theorem r184 (h100:P 100=some p100) (n:Net) (hn:n.Ok) (m:List Pt) (lo:Nat) (H:Heap) (hlo:lo≤H.n) (hl:m.length≤maxRows) :
 ∃ t H',R (NC.withPrims P) (.call lo 184 [.ps .unk (m.map ptRow),.fn 100 [.agg n.cells] []] H)=some (.ofVal (.ps t (intRows (m.map fun p=>placeP n p.1 p.2))) H'):=by
 suffices hh:∃ v H',R (NC.withPrims P) (.call lo 184 [.ps .unk (m.map ptRow),.fn 100 [.agg n.cells] []] H)=some (.ofVal v H') ∧ ∃ t,v=.ps t (intRows (m.map fun p=>placeP n p.1 p.2)) by
  obtain ⟨v,H',h1,t,rfl⟩:=hh;exact ⟨t,H',h1⟩
 refine R_of_body (C:=NC.withPrims P) (f:=184) (lo:=lo) (args:=[.ps .unk (m.map ptRow),.fn 100 [.agg n.cells] []]) (H:=H) (fn:=Tryz.f184) (Q:=fun v H'=>∃ t,v=.ps t (intRows (m.map fun p=>placeP n p.1 p.2))) (by kernel_rfl) Tryz.func184 rfl rfl ?_
 have en100:∀ {rec lo args H K},VO (aenter (NC.withPrims P) rec lo 100 args H) K=AO (p100 args) fun v=>K v H:=enter_prim rfl (by show (match NC.prim 100 with | some p=>some p | none=>P 100)=_;rw [h100];kernel_rfl)
 simp only [go_sem,reduceIte,reduceEqDiff,reduceAdd,reduceMul,reduceSub,reduceLeDiff,reduceLT,Nat.reduceBEq,reduceCtorEq]
 refine W_for (fun k T H' M=>M=[]∧getT T 1=.fn 100 [.agg n.cells] []∧getT T 8=.ps .unk (m.map ptRow)∧getT T 9=i64 (m.length:Nat)∧getT T 10=i64 k∧Old H.n H H' ∧ ∃ t,getT T 5=.ps t (intRows ((m.take k).map fun p=>placeP n p.1 p.2))∧AppB H.n H' t (intRows ((m.take k).map fun p=>placeP n p.1 p.2)) 1 33) m.length ?_ ?_ ?_
 · simp only [go_sem,reduceIte,reduceEqDiff,reduceAdd,reduceMul,reduceSub,reduceLeDiff,reduceLT,Nat.reduceBEq,reduceCtorEq,List.length_map];exact ⟨Old.refl H,.nil,rfl,.inl ⟨rfl,rfl⟩⟩
 · rintro k T H' M hk ⟨rfl,g1,g8,g9,g10,hO,t,g5,hA⟩
   obtain ⟨x,hx⟩:∃ p,m[k]? = some p:=⟨m[k],by simp⟩
   have hr:=map_at (f:=ptRow) hx
   have hw:=wrap_succ hk hl
   have htk:intRows ((m.take (k+1)).map fun p=>placeP n p.1 p.2)=intRows ((m.take k).map fun p=>placeP n p.1 p.2)++[[i64 (placeP n x.1 x.2)]]:=by rw [take_map hx];simp [intRows]
   have e100:=pe100 (n,x.1,x.2) hn
   have hlo':lo≤H'.n:=Nat.le_trans hlo hO.1
   obtain ⟨t',H2,ha,hA2,hn2,hO2,_⟩:=app_b (lo:=lo) (hA.new (.cells [.str [],.int .i64 0] 45) (.cells (ptRow x) 45)) (by have:=hO.1;simp;omega) hlo (r:=[i64 (placeP n x.1 x.2)]) (by simp [intRows];omega) rfl (by decide) (intRows_all _)
   have hO1:=hO.new (.cells [.str [],.int .i64 0] 45) (.cells (ptRow x) 45)
   obtain ⟨a,b⟩:=x
   simp only [ptRow] at hr ha hO1
   simp only [Net.cells,i64] at e100
   generalize placeP n a b=E at e100 ha htk hA2
   simp only [go_sem,reduceIte,reduceEqDiff,reduceAdd,reduceMul,reduceSub,reduceLeDiff,reduceLT,Nat.reduceBEq,reduceCtorEq,Net.cells,g1,g8,g9,g10,g5,hk,hr,hw,en100,e100,hO1,hlo',appO,isIntT_slice,rowsIn,ha]
   rw [htk]
   exact ⟨(hO.new _ _).trans hO2 |> fun h=>⟨h.1,h.2⟩,t',rfl,hA2⟩
 · rintro T H' M ⟨rfl,g1,g8,g9,g10,hO,t,g5,hA⟩
   simp only [go_sem,reduceIte,reduceEqDiff,reduceAdd,reduceMul,reduceSub,reduceLeDiff,reduceLT,Nat.reduceBEq,reduceCtorEq,g1,g8,g9,g10,g5,Nat.lt_irrefl,List.take_length]
   exact ⟨t,rfl⟩
def placesP (n:Net) (m:List Pt):Int:=if netP n=0 then firstI (m.map fun p=>placeP n p.1 p.2) else netP n
noncomputable def PPF114:FuncId→Option (List AV→Option AV):=addPrim 111 p111 (addPrim 100 p100 (addPrim 29 p29 (fun _=>none)))
theorem primsF114:PrimsOk NC PPF114:=primsOk_add (primsOk_add (primsOk_add (primsOk_none) (by kernel_rfl) (by kernel_rfl) pok29) (by kernel_rfl) (by kernel_rfl) pok100) (by kernel_rfl) (by kernel_rfl) pok111
theorem enF114_29:En PPF114 29 p29:=enter_prim (by rfl) (by kernel_rfl)
theorem enF114_100:En PPF114 100 p100:=enter_prim (by rfl) (by kernel_rfl)
theorem enF114_111:En PPF114 111 p111:=enter_prim (by rfl) (by kernel_rfl)
attribute [go_sem ↓] enF114_29 enF114_100 enF114_111
theorem c114 (n:Net) (m:List Pt) (hp:n.Ok∧m.length≤maxRows):∀ lo H,CallOk NC lo 114 [.agg n.cells,.ps .unk (m.map ptRow)] H (i64 (placesP n m)) H:=by
 refine contract saneNC primsF114 (fn:=Tryz.f114) (by kernel_rfl) Tryz.func114 rfl rfl (by rfl) (by first | rfl | (split<;>first | rfl | (split<;>rfl))) ?_
 obtain ⟨hn,hl⟩:=hp
 have e29:=pe29 n hn
 have e111:=pe111 (m.map fun p=>placeP n p.1 p.2) (by simpa using hl)
 obtain ⟨tk,H',hr⟩:=r184 (P:=PPF114) rfl n hn m 1 (Heap.empty.push (.cells n.cells 40)) (by simp [empty_n]) hl
 have hsp:placesP n m=if netP n=0 then firstI (m.map fun p=>placeP n p.1 p.2) else netP n:=rfl
 rw [hsp]
 simp only [Net.cells,i64] at e29 hr e111
 rcases Classical.propComplete (netP n=0) with z | z
 case inr=>simp only [go_sem,reduceIte,reduceEqDiff,reduceAdd,reduceMul,reduceSub,reduceLeDiff,reduceLT,Nat.reduceBEq,reduceCtorEq,Net.cells,e29,z]
 simp only [go_sem,reduceIte,reduceEqDiff,reduceAdd,reduceMul,reduceSub,reduceLeDiff,reduceLT,Nat.reduceBEq,reduceCtorEq,Net.cells,e29,z,en184 (show PPF114 184=none from rfl),hr,e111]
noncomputable def p114:List AV→Option AV:=primOf (α:=(Net) × (List Pt)) (fun x=>[.agg x.1.cells,.ps .unk (x.2.map ptRow)]) (fun x=>x.1.Ok∧x.2.length≤maxRows) (fun x=>i64 (placesP x.1 x.2))
theorem pok114:∀ args v,p114 args=some v → ∀ lo H,CallOk NC lo 114 args H v H:=by
 intro args v h
 obtain ⟨x,rfl,hp,rfl⟩:=primOf_inv h
 exact c114 x.1 x.2 hp
theorem pe114 (n:Net) (m:List Pt) (hp:n.Ok∧m.length≤maxRows):p114 [.agg n.cells,.ps .unk (m.map ptRow)]=some (.int .i64 (placesP n m)):=primOf_enc (α:=(Net) × (List Pt)) (enc:=fun x=>[.agg x.1.cells,.ps .unk (x.2.map ptRow)]) (pre:=fun x=>x.1.Ok∧x.2.length≤maxRows) (spec:=fun x=>i64 (placesP x.1 x.2)) (by intro x y h;(simp only [List.cons.injEq,AV.agg.injEq,AV.str.injEq,AV.int.injEq,AV.ps.injEq,AV.bool.injEq,Net.cells_iff,Ln.row_iff,Pc.row_iff,Mv.row_iff,lns_iff,pcs_iff,mvs_iff,Leg.row_iff,lgs_iff,pts_iff,true_and,and_true] at h;first | simpa only [Prod.ext_iff] using h | simpa only [Prod.ext_iff,and_assoc] using h)) (n,m) hp
end Go.Sim

/-
Branches, by the program.
-/
-- INJ Sw.row_iff Br.row_iff
namespace Go.Sim
open Go Go.Proofs
set_option maxRecDepth 100000
set_option maxHeartbeats 16000000
variable {P:FuncId→Option (List AV→Option AV)}
theorem net_sws {n:Net} (h:netP n=0):n.sws.length≤8:=by
 rw [net_same] at h
 unfold netR at h
 by_cases h1:(8:Int) < n.lines.length
 · simp [h1] at h
 · simp only [h1,if_false] at h
   split at h
   · by_cases h2:(8:Int) < n.sws.length
     · simp [h2] at h
     · omega
   · rename_i h3;exact absurd h h3
end Go.Sim

/-
Ways: what a valid network holds to.
-/
namespace Go.Sim
open Go Go.Proofs
set_option maxRecDepth 100000
set_option maxHeartbeats 4000000
theorem firstI_mem0:∀ {es:List Int},firstI es=0 → ∀ e ∈ es,e=0
 | [],_,e,he=>by cases he
 | x::r,h,e,he=>by
   have h':(if x=0 then firstI r else x)=0:=h
   by_cases hx:x=0
   · rw [if_pos hx] at h'
     rcases List.mem_cons.1 he with rfl | he
     · exact hx
     · exact firstI_mem0 h' e he
   · rw [if_neg hx] at h';exact absurd h' hx
theorem allR_mem0 {f:Nat→Int} {n:Nat} (h:allR f n=0):∀ i,i < n→f i=0:=fun i hi=>firstI_mem0 h _ (List.mem_map.2 ⟨i,List.mem_range.2 hi,rfl⟩)
theorem when_zero {b:Bool} {e:Int} (he:e ≠ 0) (h:whenI b e=0):b=false:=by
 cases b with
 | false=>rfl
 | true=>exact absurd h he
theorem netP_parts {n:Net} (h:netP n=0):linesP n.lines=0∧switchesP n=0:=by
 unfold netP at h
 by_cases hl:linesP n.lines=0
 · rw [if_pos hl] at h
   exact ⟨hl,firstI_mem0 h _ (by simp)⟩
 · rw [if_neg hl] at h;exact absurd h hl
theorem line_zero {ls:List Ln} (h:linesP ls=0):∀ i l,ls[i]? = some l→dupP ((ls.take i).map Ln.name) l.name=false∧0 < l.ps.length∧l.ps.length≤8 ∧ ∀ p ∈ l.ps,1≤p.len∧p.len≤100000:=by
 intro i l hl
 unfold linesP at h
 split at h
 · cases h
 have hi:=(List.getElem?_eq_some_iff.1 hl).1
 have h1:=allR_mem0 h i hi
 unfold lineP at h1
 rw [hl] at h1
 simp only [] at h1
 split at h1
 · rename_i h2
   have z:=firstI_mem0 h2
   have z1:=when_zero (by decide) (z _ (List.mem_cons_of_mem _ (List.mem_cons_self ..)))
   have z2:=when_zero (by decide) (z _ (List.mem_cons_of_mem _ (List.mem_cons_of_mem _ (List.mem_cons_self ..))))
   have z3:=when_zero (by decide) (z _ (List.mem_cons_of_mem _ (List.mem_cons_of_mem _ (List.mem_cons_of_mem _ (List.mem_cons_self ..)))))
   simp only [decide_eq_false_iff_not] at z2 z3
   refine ⟨z1,by omega,by omega,fun p hp => ?_⟩
   have z4:=firstI_mem0 (firstI_mem0 h1 _ (List.mem_map.2 ⟨p,hp,rfl⟩)) (rangeI p.len 1 100000) (by simp)
   have z5:=when_zero (by decide) z4
   simp only [Bool.or_eq_false_iff,decide_eq_false_iff_not] at z5
   omega
 · rename_i h2;exact absurd h1 h2
theorem sumW_le:∀ {ps:List Pc} {s:Int},(∀ p ∈ ps,1≤p.len∧p.len≤100000)→0≤s→s+100000 * ps.length≤800000→s+ps.length≤sumW ps s∧sumW ps s≤800000
 | [],s,_,_,_=>by simp [sumW];omega
 | p::r,s,h,h0,h8=>by
   have hp:=h p (by simp)
   have hc:((p::r).length:Int)=(r.length:Int)+1:=by simp
   rw [hc] at h8 ⊢
   have e:wrapq .i64 (Int.add s p.len)=s+p.len:=wrapq_i64 (by show _≤s+p.len;omega) (by show s+p.len≤_;omega)
   show _≤sumW r (wrapq .i64 (Int.add s p.len))∧sumW r (wrapq .i64 (Int.add s p.len))≤_
   rw [e]
   have:=sumW_le (ps:=r) (s:=s+p.len) (fun q hq=>h q (by simp [hq])) (by omega) (by omega)
   omega
theorem lnB_some {ls:List Ln} {s:List Nat} (h:lnB ls s=true):∃ i l,findL ls s=some i∧ls[i]? = some l∧l ∈ ls∧lnOf ls s=l:=by
 unfold lnB at h
 cases hf:findL ls s with
 | none=>rw [hf] at h;cases h
 | some i =>
   obtain ⟨l,h1,h2,h3⟩:=findL_at hf
   refine ⟨i,l,rfl,h1,h3, ?_⟩
   unfold lnOf
   rw [hf]
   simp [h1]
theorem len_in {n:Net} (h:netP n=0) {s:List Nat} (hb:lnB n.lines s=true):1≤sumW (lnOf n.lines s).ps 0∧sumW (lnOf n.lines s).ps 0≤800000:=by
 obtain ⟨i,l,h1,h2,h3,h4⟩:=lnB_some hb
 rw [h4]
 obtain ⟨_,z2,z3,z4⟩:=line_zero (netP_parts h).1 i l h2
 have:=sumW_le (ps:=l.ps) (s:=0) z4 (by omega) (by omega)
 omega
theorem has_in {n:Net} (h:netP n=0) {s:List Nat} {m:Int} (hb:lnB n.lines s=true) (hm:hasB (lnOf n.lines s) m=true):inR m:=by
 have:=len_in h hb
 unfold hasB at hm
 simp only [Bool.and_eq_true,Bool.not_eq_true',decide_eq_false_iff_not,decide_eq_true_eq] at hm
 exact ⟨by omega,by omega⟩
theorem place_in {n:Net} (h:netP n=0) {s:List Nat} {m:Int} (hp:placeP n s m=0):lnB n.lines s=true∧inR m:=by
 unfold placeP at hp
 have z1:=when_zero (by decide) (firstI_mem0 hp _ (List.mem_cons_self ..))
 have z2:=when_zero (by decide) (firstI_mem0 hp _ (List.mem_cons_of_mem _ (List.mem_cons_self ..)))
 simp only [Bool.not_eq_false'] at z1 z2
 exact ⟨z1,has_in h z1 z2⟩
theorem sw_zero {n:Net} (h:netP n=0):∀ s ∈ n.sws,lnB n.lines s.line=true∧hasB (lnOf n.lines s.line) s.metre=true∧lnB n.lines s.other=true∧beqL s.line s.other=false:=by
 intro s hs
 obtain ⟨i,hi⟩:=List.getElem?_of_mem hs
 have h2:=(netP_parts h).2
 unfold switchesP at h2
 split at h2
 · cases h2
 have h1:=allR_mem0 h2 i (List.getElem?_eq_some_iff.1 hi).1
 unfold switchP at h1
 rw [hi] at h1
 simp only [] at h1
 have z:=firstI_mem0 h1
 have z1:=when_zero (by decide) (z (whenI (!lnB n.lines s.line) 10) (by simp))
 have z2:=when_zero (by decide) (z (whenI (!hasB (lnOf n.lines s.line) s.metre) 14) (by simp))
 have z3:=when_zero (by decide) (z (whenI (!lnB n.lines s.other) 10) (by simp))
 have z4:=when_zero (by decide) (z (whenI (beqL s.line s.other) 24) (by simp))
 simp only [Bool.not_eq_false'] at z1 z2 z3
 exact ⟨z1,z2,z3,z4⟩
theorem ends_in {n:Net} (h:netP n=0):∀ i k,i < n.sws.length→lnB n.lines (endE n i k).1=true∧inR (endE n i k).2:=by
 intro i k hi
 obtain ⟨z1,z2,z3,_⟩:=sw_zero h _ (List.getElem_mem hi)
 have e:endE n i k=if k then (n.sws[i].other,endM n n.sws[i]) else (n.sws[i].line,n.sws[i].metre):=by
  unfold endE
  rw [List.getElem?_eq_getElem hi]
 rw [e]
 cases k with
 | false=>exact ⟨z1,has_in h z1 z2⟩
 | true =>
   refine ⟨z3, ?_⟩
   have hl:=len_in h z3
   show inR (endM n n.sws[i])
   unfold endM
   split
   · have e1:Int.sub (sumW (lnOf n.lines n.sws[i].other).ps 0) 1=sumW (lnOf n.lines n.sws[i].other).ps 0 - 1:=rfl
     have e2:wrapq .i64 (Int.sub (sumW (lnOf n.lines n.sws[i].other).ps 0) 1)=sumW (lnOf n.lines n.sws[i].other).ps 0 - 1:=wrapq_i64 (by rw [e1];omega) (by rw [e1];omega)
     rw [e2];exact ⟨by omega,by omega⟩
   · exact ⟨by omega,by omega⟩
theorem findI_inj {n:Net} (_:netP n=0):∀ a b,lnB n.lines a=true→lnB n.lines b=true→findI n.lines a=findI n.lines b→a=b:=by
 intro a b ha hb h
 obtain ⟨i,l,h1,h2,h3,h4⟩:=lnB_some ha
 obtain ⟨j,m,g1,g2,g3,g4⟩:=lnB_some hb
 unfold findI at h
 rw [h1,g1] at h
 have hij:i=j:=by simp only [] at h;omega
 subst hij
 rw [h2] at g2;cases g2
 have e1:beqL l.name a=true:=by
  unfold findL at h1
  rw [List.findIdx?_eq_some_iff_getElem] at h1
  obtain ⟨hlt,h5,_⟩:=h1
  rw [(List.getElem?_eq_some_iff.1 h2).2] at h5;exact h5
 have e2:beqL l.name b=true:=by
  unfold findL at g1
  rw [List.findIdx?_eq_some_iff_getElem] at g1
  obtain ⟨hlt,h5,_⟩:=g1
  rw [(List.getElem?_eq_some_iff.1 h2).2] at h5;exact h5
 rw [← (beqL_iff _ _).1 e1,(beqL_iff _ _).1 e2]
/-! ### The best way -/
noncomputable def bestO (n:Net) (a b:Pt):Option (List Leg):=open Classical in if h:∃ w,Best (endE n) n.sws.length (findI n.lines) a b w then some h.choose else none
theorem bestO_of {n:Net} (h:netP n=0) {a b:Pt} (ha:lnB n.lines a.1=true) {s:Option (List Leg)} (hs:match s with
 | none=>∀ w,¬ isWay (endE n) n.sws.length a b w
 | some w=>Best (endE n) n.sws.length (findI n.lines) a b w):s=bestO n a b:=by
 unfold bestO
 cases s with
 | none =>
   rw [dif_neg]
   rintro ⟨w,hw⟩
   exact hs w hw.way
 | some w =>
   have hex:∃ w,Best (endE n) n.sws.length (findI n.lines) a b w:=⟨w,hs⟩
   rw [dif_pos hex]
   exact congrArg some (Best.uniq (S:=fun s=>lnB n.lines s=true) (findI_inj h) (fun i k hi=>(ends_in h i k hi).1) ha hs hex.choose_spec)
theorem wayS_bestO {n:Net} (h:netP n=0) {a b:Pt} (ha:lnB n.lines a.1=true) {L:Labs} (hL:Lab (endE n) n.sws.length (findI n.lines) a (lk L)):wayS (endE n) n.sws.length (findI n.lines) a b L=bestO n a b :=
 bestO_of h ha (wayS_best (S:=fun s=>lnB n.lines s=true) (findI_inj h) (fun i k hi=>(ends_in h i k hi).1) hL (by have:=net_sws h;omega) ha)
end Go.Sim

/-
Ways, by the reference: all ways that use no switch twice.
-/
namespace Go.Sim
open Go Go.Proofs
set_option maxRecDepth 100000
set_option maxHeartbeats 4000000
section
variable (E:Nat→Bool→Pt) (N:Nat) (b:Pt)
def waysL:Nat→List Leg→Pt→List Bool→List (List Leg)
 | 0,_,_,_=>[]
 | n+1,w,a,used=>(if a.1=b.1 then [w++[⟨a.1,a.2,b.2⟩]] else [])++(List.range N).flatMap fun i=>[false,true].flatMap fun k=>if used.getD i true=true∨(E i k).1 ≠ a.1 then [] else waysL n (w++[⟨a.1,a.2,(E i k).2⟩]) (E i (!k)) (used.set i true)
theorem waysL_sound:∀ (n:Nat) (w:List Leg) (a:Pt) (used:List Bool) (v:List Leg),v ∈ waysL E N b n w a used → ∃ σ,okS E N a σ b∧v=w++legsOf E a σ b
 | 0,_,_,_,_,h=>by cases h
 | n+1,w,a,used,v,h=>by
   unfold waysL at h
   rcases List.mem_append.1 h with h | h
   · split at h
     · rename_i hab
       rw [List.mem_singleton.1 h]
       exact ⟨[],hab,by show _=w++[_];rw [hab]⟩
     · cases h
   · obtain ⟨i,hi,h⟩:=List.mem_flatMap.1 h
     obtain ⟨k,_,h⟩:=List.mem_flatMap.1 h
     split at h
     · cases h
     · rename_i hc
       have hE:(E i k).1=a.1:=Classical.byContradiction fun q=>hc (.inr q)
       obtain ⟨σ,s1,rfl⟩:=waysL_sound n _ _ _ _ h
       refine ⟨(i,k)::σ,⟨List.mem_range.1 hi,hE,s1⟩, ?_⟩
       rw [List.append_assoc]
       rfl
theorem waysL_all:∀ (n:Nat) (w:List Leg) (a:Pt) (used:List Bool) (σ:List Stp),okS E N a σ b→(σ.map Prod.fst).Nodup→(∀ s ∈ σ,used.getD s.1 true=false)→σ.length < n→w++legsOf E a σ b ∈ waysL E N b n w a used
 | 0,_,_,_,_,_,_,_,h=>absurd h (Nat.not_lt_zero _)
 | n+1,w,a,used,σ,h,hd,hu,hl=>by
   unfold waysL
   cases σ with
   | nil =>
     refine List.mem_append.2 (.inl ?_)
     have hab:a.1=b.1:=h
     rw [if_pos hab]
     refine List.mem_singleton.2 ?_
     show w++[_]=_
     rw [hab]
   | cons s r =>
     refine List.mem_append.2 (.inr ?_)
     obtain ⟨i,k⟩:=s
     obtain ⟨h1,h2,h3⟩:=h
     refine List.mem_flatMap.2 ⟨i,List.mem_range.2 h1,List.mem_flatMap.2 ⟨k,by cases k<;>simp, ?_⟩⟩
     have hui:=hu (i,k) (by simp)
     simp only at hui
     rw [if_neg (by rintro (q | q);· rw [hui] at q;cases q
                    · exact q h2)]
     have:=waysL_all n (w++[⟨a.1,a.2,(E i k).2⟩]) (E i (!k)) (used.set i true) r h3 (by simp only [List.map_cons,List.nodup_cons] at hd;exact hd.2) (by
      intro s hs
      have hne:s.1 ≠ i:=by
       simp only [List.map_cons,List.nodup_cons] at hd
       intro q
       exact hd.1 (by rw [← q];exact List.mem_map.2 ⟨s,hs,rfl⟩)
      have:=hu s (by simp [hs])
      rw [List.getD_eq_getElem?_getD,List.getElem?_set_ne (Ne.symm hne),← List.getD_eq_getElem?_getD];exact this) (by simpa using hl)
     rw [List.append_assoc] at this
     have e:legsOf E a ((i,k)::r) b=[⟨a.1,a.2,(E i k).2⟩]++legsOf E (E i (!k)) r b:=by
      show _::_=_::_
      first | rfl | rw [h2];rfl
     rw [e];exact this
end
theorem fold_inv {ix:List Nat→Int}:∀ (l:List (List Leg)) {Q:List Leg→Prop} {s:Option (List Leg)},InvW ix Q s→InvW ix (fun v=>Q v∨v ∈ l) (l.foldl (takeW ix) s)
 | [],Q,s,h=>h.congr fun v=>⟨.inl,fun x=>x.elim id fun y=>by cases y⟩
 | x::r,Q,s,h=>(fold_inv r (takeW_inv h x)).congr fun v=>by
   rw [List.mem_cons]
   exact or_assoc
theorem waysL_best {E:Nat→Bool→Pt} {N:Nat} {ix:List Nat→Int} {S:List Nat→Prop} (inj:∀ a b,S a→S b→ix a=ix b→a=b) (hS:∀ i k,i < N→S (E i k).1) {a b:Pt} (ha:S a.1) :
 match (waysL E N b (N+1) [] a (List.replicate N false)).foldl (takeW ix) none with
 | none=>∀ w,¬ isWay E N a b w
 | some w=>Best E N ix a b w:=by
 have hi:=fold_inv (ix:=ix) (waysL E N b (N+1) [] a (List.replicate N false)) (Q:=fun _=>False) (s:=none) (fun v h=>h)
 have hall:∀ σ,okS E N a σ b → ∃ τ,okS E N a τ b∧legsOf E a τ b ∈ waysL E N b (N+1) [] a (List.replicate N false)∧wLe ix (legsOf E a τ b) (legsOf E a σ b):=by
  intro σ hσ
  obtain ⟨τ,t1,t2,t3⟩:=cut_all E N σ.length (Nat.le_refl _) hσ
  have hlt:∀ s ∈ τ,s.1 < N:=okS_lt E N t1
  have hlen:τ.length≤N:=simple_few t1 t2
  refine ⟨τ,t1, ?_, ?_⟩
  · have:=waysL_all E N b (N+1) [] a (List.replicate N false) τ t1 t2 (fun s hs=>by rw [List.getD_eq_getElem?_getD,List.getElem?_replicate,if_pos (hlt s hs)];rfl) (by omega)
    rwa [List.nil_append] at this
  · rcases t3 with rfl | ⟨t3,t4⟩
    · exact wLe_refl ix _
    · exact wLt_le ix (wLt_short ix t4 (by rw [legsOf_length,legsOf_length];omega))
 cases hw:(waysL E N b (N+1) [] a (List.replicate N false)).foldl (takeW ix) none with
 | none =>
   rw [hw] at hi
   rintro w ⟨σ,s1,_⟩
   obtain ⟨τ,_,t2,_⟩:=hall σ s1
   exact hi _ (.inr t2)
 | some w =>
   rw [hw] at hi
   obtain ⟨hm,hl⟩:=hi
   have hm:=hm.resolve_left id
   obtain ⟨ρ,r1,r2⟩:=waysL_sound E N b _ _ _ _ _ hm
   rw [List.nil_append] at r2
   refine ⟨⟨ρ,r1,r2⟩,fun σ hσ => ?_⟩
   obtain ⟨τ,t1,t2,t3⟩:=hall σ hσ
   refine wLe_trans ix inj ?_ ?_ (hl _ (.inr t2)) t3
   · rw [r2];exact legsOf_knownL hS ha r1
   · exact legsOf_knownL hS ha t1
end Go.Sim

/-
Ways: the reference's order is the order of ways.
-/
namespace Go.Sim
open Go Go.Proofs
set_option maxRecDepth 100000
set_option maxHeartbeats 4000000
theorem absR_len {l:Leg} (h1:inR l.fr) (h2:inR l.to):absR (wrapq .i64 (Int.sub l.to l.fr))=l.len∧0≤l.len∧l.len≤800000:=by
 obtain ⟨a1,a2⟩:=h1
 obtain ⟨b1,b2⟩:=h2
 have e2:Int.sub l.to l.fr=l.to - l.fr:=rfl
 unfold absR
 rw [e2,wrap_small (x:=l.to - l.fr) (by omega) (by omega)]
 have e1:Int.sub 0 (l.to - l.fr)=0 - (l.to - l.fr):=rfl
 have e3:wrapq .i64 (Int.sub 0 (l.to - l.fr))=0 - (l.to - l.fr):=by rw [e1];exact wrap_small (by omega) (by omega)
 rw [e3]
 unfold Leg.len maxI dI
 (repeat' split)<;>omega
theorem sumR_eq:∀ {w:List Leg} {s:Int},(∀ l ∈ w,inR l.fr∧inR l.to)→0≤s→s+800000 * w.length≤1000000000→sumR w s=s+wSum w
 | [],s,_,_,_=>by simp [sumR,wSum]
 | l::r,s,h,h0,h8=>by
   obtain ⟨h1,h2⟩:=h l (by simp)
   obtain ⟨e1,e2,e3⟩:=absR_len h1 h2
   have hc:((l::r).length:Int)=(r.length:Int)+1:=by simp
   rw [hc] at h8
   have e:wrapq .i64 (Int.add s l.len)=s+l.len:=wrapq_i64 (by show _≤s+l.len;omega) (by show s+l.len≤_;omega)
   show sumR r (wrapq .i64 (Int.add s (absR (wrapq .i64 (Int.sub l.to l.fr)))))=s+(l.len+wSum r)
   rw [e1,e,sumR_eq (fun q hq=>h q (by simp [hq])) (by omega) (by omega)]
   omega
end Go.Sim

/-
Ways: Way, by the program.
-/
-- INJ Leg.row_iff lgs_iff pts_iff ptr_iff
namespace Go.Sim
open Go Go.Proofs
set_option maxRecDepth 100000
set_option maxHeartbeats 64000000
variable {P:FuncId→Option (List AV→Option AV)}
theorem ptr_iff (p q:Pt):ptRow p=ptRow q ↔ p=q:=⟨ptRow_inj p q,fun h=>by rw [h]⟩
theorem en142 {P:FuncId→Option (List AV→Option AV)} (hP:P 142=none) {lo:Nat} {args:List AV} {H:Heap} {K:AV→Heap→Prop}:VO (aenter (NC.withPrims P) (R (NC.withPrims P)) lo 142 args H) K=AO (R (NC.withPrims P) (.call H.n 142 args H)) fun o=>o.val.strip.pure=true∧K o.val.strip H:=by
 refine enter_pure rfl ?_ (by kernel_rfl) (by kernel_rfl) (by kernel_rfl)
 show (match NC.prim 142 with | some p=>some p | none=>P 142)=none
 rw [hP];kernel_rfl
noncomputable def wayP (n:Net) (a b:Pt):List AV:=if placesP n [a,b]=0 then (match bestO n a b with
 | none=>[.ps .unk [],i64 0,i64 18]
 | some w=>[.ps .unk (w.map Leg.row),i64 (wSum w),i64 0]) else [.ps .unk [],i64 0,i64 (placesP n [a,b])]
theorem wayP_pure (n:Net) (a b:Pt):(AV.tup (wayP n a b)).pure=true:=by
 unfold wayP
 repeat' split
 all_goals rfl
theorem places_zero {n:Net} {m:List Pt} (h:placesP n m=0):netP n=0 ∧ ∀ p ∈ m,placeP n p.1 p.2=0:=by
 unfold placesP at h
 by_cases hn:netP n=0
 · rw [if_pos hn] at h
   exact ⟨hn,fun p hp=>firstI_mem0 h _ (List.mem_map.2 ⟨p,hp,rfl⟩)⟩
 · rw [if_neg hn] at h;exact absurd h hn
noncomputable def PPF71:FuncId→Option (List AV→Option AV):=addPrim 204 p204 (addPrim 203 p203 (addPrim 151 p151 (addPrim 114 p114 (fun _=>none))))
theorem primsF71:PrimsOk NC PPF71:=primsOk_add (primsOk_add (primsOk_add (primsOk_add (primsOk_none) (by kernel_rfl) (by kernel_rfl) pok114) (by kernel_rfl) (by kernel_rfl) pok151) (by kernel_rfl) (by kernel_rfl) pok203) (by kernel_rfl) (by kernel_rfl) pok204
theorem enF71_114:En PPF71 114 p114:=enter_prim (by rfl) (by kernel_rfl)
theorem enF71_151:En PPF71 151 p151:=enter_prim (by rfl) (by kernel_rfl)
theorem enF71_203:En PPF71 203 p203:=enter_prim (by rfl) (by kernel_rfl)
theorem enF71_204:En PPF71 204 p204:=enter_prim (by rfl) (by kernel_rfl)
attribute [go_sem ↓] enF71_114 enF71_151 enF71_203 enF71_204
theorem c71 (n : Net) (a b : Pt) (hp : n.Ok) : ∀ lo H, CallOk NC lo 71 [.agg n.cells, .agg (ptRow a), .agg (ptRow b)] H (.tup (wayP n a b)) H := by
 refine contract saneNC primsF71 (fn := Tryz.f71) (by kernel_rfl) Tryz.func71 rfl rfl (by rfl) (wayP_pure n a b) ?_
 have e114 := pe114 n [a, b] ⟨hp, by unfold maxRows; simp⟩
 unfold wayP
 obtain ⟨a1, a2⟩ := a
 obtain ⟨b1, b2⟩ := b
 simp only [Net.cells, i64, ptRow, List.map_cons, List.map_nil] at e114
 rcases Classical.propComplete (placesP n [(a1, a2), (b1, b2)] = 0) with z | z
 case inr =>
  generalize placesP n [(a1, a2), (b1, b2)] = E at e114 z ⊢
  simp only [go_sem, reduceIte, reduceEqDiff, reduceAdd, reduceMul, reduceSub, reduceLeDiff, reduceLT, Nat.reduceBEq, reduceCtorEq, Net.cells, ptRow, e114, z]
 have hz := places_zero (of_eq_true z)
 have hA := place_in hz.1 (hz.2 (a1, a2) (by simp))
 have hB := place_in hz.1 (hz.2 (b1, b2) (by simp))
 obtain ⟨v, H', hr, L, hL, rfl, hlen, _⟩ := r142 (P := PPF71) rfl rfl rfl rfl rfl rfl n hp (by have := net_sws hz.1; unfold maxRows; omega) (a1, a2) (b1, b2) hA.2 hB.2 (fun i k hi => (ends_in hz.1 i k hi).2) 3 (((Heap.empty.push (.cells n.cells 40)).push (.cells [.str a1, .int .i64 a2] 45)).push (.cells [.str b1, .int .i64 b2] 45)) (by rw [hn_push, hn_push, hn_push]; exact Nat.le_refl 3)
 rw [wayS_bestO hz.1 hA.1 hL] at hr hlen
 generalize placesP n [(a1, a2), (b1, b2)] = E at e114 z ⊢
 generalize bestO n (a1, a2) (b1, b2) = o at hr hlen ⊢
 simp only [Net.cells] at hr
 cases o with
 | none =>
   simp only [optC, Option.isSome_none] at hr
   simp only [go_sem, reduceIte, reduceEqDiff, reduceAdd, reduceMul, reduceSub, reduceLeDiff, reduceLT, Nat.reduceBEq, reduceCtorEq, Net.cells, ptRow, e114, z, en142 (show PPF71 142 = none from rfl), hr]
   rfl
 | some w =>
   simp only [optC, Option.isSome_some] at hr
   simp only [go_sem, reduceIte, reduceEqDiff, reduceAdd, reduceMul, reduceSub, reduceLeDiff, reduceLT, Nat.reduceBEq, reduceCtorEq, Net.cells, ptRow, e114, z, en142 (show PPF71 142 = none from rfl), hr]
   rfl
noncomputable def p71:List AV→Option AV:=primOf (α:=(Net) × (Pt) × (Pt)) (fun x=>[.agg x.1.cells,.agg (ptRow x.2.1),.agg (ptRow x.2.2)]) (fun x=>x.1.Ok) (fun x=>.tup (wayP x.1 x.2.1 x.2.2))
theorem pok71:∀ args v,p71 args=some v → ∀ lo H,CallOk NC lo 71 args H v H:=by
 intro args v h
 obtain ⟨x,rfl,hp,rfl⟩:=primOf_inv h
 exact c71 x.1 x.2.1 x.2.2 hp
theorem pe71 (n:Net) (a b:Pt) (hp:n.Ok):p71 [.agg n.cells,.agg (ptRow a),.agg (ptRow b)]=some (.tup (wayP n a b)):=primOf_enc (α:=(Net) × (Pt) × (Pt)) (enc:=fun x=>[.agg x.1.cells,.agg (ptRow x.2.1),.agg (ptRow x.2.2)]) (pre:=fun x=>x.1.Ok) (spec:=fun x=>.tup (wayP x.1 x.2.1 x.2.2)) (by intro x y h;(simp only [List.cons.injEq,AV.agg.injEq,AV.str.injEq,AV.int.injEq,AV.ps.injEq,AV.bool.injEq,Net.cells_iff,Ln.row_iff,Pc.row_iff,Mv.row_iff,lns_iff,pcs_iff,mvs_iff,Leg.row_iff,lgs_iff,pts_iff,ptr_iff,true_and,and_true] at h;first | simpa only [Prod.ext_iff] using h | simpa only [Prod.ext_iff,and_assoc] using h)) (n,a,b) hp
end Go.Sim

/-
Ways: the least way, by the reference.
-/
-- INJ Leg.row_iff lgs_iff pts_iff ptr_iff
namespace Go.Sim
open Go Go.Proofs
set_option maxRecDepth 100000
set_option maxHeartbeats 16000000
variable {P:FuncId→Option (List AV→Option AV)}
theorem bestO_in {n:Net} (h:netP n=0) {a b:Pt} (hRa:inR a.2) (hRb:inR b.2) {w:List Leg} (hw:bestO n a b=some w):∃ σ,okS (endE n) n.sws.length a σ b∧w=legsOf (endE n) a σ b∧(∀ l ∈ w,inR l.fr∧inR l.to):=by
 unfold bestO at hw
 split at hw
 · rename_i hex
   cases hw
   obtain ⟨σ,s1,s2⟩:=hex.choose_spec.way
   exact ⟨σ,s1,s2,by rw [s2];exact legsOf_in (fun i k hi=>(ends_in h i k hi).2) hRa hRb s1⟩
 · cases hw
theorem bestO_best {n:Net} {a b:Pt} {w:List Leg} (hw:bestO n a b=some w):Best (endE n) n.sws.length (findI n.lines) a b w:=by
 unfold bestO at hw
 split at hw
 · rename_i hex
   cases hw
   exact hex.choose_spec
 · cases hw
theorem bestO_len {n:Net} {a b:Pt} {w:List Leg} (hw:bestO n a b=some w):w.length≤n.sws.length+1:=by
 have hb:=bestO_best hw
 obtain ⟨σ,s1,rfl⟩:=hb.way
 obtain ⟨τ,t1,t2,t3⟩:=cut_all (endE n) n.sws.length σ.length (Nat.le_refl _) s1
 have hl:=simple_few t1 t2
 rw [legsOf_length]
 rcases t3 with rfl | ⟨t3,t4⟩
 · omega
 · have hq:=wLt_short (findI n.lines) (a:=legsOf (endE n) a τ b) (b:=legsOf (endE n) a σ b) t4 (by rw [legsOf_length,legsOf_length];omega)
   exact (wLe_no (findI n.lines) (hb.least τ t1) hq).elim
end Go.Sim

/-
Ways: a way that is given, by the program.
-/
-- INJ Leg.row_iff lgs_iff pts_iff ptr_iff
namespace Go.Sim
open Go Go.Proofs
set_option maxRecDepth 100000
set_option maxHeartbeats 64000000
variable {P:FuncId→Option (List AV→Option AV)}
theorem en206 {P:FuncId→Option (List AV→Option AV)} (hP:P 206=none) {lo:Nat} {args:List AV} {H:Heap} {K:AV→Heap→Prop}:VO (aenter (NC.withPrims P) (R (NC.withPrims P)) lo 206 args H) K=AO (R (NC.withPrims P) (.call H.n 206 args H)) fun o=>o.val.strip.pure=true∧K o.val.strip H:=by
 refine enter_pure rfl ?_ (by kernel_rfl) (by kernel_rfl) (by kernel_rfl)
 show (match NC.prim 206 with | some p=>some p | none=>P 206)=none
 rw [hP];kernel_rfl
theorem en247 {P:FuncId→Option (List AV→Option AV)} (hP:P 247=none) {lo:Nat} {args:List AV} {H:Heap} {K:AV→Heap→Prop}:VO (aenter (NC.withPrims P) (R (NC.withPrims P)) lo 247 args H) K=AO (R (NC.withPrims P) (.call H.n 247 args H)) fun o=>o.val.strip.pure=true∧K o.val.strip H:=by
 refine enter_pure rfl ?_ (by kernel_rfl) (by kernel_rfl) (by kernel_rfl)
 show (match NC.prim 247 with | some p=>some p | none=>P 247)=none
 rw [hP];kernel_rfl
theorem en205 {P:FuncId→Option (List AV→Option AV)} (hP:P 205=none) {lo:Nat} {args:List AV} {H:Heap} {K:AV→Heap→Prop}:VO (aenter (NC.withPrims P) (R (NC.withPrims P)) lo 205 args H) K=AO (R (NC.withPrims P) (.call H.n 205 args H)) fun o=>o.val.strip.pure=true∧K o.val.strip H:=by
 refine enter_pure rfl ?_ (by kernel_rfl) (by kernel_rfl) (by kernel_rfl)
 show (match NC.prim 205 with | some p=>some p | none=>P 205)=none
 rw [hP];kernel_rfl
theorem en143 {P:FuncId→Option (List AV→Option AV)} (hP:P 143=none) {lo:Nat} {args:List AV} {H:Heap} {K:AV→Heap→Prop}:VO (aenter (NC.withPrims P) (R (NC.withPrims P)) lo 143 args H) K=AO (R (NC.withPrims P) (.call H.n 143 args H)) fun o=>o.val.strip.pure=true∧K o.val.strip H:=by
 refine enter_pure rfl ?_ (by kernel_rfl) (by kernel_rfl) (by kernel_rfl)
 show (match NC.prim 143 with | some p=>some p | none=>P 143)=none
 rw [hP];kernel_rfl
theorem en144 {P:FuncId→Option (List AV→Option AV)} (hP:P 144=none) {lo:Nat} {args:List AV} {H:Heap} {K:AV→Heap→Prop}:VO (aenter (NC.withPrims P) (R (NC.withPrims P)) lo 144 args H) K=AO (R (NC.withPrims P) (.call H.n 144 args H)) fun o=>o.val.strip.pure=true∧K o.val.strip H:=by
 refine enter_pure rfl ?_ (by kernel_rfl) (by kernel_rfl) (by kernel_rfl)
 show (match NC.prim 144 with | some p=>some p | none=>P 144)=none
 rw [hP];kernel_rfl
def ptB (p q:Pt):Bool:=beqL p.1 q.1 && eqI p.2 q.2
theorem ptB_iff (p q:Pt):ptB p q=true ↔ p=q:=by
 obtain ⟨a,i⟩:=p
 obtain ⟨b,j⟩:=q
 unfold ptB
 simp only [Bool.and_eq_true,beqL_iff,eqI_iff,decide_eq_true_eq,Prod.mk.injEq]
def joinW (n:Net) (a b:Pt) (s:Sw):Bool:=(ptB (s.line,s.metre) a && ptB (s.other,endM n s) b) || (ptB (s.line,s.metre) b && ptB (s.other,endM n s) a)
def joinN (n:Net) (a b:Pt):Bool:=n.sws.any (joinW n a b)
theorem aeq259' (a a' c c':List Nat) (b b' d d':Int):aeqT NC.P 100 259 (.agg [.str a,.int .i64 b,.str c,.int .i64 d]) (.agg [.str a',.int .i64 b',.str c',.int .i64 d']) =
 (match (match some (beqL a a') with
   | some true=>(match some (eqI b b') with
     | some true=>some true
     | some false=>some false
     | none=>none)
   | some false=>some false
   | none=>none) with
 | some true=>(match (match some (beqL c c') with
   | some true=>(match some (eqI d d') with
     | some true=>some true
     | some false=>some false
     | none=>none)
   | some false=>some false
   | none=>none) with
   | some true=>some true
   | some false=>some false
   | none=>none)
 | some false=>some false
 | none=>none):=by kernel_rfl
theorem aeq259 (a a' c c':List Nat) (b b' d d':Int):aeqT NC.P 100 259 (.agg [.str a,.int .i64 b,.str c,.int .i64 d]) (.agg [.str a',.int .i64 b',.str c',.int .i64 d'])=some (ptB (a,b) (a',b') && ptB (c,d) (c',d')):=by
 unfold ptB
 rw [aeq259']
 cases beqL a a'<;>cases eqI b b'<;>cases beqL c c'<;>cases eqI d d'<;>rfl
theorem ety259:eqType NC.P 100 259=true:=by kernel_rfl
theorem en151' (h:P 151=some p151) {lo:Nat} {rec:Rec} {args:List AV} {H:Heap} {K:AV→Heap→Prop}:VO (aenter (NC.withPrims P) rec lo 151 args H) K=AO (p151 args) fun v=>K v H:=enter_prim (by rfl) (known h (by kernel_rfl))
theorem r206 (h151:P 151=some p151) (n:Net) (hn:n.Ok) (a b:Pt) (s:Sw) (cn ca cb lo:Nat) (H:Heap) (hlo:lo≤H.n) (h1:cn < H.n) (h2:ca < H.n) (h3:cb < H.n) (g1:H.get cn=.cells n.cells 40) (g2:H.get ca=.cells (ptRow a) 45) (g3:H.get cb=.cells (ptRow b) 45) :
 ∃ H',R (NC.withPrims P) (.call lo 206 [.agg s.row,.ptr cn 0,.ptr ca 0,.ptr cb 0] H)=some (.ofVal (.bool (joinW n a b s)) H'):=by
 have e151:=pe151 n s hn
 obtain ⟨v,H',q1,q2⟩:=R_of_body (C:=NC.withPrims P) (f:=206) (lo:=lo) (args:=[.agg s.row,.ptr cn 0,.ptr ca 0,.ptr cb 0]) (H:=H) (fn:=Tryz.f206) (Q:=fun v H'=>v=.bool (joinW n a b s)) (by kernel_rfl) Tryz.func206 rfl rfl (by
  have y1:(cn=H.n)=False∧(ca=H.n)=False∧(cb=H.n)=False∧(cn=H.n+1)=False∧(ca=H.n+1)=False∧(cb=H.n+1)=False:=by simp only [eq_iff_iff,iff_false];omega
  have hlo1:(lo≤H.n+1)=True:=by simp only [eq_iff_iff,iff_true];omega
  have hJ:joinW n a b s=((ptB (s.line,s.metre) a && ptB (s.other,endM n s) b) || (ptB (s.line,s.metre) b && ptB (s.other,endM n s) a)):=rfl
  rw [hJ]
  generalize endM n s=EM at e151 ⊢
  obtain ⟨a1,a2⟩:=a
  obtain ⟨b1,b2⟩:=b
  obtain ⟨w1,w2,w3,w4,w5⟩:=s
  simp only [ptRow,Net.cells,Sw.row,i64] at e151 g1 g2 g3 ⊢
  have k1:=aeq259 w2 a1 w4 b1 w3 a2 EM b2
  have k2:=aeq259 w2 b1 w4 a1 w3 b2 EM a2
  generalize (ptB (w2,w3) (a1,a2) && ptB (w4,EM) (b1,b2))=B1 at k1 ⊢
  generalize (ptB (w2,w3) (b1,b2) && ptB (w4,EM) (a1,a2))=B2 at k2 ⊢
  cases B1<;>cases B2<;>simp only [go_sem,reduceIte,reduceEqDiff,reduceAdd,reduceMul,reduceSub,reduceLeDiff,reduceLT,Nat.reduceBEq,reduceCtorEq,g1,g2,g3,y1,hlo1,en151' h151,e151,ab259,ety259,k1,k2])
 exact ⟨H',by rw [q1,q2]⟩
theorem any_none {α:Type} {f:α→Bool} {l:List α}:(∀ (j:Nat) x,j < l.length→l[j]? = some x→f x=false)→l.any f=false:=by
 intro h
 rw [List.any_eq_false]
 intro x hx
 obtain ⟨j,hj⟩:=List.mem_iff_getElem?.1 hx
 rw [h j x (List.getElem?_eq_some_iff.1 hj).1 hj];simp
theorem r247 (h206:P 206=none) (l:List Sw) (f:Sw→Bool) (caps:List AV) (hcs:caps.map AV.strip=caps) (lo:Nat) (H:Heap) (hl:l.length≤maxRows)
 (hcall:∀ lo s H',Old H.n H H'→lo≤H'.n → ∃ H2,R (NC.withPrims P) (.call lo 206 (.agg s.row::caps) H')=some (.ofVal (.bool (f s)) H2)) :
 ∃ (k:Int) (H':Heap),R (NC.withPrims P) (.call lo 247 [.ps .unk (l.map Sw.row),.fn 206 [] caps] H)=some (.ofVal (i64 k) H')∧((k < 0)=(l.any f=false)):=by
 suffices hh:∃ v H',R (NC.withPrims P) (.call lo 247 [.ps .unk (l.map Sw.row),.fn 206 [] caps] H)=some (.ofVal v H') ∧ ∃ k:Int,v=i64 k∧((k < 0)=(l.any f=false)) by
  obtain ⟨v,H',h1,k,rfl,h2⟩:=hh;exact ⟨k,H',h1,h2⟩
 refine R_of_body (C:=NC.withPrims P) (f:=247) (lo:=lo) (args:=[.ps .unk (l.map Sw.row),.fn 206 [] caps]) (H:=H) (fn:=Tryz.f247) (Q:=fun v H'=>∃ k:Int,v=i64 k∧((k < 0)=(l.any f=false))) (by kernel_rfl) Tryz.func247 rfl rfl ?_
 simp only [go_sem,reduceIte,reduceEqDiff,reduceAdd,reduceMul,reduceSub,reduceLeDiff,reduceLT,Nat.reduceBEq,reduceCtorEq]
 refine W_for (fun k T H' M=>M=[]∧getT T 0=.ps .unk (l.map Sw.row)∧getT T 1=.fn 206 [] caps∧getT T 7=i64 (l.length:Nat)∧getT T 8=i64 k∧H'=H ∧ ∀ (j:Nat) x,j < k→l[j]? = some x→f x=false) l.length ?_ ?_ ?_
 · simp only [go_sem,reduceIte,reduceEqDiff,reduceAdd,reduceMul,reduceSub,reduceLeDiff,reduceLT,Nat.reduceBEq,reduceCtorEq,List.length_map];exact fun j l hj=>absurd hj (by omega)
 · rintro k T H' M hk ⟨rfl,g0,g1,g7,g8,rfl,hf⟩
   obtain ⟨x,hp⟩:∃ p,l[k]? = some p:=⟨l[k],by simp⟩
   have hr:=map_at (f:=Sw.row) hp
   have hw:=wrap_succ hk hl
   have hcl:=ex_eq (hcall H'.n x H' (Old.refl H') (Nat.le_refl _))
   have hkn:((k:Int) < 0)=False:=by simp only [eq_iff_iff,iff_false];omega
   obtain ⟨x1,x2,x3,x4,x5⟩:=x
   simp only [Sw.row] at hr hcl
   cases hb:f ⟨x1,x2,x3,x4,x5⟩ with
   | true =>
     simp only [hb] at hcl
     simp only [go_sem,reduceIte,reduceEqDiff,reduceAdd,reduceMul,reduceSub,reduceLeDiff,reduceLT,Nat.reduceBEq,reduceCtorEq,g0,g1,g7,g8,List.length_map,hk,hr,hw,en206 h206,hcs,hcl,ofVal_v,ofVal_H]
     have ha:l.any f=true:=List.any_eq_true.2 ⟨_,List.mem_of_getElem? hp,hb⟩
     exact ⟨k,rfl,by simp [ha]⟩
   | false =>
     simp only [hb] at hcl
     simp only [go_sem,reduceIte,reduceEqDiff,reduceAdd,reduceMul,reduceSub,reduceLeDiff,reduceLT,Nat.reduceBEq,reduceCtorEq,g0,g1,g7,g8,List.length_map,hk,hr,hw,en206 h206,hcs,hcl,ofVal_v,ofVal_H]
     refine fun j l' hj hl' => ?_
     by_cases e:j=k
     · subst e;rw [hp] at hl';cases hl';exact hb
     · exact hf j l' (by omega) hl'
 · rintro T H' M ⟨rfl,g0,g1,g7,g8,rfl,hf⟩
   simp only [go_sem,reduceIte,reduceEqDiff,reduceAdd,reduceMul,reduceSub,reduceLeDiff,reduceLT,Nat.reduceBEq,reduceCtorEq,g0,g1,g7,g8,List.length_map,Nat.lt_irrefl]
   exact ⟨-1,rfl,by simp [any_none hf]⟩
theorem r205 (h247:P 247=none) (h206:P 206=none) (l:List Sw) (f:Sw→Bool) (caps:List AV) (hcs:caps.map AV.strip=caps) (lo:Nat) (H:Heap) (hl:l.length≤maxRows)
 (hcall:∀ lo s H',Old H.n H H'→lo≤H'.n → ∃ H2,R (NC.withPrims P) (.call lo 206 (.agg s.row::caps) H')=some (.ofVal (.bool (f s)) H2)) :
 ∃ H',R (NC.withPrims P) (.call lo 205 [.ps .unk (l.map Sw.row),.fn 206 [] caps] H)=some (.ofVal (.bool (l.any f)) H'):=by
 obtain ⟨v,H',q1,q2⟩:=R_of_body (C:=NC.withPrims P) (f:=205) (lo:=lo) (args:=[.ps .unk (l.map Sw.row),.fn 206 [] caps]) (H:=H) (fn:=Tryz.f205) (Q:=fun v H'=>v=.bool (l.any f)) (by kernel_rfl) Tryz.func205 rfl rfl (by
  obtain ⟨k,H',hr,hk⟩:=r247 (P:=P) h206 l f caps hcs H.n H hl hcall
  cases hb:l.any f with
  | true =>
    have hk':(k < 0)=False:=by rw [hk,hb];simp
    simp only [go_sem,reduceIte,reduceEqDiff,reduceAdd,reduceMul,reduceSub,reduceLeDiff,reduceLT,Nat.reduceBEq,reduceCtorEq,en247 h247,hcs,hr,hk']
  | false =>
    have hk':(k < 0)=True:=by rw [hk,hb];simp
    simp only [go_sem,reduceIte,reduceEqDiff,reduceAdd,reduceMul,reduceSub,reduceLeDiff,reduceLT,Nat.reduceBEq,reduceCtorEq,en247 h247,hcs,hr,hk'])
 exact ⟨H',by rw [q1,q2]⟩
noncomputable def PPF145:FuncId→Option (List AV→Option AV):=addPrim 151 p151 (fun _=>none)
theorem primsF145:PrimsOk NC PPF145:=primsOk_add (primsOk_none) (by kernel_rfl) (by kernel_rfl) pok151
theorem enF145_151:En PPF145 151 p151:=enter_prim (by rfl) (by kernel_rfl)
attribute [go_sem ↓] enF145_151
theorem c145 (n:Net) (a b:Pt) (hp:n.Ok):∀ lo H,CallOk NC lo 145 [.agg n.cells,.agg (ptRow a),.agg (ptRow b)] H (.bool (joinN n a b)) H:=by
 refine contract saneNC primsF145 (fn:=Tryz.f145) (by kernel_rfl) Tryz.func145 rfl rfl (by rfl) (by first | rfl | (split<;>first | rfl | (split<;>rfl))) ?_
 obtain ⟨H',hr⟩:=r205 (P:=PPF145) rfl rfl n.sws (joinW n a b) [.ptr 0 0,.ptr 1 0,.ptr 2 0] rfl 3 (((Heap.empty.push (.cells n.cells 40)).push (.cells (ptRow a) 45)).push (.cells (ptRow b) 45)) hp.sws (fun lo s H' hO hlo=>r206 (P:=PPF145) rfl n hp a b s 0 1 2 lo H' hlo (by have:=hO.1;simp [empty_n] at this;omega) (by have:=hO.1;simp [empty_n] at this;omega) (by have:=hO.1;simp [empty_n] at this;omega) (by rw [hO.2 0 (by simp [empty_n])];simp [Heap.get_push,empty_n]) (by rw [hO.2 1 (by simp [empty_n])];simp [Heap.get_push,empty_n]) (by rw [hO.2 2 (by simp [empty_n])];simp [Heap.get_push,empty_n]))
 obtain ⟨a1,a2⟩:=a
 obtain ⟨b1,b2⟩:=b
 unfold joinN
 simp only [Net.cells,ptRow] at hr
 simp only [go_sem,reduceIte,reduceEqDiff,reduceAdd,reduceMul,reduceSub,reduceLeDiff,reduceLT,Nat.reduceBEq,reduceCtorEq,Net.cells,ptRow,en205 (show PPF145 205=none from rfl),hr]
noncomputable def p145:List AV→Option AV:=primOf (α:=(Net) × (Pt) × (Pt)) (fun x=>[.agg x.1.cells,.agg (ptRow x.2.1),.agg (ptRow x.2.2)]) (fun x=>x.1.Ok) (fun x=>.bool (joinN x.1 x.2.1 x.2.2))
theorem pok145:∀ args v,p145 args=some v → ∀ lo H,CallOk NC lo 145 args H v H:=by
 intro args v h
 obtain ⟨x,rfl,hp,rfl⟩:=primOf_inv h
 exact c145 x.1 x.2.1 x.2.2 hp
theorem pe145 (n:Net) (a b:Pt) (hp:n.Ok):p145 [.agg n.cells,.agg (ptRow a),.agg (ptRow b)]=some (.bool (joinN n a b)):=primOf_enc (α:=(Net) × (Pt) × (Pt)) (enc:=fun x=>[.agg x.1.cells,.agg (ptRow x.2.1),.agg (ptRow x.2.2)]) (pre:=fun x=>x.1.Ok) (spec:=fun x=>.bool (joinN x.1 x.2.1 x.2.2)) (by intro x y h;(simp only [List.cons.injEq,AV.agg.injEq,AV.str.injEq,AV.int.injEq,AV.ps.injEq,AV.bool.injEq,Net.cells_iff,Ln.row_iff,Pc.row_iff,Mv.row_iff,lns_iff,pcs_iff,mvs_iff,Leg.row_iff,lgs_iff,pts_iff,ptr_iff,true_and,and_true] at h;first | simpa only [Prod.ext_iff] using h | simpa only [Prod.ext_iff,and_assoc] using h)) (n,a,b) hp
/-! ### The legs by themselves -/
def legP (n:Net) (l:Leg):Int:=firstI [placeP n l.line l.fr,placeP n l.line l.to]
theorem r144 (h100:P 100=some p100) (h111:P 111=some p111) (n:Net) (hn:n.Ok) (l:Leg) (cn lo:Nat) (H:Heap) (h1:cn < H.n) (g1:H.get cn=.cells n.cells 40) :
 ∃ H',R (NC.withPrims P) (.call lo 144 [.agg l.row,.ptr cn 0] H)=some (.ofVal (i64 (legP n l)) H'):=by
 have en100:∀ {rec lo args H K},VO (aenter (NC.withPrims P) rec lo 100 args H) K=AO (p100 args) fun v=>K v H:=enter_prim rfl (by show (match NC.prim 100 with | some p=>some p | none=>P 100)=_;rw [h100];kernel_rfl)
 have en111:∀ {rec lo args H K},VO (aenter (NC.withPrims P) rec lo 111 args H) K=AO (p111 args) fun v=>K v H:=enter_prim rfl (by show (match NC.prim 111 with | some p=>some p | none=>P 111)=_;rw [h111];kernel_rfl)
 have ef:=pe100 (n,l.line,l.fr) hn
 have et:=pe100 (n,l.line,l.to) hn
 obtain ⟨v,H',q1,q2⟩:=R_of_body (C:=NC.withPrims P) (f:=144) (lo:=lo) (args:=[.agg l.row,.ptr cn 0]) (H:=H) (fn:=Tryz.f144) (Q:=fun v H'=>v=i64 (legP n l)) (by kernel_rfl) Tryz.func144 rfl rfl (by
  have y1:(cn=H.n)=False:=by simp only [eq_iff_iff,iff_false];omega
  unfold legP
  obtain ⟨a,b,c⟩:=l
  simp only [Leg.row,Net.cells,i64] at ef et g1 ⊢
  generalize placeP n a b=E1 at ef ⊢
  generalize placeP n a c=E2 at et ⊢
  simp only [go_sem,reduceIte,reduceEqDiff,reduceAdd,reduceMul,reduceSub,reduceLeDiff,reduceLT,Nat.reduceBEq,reduceCtorEq,g1,y1,↓en100,↓en111,ef,et,e111_2])
 exact ⟨H',by rw [q1,q2]⟩
theorem r143 (hP:P 144=none) (lo:Nat) (m:List Leg) (F:Leg→Int) (caps:List AV) (hc:caps.map AV.strip=caps) (H:Heap) (hlo:lo≤H.n) (hl:m.length≤maxRows)
 (hcall:∀ lo x H',Old H.n H H' → ∃ H2,R (NC.withPrims P) (.call lo 144 (.agg x.row::caps) H')=some (.ofVal (i64 (F x)) H2)) :
 ∃ t H',R (NC.withPrims P) (.call lo 143 [.ps .unk (m.map Leg.row),.fn 144 [] caps] H)=some (.ofVal (.ps t (intRows (m.map F))) H'):=by
 suffices hh:∃ v H',R (NC.withPrims P) (.call lo 143 [.ps .unk (m.map Leg.row),.fn 144 [] caps] H)=some (.ofVal v H') ∧ ∃ t,v=.ps t (intRows (m.map F)) by
  obtain ⟨v,H',h1,t,rfl⟩:=hh;exact ⟨t,H',h1⟩
 refine R_of_body (C:=NC.withPrims P) (f:=143) (lo:=lo) (args:=[.ps .unk (m.map Leg.row),.fn 144 [] caps]) (H:=H) (fn:=Tryz.f143) (Q:=fun v H'=>∃ t,v=.ps t (intRows (m.map F))) (by kernel_rfl) Tryz.func143 rfl rfl ?_
 simp only [go_sem,reduceIte,reduceEqDiff,reduceAdd,reduceMul,reduceSub,reduceLeDiff,reduceLT,Nat.reduceBEq,reduceCtorEq]
 refine W_for (fun k T H' M=>M=[]∧getT T 1=.fn 144 [] caps∧getT T 8=.ps .unk (m.map Leg.row)∧getT T 9=i64 (m.length:Nat)∧getT T 10=i64 k∧Old H.n H H' ∧ ∃ t,getT T 5=.ps t (intRows ((m.take k).map F))∧AppB H.n H' t (intRows ((m.take k).map F)) 1 33) m.length ?_ ?_ ?_
 · simp only [go_sem,reduceIte,reduceEqDiff,reduceAdd,reduceMul,reduceSub,reduceLeDiff,reduceLT,Nat.reduceBEq,reduceCtorEq];exact ⟨Old.refl H,.nil,rfl,.inl ⟨rfl,rfl⟩⟩
 · rintro k T H' M hk ⟨rfl,g1,g8,g9,g10,hO,t,g5,hA⟩
   obtain ⟨x,hx⟩:∃ p,m[k]? = some p:=⟨m[k],by simp⟩
   have hr:=map_at (f:=Leg.row) hx
   have hw:=wrap_succ hk hl
   have htk:intRows ((m.take (k+1)).map F)=intRows ((m.take k).map F)++[[i64 (F x)]]:=by rw [take_map hx];simp [intRows]
   have hcl:=fun lo H' h=>ex_eq (hcall lo x H' h)
   have hlo':lo≤H'.n:=Nat.le_trans hlo hO.1
   obtain ⟨t',H2,ha,hA2,hn2,hO2,_⟩:=app_b (lo:=lo) (hA.new (.cells [.str [],.int .i64 0,.int .i64 0] 157) (.cells x.row 157)) (by have:=hO.1;simp;omega) hlo (r:=[i64 (F x)]) (by simp [intRows];omega) rfl (by decide) (intRows_all _)
   have hO1:=hO.new (.cells [.str [],.int .i64 0,.int .i64 0] 157) (.cells x.row 157)
   obtain ⟨a,b,c⟩:=x
   simp only [Leg.row] at hr hcl ha hO1
   simp only [go_sem,reduceIte,reduceEqDiff,reduceAdd,reduceMul,reduceSub,reduceLeDiff,reduceLT,Nat.reduceBEq,reduceCtorEq,g1,g8,g9,g10,g5,hk,hr,hw,en144 hP,hc,hcl,hO1,hlo',appO,isIntT_slice,rowsIn,ha]
   rw [htk]
   exact ⟨(hO.new _ _).trans hO2 |> fun h=>⟨h.1,h.2⟩,t',rfl,hA2⟩
 · rintro T H' M ⟨rfl,g1,g8,g9,g10,hO,t,g5,hA⟩
   simp only [go_sem,reduceIte,reduceEqDiff,reduceAdd,reduceMul,reduceSub,reduceLeDiff,reduceLT,Nat.reduceBEq,reduceCtorEq,g1,g8,g9,g10,g5,Nat.lt_irrefl,List.take_length]
   exact ⟨t,rfl⟩
/-! ### The way -/
def legsP (n:Net) (w:List Leg):Int :=
 let e:=firstI [whenI (decide ((w.length:Int)=0)) 12,whenI (decide ((16:Int) < w.length)) 5]
 if e=0 then firstI (w.map (legP n)) else e
def goW (n:Net) (b:Pt):Pt→Bool→List Leg→Bool
 | at',_,[]=>ptB at' b
 | at',true,l::r=>ptB (l.line,l.fr) at' && goW n b (l.line,l.to) false r
 | at',false,l::r=>joinN n at' (l.line,l.fr) && goW n b (l.line,l.to) false r
def sumP:List Leg→Int→Int
 | [],s=>s
 | l::r,s=>sumP r (wrapq .i64 (Int.add s (legW l)))
def checkWayP (n:Net) (a b:Pt) (w:List Leg):List AV :=
 if placesP n [a,b]=0 then (if legsP n w=0 then (if goW n b a true w then [i64 (sumP w 0),i64 0] else [i64 0,i64 19]) else [i64 0,i64 (legsP n w)]) else [i64 0,i64 (placesP n [a,b])]
theorem checkWayP_pure (n:Net) (a b:Pt) (w:List Leg):(AV.tup (checkWayP n a b w)).pure=true:=by
 unfold checkWayP
 repeat' split
 all_goals rfl
theorem aeq45b (a b:List Nat) (i j:Int):aeqT NC.P 100 45 (.agg [.str a,.int .i64 i]) (.agg [.str b,.int .i64 j])=some (ptB (a,i) (b,j)):=by
 have h:=aeq45p (a,i) (b,j)
 unfold ptC at h
 rw [h]
 have:decide ((a,i)=(b,j))=ptB (a,i) (b,j):=by
  rw [Bool.eq_iff_iff,ptB_iff,decide_eq_true_eq]
 rw [this]
theorem goW_cons_first (n:Net) (b a:Pt) (l:Leg) (r:List Leg):goW n b a true (l::r)=(ptB (l.line,l.fr) a && goW n b (l.line,l.to) false r):=rfl
theorem goW_cons (n:Net) (b a:Pt) (l:Leg) (r:List Leg):goW n b a false (l::r)=(joinN n a (l.line,l.fr) && goW n b (l.line,l.to) false r):=rfl
noncomputable def PPF72:FuncId→Option (List AV→Option AV):=addPrim 146 p146 (addPrim 145 p145 (addPrim 100 p100 (addPrim 111 p111 (addPrim 121 p121 (addPrim 114 p114 (fun _=>none))))))
theorem primsF72:PrimsOk NC PPF72:=primsOk_add (primsOk_add (primsOk_add (primsOk_add (primsOk_add (primsOk_add (primsOk_none) (by kernel_rfl) (by kernel_rfl) pok114) (by kernel_rfl) (by kernel_rfl) pok121) (by kernel_rfl) (by kernel_rfl) pok111) (by kernel_rfl) (by kernel_rfl) pok100) (by kernel_rfl) (by kernel_rfl) pok145) (by kernel_rfl) (by kernel_rfl) pok146
theorem enF72_114:En PPF72 114 p114:=enter_prim (by rfl) (by kernel_rfl)
theorem enF72_121:En PPF72 121 p121:=enter_prim (by rfl) (by kernel_rfl)
theorem enF72_111:En PPF72 111 p111:=enter_prim (by rfl) (by kernel_rfl)
theorem enF72_100:En PPF72 100 p100:=enter_prim (by rfl) (by kernel_rfl)
theorem enF72_145:En PPF72 145 p145:=enter_prim (by rfl) (by kernel_rfl)
theorem enF72_146:En PPF72 146 p146:=enter_prim (by rfl) (by kernel_rfl)
attribute [go_sem ↓] enF72_114 enF72_121 enF72_111 enF72_100 enF72_145 enF72_146
theorem c72 (n : Net) (a b : Pt) (w : List Leg) (hp : n.Ok ∧ w.length ≤ maxRows) : ∀ lo H, CallOk NC lo 72 [.agg n.cells, .agg (ptRow a), .agg (ptRow b), .ps .unk (w.map Leg.row)] H (.tup (checkWayP n a b w)) H := by
 refine contract saneNC primsF72 (fn := Tryz.f72) (by kernel_rfl) Tryz.func72 rfl rfl (by rfl) (checkWayP_pure n a b w) ?_
 obtain ⟨hn, hl⟩ := hp
 have e114 := pe114 n [a, b] ⟨hn, by unfold maxRows; simp⟩
 have e111 := pe111 (w.map (legP n)) (by simpa using hl)
 unfold checkWayP
 have hLP : legsP n w = if firstI [whenI (decide ((w.length : Int) = 0)) 12, whenI (decide ((16 : Int) < w.length)) 5] = 0 then firstI (w.map (legP n)) else firstI [whenI (decide ((w.length : Int) = 0)) 12, whenI (decide ((16 : Int) < w.length)) 5] := rfl
 obtain ⟨tk, H', hr⟩ := r143 (P := PPF72) rfl 3 w (legP n) [.ptr 0 0] rfl (((Heap.empty.push (.cells n.cells 40)).push (.cells (ptRow a) 45)).push (.cells (ptRow b) 45)) (by simp [empty_n]) hl (fun lo x H' hO => r144 rfl rfl n hn x 0 lo H' (by have := hO.1; simp [empty_n] at this; omega) (by rw [hO.2 0 (by simp [empty_n])]; simp [Heap.get_push, empty_n]))
 have hgo : ∀ w', w' = w → goW n b a true w' = goW n b a true w := fun _ h => by rw [h]
 generalize hG : goW n b a true w = G at hgo ⊢
 obtain ⟨a1, a2⟩ := a
 obtain ⟨b1, b2⟩ := b
 simp only [Net.cells, i64, ptRow, List.map_cons, List.map_nil] at e114 hr e111
 rcases Classical.propComplete (placesP n [(a1, a2), (b1, b2)] = 0) with z | z
 case inr =>
  generalize placesP n [(a1, a2), (b1, b2)] = E at e114 z ⊢
  simp only [go_sem, reduceIte, reduceEqDiff, reduceAdd, reduceMul, reduceSub, reduceLeDiff, reduceLT, Nat.reduceBEq, reduceCtorEq, Net.cells, ptRow, e114, z]
 generalize placesP n [(a1, a2), (b1, b2)] = E0 at e114 z ⊢
 rw [if_pos (of_eq_true z)]
 rcases Classical.propComplete (firstI [whenI (decide ((w.length : Int) = 0)) 12, whenI (decide ((16 : Int) < w.length)) 5] = 0) with z2 | z2
 case inr =>
  have hLE : legsP n w = firstI [whenI (decide ((w.length : Int) = 0)) 12, whenI (decide ((16 : Int) < w.length)) 5] := hLP.trans (if_neg (by rw [z2]; exact id))
  rw [hLE]
  clear hLE hLP
  generalize hE : firstI [whenI (decide ((w.length : Int) = 0)) 12, whenI (decide ((16 : Int) < w.length)) 5] = E at z2 ⊢
  rcases Classical.propComplete ((w.length : Int) = 0) with q1 | q1 <;> rcases Classical.propComplete ((16 : Int) < w.length) with q2 | q2 <;> simp only [q1, q2, decide_true, decide_false] at hE <;> simp only [go_sem, reduceIte, reduceEqDiff, reduceAdd, reduceMul, reduceSub, reduceLeDiff, reduceLT, Nat.reduceBEq, reduceCtorEq, Net.cells, ptRow, e114, z, e121, e111_2, List.length_map, q1, q2, hE, z2]
 have z2' := of_eq_true z2
 have hLE : legsP n w = firstI (w.map (legP n)) := hLP.trans (if_pos z2')
 rw [hLE]
 have n1 := when_zero (by decide) (firstI_mem0 z2' _ (List.mem_cons_self ..))
 have n2 := when_zero (by decide) (firstI_mem0 z2' _ (List.mem_cons_of_mem _ (List.mem_cons_self ..)))
 have q1 : ((w.length : Int) = 0) = False := eq_false (by simpa using n1)
 have q2 : ((16 : Int) < w.length) = False := eq_false (by simpa using n2)
 clear hLE hLP n1 n2
 have hE : firstI [whenI false 12, whenI false 5] = 0 := rfl
 generalize firstI (w.map (legP n)) = F at e111 ⊢
 rcases Classical.propComplete (F = 0) with z3 | z3
 case inr => simp only [go_sem, reduceIte, reduceEqDiff, reduceAdd, reduceMul, reduceSub, reduceLeDiff, reduceLT, Nat.reduceBEq, reduceCtorEq, Net.cells, ptRow, e114, z, e121, e111_2, List.length_map, q1, q2, hE, en143 (show PPF72 143 = none from rfl), hr, e111, z3]
 rw [if_pos (of_eq_true z3)]
 simp only [go_sem, reduceIte, reduceEqDiff, reduceAdd, reduceMul, reduceSub, reduceLeDiff, reduceLT, Nat.reduceBEq, reduceCtorEq, Net.cells, ptRow, e114, z, e121, e111_2, List.length_map, q1, q2, hE, en143 (show PPF72 143 = none from rfl), hr, e111, z3]
 refine W_for (fun k T H M => M = [] ∧ getT T 4 = .ptr 0 0 ∧ getT T 6 = .ptr 2 0 ∧ getT T 14 = .ptr 3 0 ∧ getT T 47 = .ps .unk (w.map Leg.row) ∧ getT T 48 = i64 (w.length : Nat) ∧ getT T 49 = i64 k ∧ 3 < H.n ∧ H.get 0 = .cells n.cells 40 ∧ H.get 2 = .cells [.str b1, .int .i64 b2] 45 ∧ ∃ (c : Pt) (s : Int), getT T 13 = .int .i64 s ∧ H.get 3 = .cells [.str c.1, .int .i64 c.2] 45 ∧ G = goW n (b1, b2) c (decide (k = 0)) (w.drop k) ∧ sumP w 0 = sumP (w.drop k) s) w.length ?_ ?_ ?_
 · simp only [go_sem, reduceIte, reduceEqDiff, reduceAdd, reduceMul, reduceSub, reduceLeDiff, reduceLT, Nat.reduceBEq, reduceCtorEq, Net.cells]
   exact ⟨(a1, a2), 0, rfl, rfl, hG.symm, rfl⟩
 · rintro k T H M hk ⟨rfl, g4, g6, g14, g47, g48, g49, hn3, h0, h2, c, s, g13, h3, hgo, hs⟩
   obtain ⟨x, hx⟩ : ∃ p, w[k]? = some p := ⟨w[k], by simp⟩
   have hr := map_at (f := Leg.row) hx
   have hw := wrap_succ hk hl
   rw [drop_at hx] at hgo hs
   have b0 : (0 = H.n) = False ∧ (0 = H.n + 1) = False ∧ (2 = H.n) = False ∧ (2 = H.n + 1) = False ∧ (3 = H.n) = False ∧ (3 = H.n + 1) = False ∧ (H.n = 3) = False ∧ (H.n + 1 = 3) = False := by simp only [eq_iff_iff, iff_false]; omega
   have e146 := pe146 x
   have hs' : sumP w 0 = sumP (w.drop (k + 1)) (wrapq .i64 (Int.add s (legW x))) := hs
   have hk1 : decide (k + 1 = 0) = false := by simp
   have h0' := h0
   obtain ⟨c1, c2⟩ := c
   rcases Nat.eq_zero_or_pos k with k0 | k0
   · have hd : decide (k = 0) = true := by simp [k0]
     have hki : ((k : Int) = 0) = True := by simp [k0]
     have hki2 : ((0 : Int) < (k : Int)) = False := by simp [k0]
     rw [hd, goW_cons_first] at hgo
     have e45 := aeq45b x.line c1 x.fr c2
     generalize legW x = LW at e146 hs'
     generalize ptB (x.line, x.fr) (c1, c2) = B at e45 hgo
     obtain ⟨x1, x2, x3⟩ := x
     simp only [Leg.row, Net.cells, i64] at hr e146 h0' e45
     cases B with
     | false =>
       simp only [go_sem, reduceIte, reduceEqDiff, reduceAdd, reduceMul, reduceSub, reduceLeDiff, reduceLT, Nat.reduceBEq, reduceCtorEq, g4, g6, g14, g47, g48, g49, g13, List.length_map, hk, hr, hw, h0', h2, h3, b0, hki, hki2, ety45p, e45, e146]
       simp [hgo]
     | true =>
       simp only [go_sem, reduceIte, reduceEqDiff, reduceAdd, reduceMul, reduceSub, reduceLeDiff, reduceLT, Nat.reduceBEq, reduceCtorEq, g4, g6, g14, g47, g48, g49, g13, List.length_map, hk, hr, hw, h0', h2, h3, b0, hki, hki2, ety45p, e45, e146]
       refine ⟨by omega, rfl, (x1, x3), _, rfl, rfl, ?_, hs'⟩
       rw [hgo]; rfl
   · have hd : decide (k = 0) = false := by simp; omega
     have hki : ((k : Int) = 0) = False := by simp; omega
     have hki2 : ((0 : Int) < (k : Int)) = True := by simp; omega
     rw [hd, goW_cons] at hgo
     have e145 := pe145 n (c1, c2) (x.line, x.fr) hn
     generalize legW x = LW at e146 hs'
     generalize joinN n (c1, c2) (x.line, x.fr) = B at e145 hgo
     obtain ⟨x1, x2, x3⟩ := x
     simp only [Leg.row, Net.cells, ptRow, i64] at hr e146 h0' e145
     cases B with
     | false =>
       simp only [go_sem, reduceIte, reduceEqDiff, reduceAdd, reduceMul, reduceSub, reduceLeDiff, reduceLT, Nat.reduceBEq, reduceCtorEq, g4, g6, g14, g47, g48, g49, g13, List.length_map, hk, hr, hw, h0', h2, h3, b0, hki, hki2, e145, e146]
       simp [hgo]
     | true =>
       simp only [go_sem, reduceIte, reduceEqDiff, reduceAdd, reduceMul, reduceSub, reduceLeDiff, reduceLT, Nat.reduceBEq, reduceCtorEq, g4, g6, g14, g47, g48, g49, g13, List.length_map, hk, hr, hw, h0', h2, h3, b0, hki, hki2, e145, e146]
       refine ⟨by omega, rfl, (x1, x3), _, rfl, rfl, ?_, hs'⟩
       rw [hgo]; rfl
 · rintro T H M ⟨rfl, g4, g6, g14, g47, g48, g49, hn3, h0, h2, ⟨c1, c2⟩, s, g13, h3, hgo, hs⟩
   rw [List.drop_length] at hgo hs
   have hgo' : G = ptB (c1, c2) (b1, b2) := hgo
   have hs' : sumP w 0 = s := hs
   have e45 := aeq45b c1 b1 c2 b2
   rw [← hgo'] at e45
   rw [hs']
   clear hgo hgo' hG
   cases G <;> simp only [go_sem, reduceIte, reduceEqDiff, reduceAdd, reduceMul, reduceSub, reduceLeDiff, reduceLT, Nat.reduceBEq, reduceCtorEq, g4, g6, g14, g47, g48, g49, g13, h2, h3, Nat.lt_irrefl, ety45p, e45]
noncomputable def p72:List AV→Option AV:=primOf (α:=(Net) × (Pt) × (Pt) × (List Leg)) (fun x=>[.agg x.1.cells,.agg (ptRow x.2.1),.agg (ptRow x.2.2.1),.ps .unk (x.2.2.2.map Leg.row)]) (fun x=>x.1.Ok∧x.2.2.2.length≤maxRows) (fun x=>.tup (checkWayP x.1 x.2.1 x.2.2.1 x.2.2.2))
theorem pok72:∀ args v,p72 args=some v → ∀ lo H,CallOk NC lo 72 args H v H:=by
 intro args v h
 obtain ⟨x,rfl,hp,rfl⟩:=primOf_inv h
 exact c72 x.1 x.2.1 x.2.2.1 x.2.2.2 hp
theorem pe72 (n:Net) (a b:Pt) (w:List Leg) (hp:n.Ok∧w.length≤maxRows):p72 [.agg n.cells,.agg (ptRow a),.agg (ptRow b),.ps .unk (w.map Leg.row)]=some (.tup (checkWayP n a b w)):=primOf_enc (α:=(Net) × (Pt) × (Pt) × (List Leg)) (enc:=fun x=>[.agg x.1.cells,.agg (ptRow x.2.1),.agg (ptRow x.2.2.1),.ps .unk (x.2.2.2.map Leg.row)]) (pre:=fun x=>x.1.Ok∧x.2.2.2.length≤maxRows) (spec:=fun x=>.tup (checkWayP x.1 x.2.1 x.2.2.1 x.2.2.2)) (by intro x y h;(simp only [List.cons.injEq,AV.agg.injEq,AV.str.injEq,AV.int.injEq,AV.ps.injEq,AV.bool.injEq,Net.cells_iff,Ln.row_iff,Pc.row_iff,Mv.row_iff,lns_iff,pcs_iff,mvs_iff,Leg.row_iff,lgs_iff,pts_iff,ptr_iff,true_and,and_true] at h;first | simpa only [Prod.ext_iff] using h | simpa only [Prod.ext_iff,and_assoc] using h)) (n,a,b,w) hp
end Go.Sim

/-
Ways: a way that is given, by the reference; the law's helpers.
-/
-- INJ Leg.row_iff lgs_iff pts_iff ptr_iff
namespace Go.Sim
open Go Go.Proofs
set_option maxRecDepth 100000
set_option maxHeartbeats 16000000
variable {P:FuncId→Option (List AV→Option AV)}
/-! ### CheckLegs -/
noncomputable def PPF73:FuncId→Option (List AV→Option AV):=fun _=>none
theorem primsF73:PrimsOk NC PPF73:=primsOk_none
theorem c73 (l:List Leg) (hp:l.length≤maxRows):∀ lo H,CallOk NC lo 73 [.ps .unk (l.map Leg.row)] H (.ps .unk (l.map Leg.row)) H:=by
 refine contract saneNC primsF73 (fn:=Tryz.f73) (by kernel_rfl) Tryz.func73 rfl rfl (by rfl) (by first | rfl | (split<;>first | rfl | (split<;>rfl))) ?_
 simp only [go_sem,reduceIte,reduceEqDiff,reduceAdd,reduceMul,reduceSub,reduceLeDiff,reduceLT,Nat.reduceBEq,reduceCtorEq]
 refine W_for (fun k T H M=>M=[]∧getT T 6=.ps .unk (l.map Leg.row)∧getT T 7=i64 (l.length:Nat)∧getT T 8=i64 k ∧ ∃ t,getT T 3=.ps t ((l.take k).map Leg.row)∧App H t ((l.take k).map Leg.row) 3 157) l.length ?_ ?_ ?_
 · simp only [go_sem,reduceIte,reduceEqDiff,reduceAdd,reduceMul,reduceSub,reduceLeDiff,reduceLT,Nat.reduceBEq,reduceCtorEq,List.length_map];exact ⟨.nil,by simp,.inl ⟨rfl,rfl⟩⟩
 · rintro k T H M hk ⟨rfl,g6,g7,g8,t,g3,hA⟩
   obtain ⟨x,hx⟩:∃ p,l[k]? = some p:=⟨l[k],by simp⟩
   have hr:=map_at (f:=Leg.row) hx
   have hw:=wrap_succ hk hp
   have htk:=take_map (f:=Leg.row) hx
   obtain ⟨t',H1,ha,hB,hn1,hc1,_⟩:=app_any (H:=(H.push (.cells [.str [],.int .i64 0,.int .i64 0] 141)).set H.n (.cells x.row 141)) (hA.fresh _ _ rfl) (r:=x.row) (by simp;omega) rfl (by decide) (rows_all Leg.row_len _)
   obtain ⟨a,b,c⟩:=x
   simp only [Leg.row,i64] at hr ha
   simp only [go_sem,reduceIte,reduceEqDiff,reduceAdd,reduceMul,reduceSub,reduceLeDiff,reduceLT,Nat.reduceBEq,reduceCtorEq,g6,g7,g8,g3,List.length_map,hk,hr,hw,appO,ha]
   rw [htk]
   exact ⟨t',rfl,hB⟩
 · rintro T H M ⟨rfl,g6,g7,g8,t,g3,hA⟩
   simp only [go_sem,reduceIte,reduceEqDiff,reduceAdd,reduceMul,reduceSub,reduceLeDiff,reduceLT,Nat.reduceBEq,reduceCtorEq,g6,g7,g8,g3,List.take_length,Nat.lt_irrefl]
noncomputable def p73:List AV→Option AV:=primOf (α:=(List Leg)) (fun x=>[.ps .unk (x.map Leg.row)]) (fun x=>x.length≤maxRows) (fun x=>.ps .unk (x.map Leg.row))
theorem pok73:∀ args v,p73 args=some v → ∀ lo H,CallOk NC lo 73 args H v H:=by
 intro args v h
 obtain ⟨x,rfl,hp,rfl⟩:=primOf_inv h
 exact c73 x hp
theorem pe73 (l:List Leg) (hp:l.length≤maxRows):p73 [.ps .unk (l.map Leg.row)]=some (.ps .unk (l.map Leg.row)):=primOf_enc (α:=(List Leg)) (enc:=fun x=>[.ps .unk (x.map Leg.row)]) (pre:=fun x=>x.length≤maxRows) (spec:=fun x=>.ps .unk (x.map Leg.row)) (by intro x y h;(simp only [List.cons.injEq,AV.agg.injEq,AV.str.injEq,AV.int.injEq,AV.ps.injEq,AV.bool.injEq,Net.cells_iff,Ln.row_iff,Pc.row_iff,Mv.row_iff,lns_iff,pcs_iff,mvs_iff,Leg.row_iff,lgs_iff,pts_iff,ptr_iff,true_and,and_true] at h;first | simpa only [Prod.ext_iff] using h | simpa only [Prod.ext_iff,and_assoc] using h)) l hp
noncomputable def PPF79:FuncId→Option (List AV→Option AV):=fun _=>none
theorem primsF79:PrimsOk NC PPF79:=primsOk_none
theorem c79 (l:List Leg) (hp:l.length≤maxRows):∀ lo H,CallOk NC lo 79 [.ps .unk (l.map Leg.row)] H (.ps .unk (l.map Leg.row)) H:=by
 refine contract saneNC primsF79 (fn:=Tryz.f79) (by kernel_rfl) Tryz.func79 rfl rfl (by rfl) (by first | rfl | (split<;>first | rfl | (split<;>rfl))) ?_
 simp only [go_sem,reduceIte,reduceEqDiff,reduceAdd,reduceMul,reduceSub,reduceLeDiff,reduceLT,Nat.reduceBEq,reduceCtorEq]
 refine W_for (fun k T H M=>M=[]∧getT T 6=.ps .unk (l.map Leg.row)∧getT T 7=i64 (l.length:Nat)∧getT T 8=i64 k ∧ ∃ t,getT T 3=.ps t ((l.take k).map Leg.row)∧App H t ((l.take k).map Leg.row) 3 141) l.length ?_ ?_ ?_
 · simp only [go_sem,reduceIte,reduceEqDiff,reduceAdd,reduceMul,reduceSub,reduceLeDiff,reduceLT,Nat.reduceBEq,reduceCtorEq,List.length_map];exact ⟨.nil,by simp,.inl ⟨rfl,rfl⟩⟩
 · rintro k T H M hk ⟨rfl,g6,g7,g8,t,g3,hA⟩
   obtain ⟨x,hx⟩:∃ p,l[k]? = some p:=⟨l[k],by simp⟩
   have hr:=map_at (f:=Leg.row) hx
   have hw:=wrap_succ hk hp
   have htk:=take_map (f:=Leg.row) hx
   obtain ⟨t',H1,ha,hB,hn1,hc1,_⟩:=app_any (H:=(H.push (.cells [.str [],.int .i64 0,.int .i64 0] 157)).set H.n (.cells x.row 157)) (hA.fresh _ _ rfl) (r:=x.row) (by simp;omega) rfl (by decide) (rows_all Leg.row_len _)
   obtain ⟨a,b,c⟩:=x
   simp only [Leg.row,i64] at hr ha
   simp only [go_sem,reduceIte,reduceEqDiff,reduceAdd,reduceMul,reduceSub,reduceLeDiff,reduceLT,Nat.reduceBEq,reduceCtorEq,g6,g7,g8,g3,List.length_map,hk,hr,hw,appO,ha]
   rw [htk]
   exact ⟨t',rfl,hB⟩
 · rintro T H M ⟨rfl,g6,g7,g8,t,g3,hA⟩
   simp only [go_sem,reduceIte,reduceEqDiff,reduceAdd,reduceMul,reduceSub,reduceLeDiff,reduceLT,Nat.reduceBEq,reduceCtorEq,g6,g7,g8,g3,List.take_length,Nat.lt_irrefl]
noncomputable def p79:List AV→Option AV:=primOf (α:=(List Leg)) (fun x=>[.ps .unk (x.map Leg.row)]) (fun x=>x.length≤maxRows) (fun x=>.ps .unk (x.map Leg.row))
theorem pok79:∀ args v,p79 args=some v → ∀ lo H,CallOk NC lo 79 args H v H:=by
 intro args v h
 obtain ⟨x,rfl,hp,rfl⟩:=primOf_inv h
 exact c79 x hp
theorem pe79 (l:List Leg) (hp:l.length≤maxRows):p79 [.ps .unk (l.map Leg.row)]=some (.ps .unk (l.map Leg.row)):=primOf_enc (α:=(List Leg)) (enc:=fun x=>[.ps .unk (x.map Leg.row)]) (pre:=fun x=>x.length≤maxRows) (spec:=fun x=>.ps .unk (x.map Leg.row)) (by intro x y h;(simp only [List.cons.injEq,AV.agg.injEq,AV.str.injEq,AV.int.injEq,AV.ps.injEq,AV.bool.injEq,Net.cells_iff,Ln.row_iff,Pc.row_iff,Mv.row_iff,lns_iff,pcs_iff,mvs_iff,Leg.row_iff,lgs_iff,pts_iff,ptr_iff,true_and,and_true] at h;first | simpa only [Prod.ext_iff] using h | simpa only [Prod.ext_iff,and_assoc] using h)) l hp
end Go.Sim

/-
The law: NetworkWays returns true.
-/
-- INJ Leg.row_iff lgs_iff pts_iff ptr_iff
namespace Go.Sim
open Go Go.Proofs
set_option maxRecDepth 100000
set_option maxHeartbeats 64000000
theorem small_fine {n:Net} (h:smallN n=true):shortN n=true∧netR n=0∧n.lines.length≤4∧n.sws.length≤4∧n.sts.length≤6:=by
 unfold smallN at h
 simp only [Bool.and_eq_true,Bool.not_eq_true',decide_eq_true_eq,decide_eq_false_iff_not] at h
 obtain ⟨h1,⟨⟨⟨h2,h3⟩,h4⟩,h5⟩,_⟩:=h
 exact ⟨h1,h2,by omega,by omega,by omega⟩
theorem sum_same:∀ {w:List Leg} {s:Int},(∀ l ∈ w,inR l.fr∧inR l.to)→0≤s→s+800000 * w.length≤1000000000→sumP w s=s+wSum w
 | [],s,_,_,_=>by simp [sumP,wSum]
 | l::r,s,h,h0,h8=>by
   obtain ⟨h1,h2⟩:=h l (by simp)
   obtain ⟨e1,e2,e3⟩:=legW_len h1 h2
   have hc:((l::r).length:Int)=(r.length:Int)+1:=by simp
   rw [hc] at h8
   have e:wrapq .i64 (Int.add s l.len)=s+l.len:=wrapq_i64 (by show _≤s+l.len;omega) (by show s+l.len≤_;omega)
   show sumP r (wrapq .i64 (Int.add s (legW l)))=s+(l.len+wSum r)
   rw [e1,e,sum_same (fun q hq=>h q (by simp [hq])) (by omega) (by omega)]
   omega
theorem legs_zero {n:Net} {w:List Leg} (h:legsP n w=0):0 < w.length∧w.length≤16 ∧ ∀ l ∈ w,placeP n l.line l.fr=0∧placeP n l.line l.to=0:=by
 unfold legsP at h
 by_cases z:firstI [whenI (decide ((w.length:Int)=0)) 12,whenI (decide ((16:Int) < w.length)) 5]=0
 · simp only [z,if_true] at h
   have z1:=when_zero (by decide) (firstI_mem0 z _ (List.mem_cons_self ..))
   have z2:=when_zero (by decide) (firstI_mem0 z _ (List.mem_cons_of_mem _ (List.mem_cons_self ..)))
   simp only [decide_eq_false_iff_not] at z1 z2
   refine ⟨by omega,by omega,fun l hl => ?_⟩
   have h1:=firstI_mem0 h _ (List.mem_map.2 ⟨l,hl,rfl⟩)
   unfold legP at h1
   exact first2 _ _ h1
 · simp only [z,if_false] at h
end Go.Sim

/-
Distances on a line; stretches; the least of many: plain laws.
-/
namespace Go.Sim
set_option maxHeartbeats 1000000
/-! ### Spans -/
abbrev Spn:Type:=Int × Int
def memS (l:List Spn) (x:Int):Prop:=∃ s ∈ l,s.1≤x∧x < s.2
def SepA:Int→List Spn→Prop
 | _,[]=>True
 | lo,s::r=>lo < s.1∧s.1 < s.2∧SepA s.2 r
theorem memS_nil (x:Int):¬ memS [] x:=by rintro ⟨s,hs,_⟩;cases hs
theorem memS_cons (s:Spn) (r:List Spn) (x:Int):memS (s::r) x ↔ (s.1≤x∧x < s.2)∨memS r x:=by
 constructor
 · rintro ⟨t,ht,h⟩
   rcases List.mem_cons.1 ht with rfl | ht
   · exact .inl h
   · exact .inr ⟨t,ht,h⟩
 · rintro (h | ⟨t,ht,h⟩)
   · exact ⟨s,by simp,h⟩
   · exact ⟨t,by simp [ht],h⟩
theorem memS_append (a b:List Spn) (x:Int):memS (a++b) x ↔ memS a x∨memS b x:=by
 constructor
 · rintro ⟨t,ht,h⟩
   rcases List.mem_append.1 ht with ht | ht
   · exact .inl ⟨t,ht,h⟩
   · exact .inr ⟨t,ht,h⟩
 · rintro (⟨t,ht,h⟩ | ⟨t,ht,h⟩)
   · exact ⟨t,by simp [ht],h⟩
   · exact ⟨t,by simp [ht],h⟩
theorem sep_gt:∀ {l:List Spn} {lo x:Int},SepA lo l→memS l x→lo < x
 | [],_,x,_,h=>absurd h (memS_nil x)
 | s::r,lo,x,h,hm=>by
   obtain ⟨h1,h2,h3⟩:=h
   rcases (memS_cons s r x).1 hm with hm | hm
   · omega
   · have:=sep_gt h3 hm;omega
theorem canon:∀ {l l':List Spn} {lo:Int},SepA lo l→SepA lo l'→(∀ x,memS l x ↔ memS l' x)→l=l'
 | [],[],_,_,_,_=>rfl
 | [],s::r,_,_,h,hm=>absurd ((hm s.1).2 ⟨s,by simp,by have:=h.2.1;omega,h.2.1⟩) (memS_nil _)
 | s::r,[],_,h,_,hm=>absurd ((hm s.1).1 ⟨s,by simp,by have:=h.2.1;omega,h.2.1⟩) (memS_nil _)
 | s::r,t::u,lo,h,h',hm=>by
   obtain ⟨s1,s2,s3⟩:=h
   obtain ⟨t1,t2,t3⟩:=h'
   have a1:t.1≤s.1:=by
    rcases (memS_cons t u s.1).1 ((hm s.1).1 ⟨s,by simp,by omega,s2⟩) with k | k
    · exact k.1
    · have:=sep_gt t3 k;omega
   have a2:s.1≤t.1:=by
    rcases (memS_cons s r t.1).1 ((hm t.1).2 ⟨t,by simp,by omega,t2⟩) with k | k
    · exact k.1
    · have:=sep_gt s3 k;omega
   have n1:¬ memS (s::r) s.2:=fun k=>by
    rcases (memS_cons s r s.2).1 k with k | k
    · omega
    · have:=sep_gt s3 k;omega
   have n2:¬ memS (t::u) t.2:=fun k=>by
    rcases (memS_cons t u t.2).1 k with k | k
    · omega
    · have:=sep_gt t3 k;omega
   have b1:¬ (s.2 < t.2):=fun k=>n1 ((hm s.2).2 ⟨t,by simp,by omega,k⟩)
   have b2:¬ (t.2 < s.2):=fun k=>n2 ((hm t.2).1 ⟨s,by simp,by omega,k⟩)
   have e:s=t:=Prod.ext (by omega) (by omega)
   subst e
   have hr:∀ x,memS r x ↔ memS u x:=fun x=>by
    constructor
    · intro k
      have hx:=sep_gt s3 k
      rcases (memS_cons s u x).1 ((hm x).1 ((memS_cons s r x).2 (.inr k))) with q | q
      · omega
      · exact q
    · intro k
      have hx:=sep_gt t3 k
      rcases (memS_cons s r x).1 ((hm x).2 ((memS_cons s u x).2 (.inr k))) with q | q
      · omega
      · exact q
   rw [canon s3 t3 hr]
/-! ### Spans joined one after the other -/
theorem sep_snoc:∀ {l:List Spn} {lo:Int} {s:Spn},SepA lo l→lo < s.1→s.1 < s.2→(∀ t ∈ l,t.2 < s.1)→SepA lo (l++[s])
 | [],_,_,_,h1,h2,_=>⟨h1,h2,trivial⟩
 | t::r,lo,s,h,_,h2,h3=>⟨h.1,h.2.1,sep_snoc h.2.2 (h3 t (by simp)) h2 fun q hq=>h3 q (by simp [hq])⟩
theorem sep_init:∀ {l:List Spn} {lo:Int} {s:Spn},SepA lo (l++[s])→SepA lo l∧lo < s.1∧s.1 < s.2 ∧ ∀ t ∈ l,t.2 < s.1
 | [],_,_,h=>⟨trivial,h.1,h.2.1,fun t ht=>by cases ht⟩
 | t::r,lo,s,h=>by
   obtain ⟨h1,h2,h3⟩:=h
   obtain ⟨i1,i2,i3,i4⟩:=sep_init h3
   refine ⟨⟨h1,h2,i1⟩,by omega,i3,fun q hq => ?_⟩
   rcases List.mem_cons.1 hq with rfl | hq
   · exact i2
   · exact i4 q hq
def joinP (acc:List Spn) (s:Spn):List Spn:=match acc.getLast? with
 | none=>acc++[s]
 | some l=>if s.1≤l.2 then acc.dropLast++[(l.1,if l.2 < s.2 then s.2 else l.2)] else acc++[s]
theorem joinP_nil (s:Spn):joinP [] s=[s]:=rfl
theorem joinP_snoc (a:List Spn) (l s:Spn):joinP (a++[l]) s=if s.1≤l.2 then a++[(l.1,if l.2 < s.2 then s.2 else l.2)] else a++[l]++[s]:=by
 unfold joinP
 rw [List.getLast?_concat,List.dropLast_concat]
theorem joinP_ok {acc:List Spn} {s:Spn} {lo:Int} (h:SepA lo acc) (h1:lo < s.1) (h2:s.1 < s.2) (h3:∀ t ∈ acc,t.1≤s.1):SepA lo (joinP acc s)∧(∀ x,memS (joinP acc s) x ↔ memS acc x∨(s.1≤x∧x < s.2)) ∧ ∀ t ∈ joinP acc s,t.1≤s.1:=by
 rcases List.eq_nil_or_concat acc with rfl | ⟨a,l,rfl⟩
 · rw [joinP_nil]
   refine ⟨⟨h1,h2,trivial⟩,fun x => ?_,fun t ht => ?_⟩
   · rw [memS_cons]
     exact ⟨fun k=>k.elim .inr fun k=>absurd k (memS_nil x),fun k=>k.elim (fun k=>absurd k (memS_nil x)) .inl⟩
   · rw [List.mem_singleton.1 ht];exact Int.le_refl _
 · rw [List.concat_eq_append] at *
   obtain ⟨i1,i2,i3,i4⟩:=sep_init h
   have hl:=h3 l (by simp)
   rw [joinP_snoc]
   by_cases c:s.1≤l.2
   · rw [if_pos c]
     refine ⟨sep_snoc i1 i2 (by show l.1 < if l.2 < s.2 then s.2 else l.2;split<;>omega) i4,fun x => ?_,fun t ht => ?_⟩
     · rw [memS_append,memS_append,memS_cons,memS_cons]
       have n:=memS_nil x
       have:(l.1≤x∧x < if l.2 < s.2 then s.2 else l.2) ↔ (l.1≤x∧x < l.2)∨(s.1≤x∧x < s.2):=by
        split<;>omega
       constructor
       · rintro (k | k | k)
         · exact .inl (.inl k)
         · rcases this.1 k with k | k
           · exact .inl (.inr (.inl k))
           · exact .inr k
         · exact absurd k n
       · rintro ((k | k | k) | k)
         · exact .inl k
         · exact .inr (.inl (this.2 (.inl k)))
         · exact absurd k n
         · exact .inr (.inl (this.2 (.inr k)))
     · rcases List.mem_append.1 ht with ht | ht
       · exact h3 t (by simp [ht])
       · rw [List.mem_singleton.1 ht];exact hl
   · rw [if_neg c]
     refine ⟨sep_snoc h h1 h2 fun t ht => ?_,fun x => ?_,fun t ht => ?_⟩
     · rcases List.mem_append.1 ht with ht | ht
       · have:=i4 t ht;omega
       · rw [List.mem_singleton.1 ht];omega
     · rw [memS_append,memS_cons]
       have n:=memS_nil x
       exact ⟨fun k=>k.elim .inl fun k=>k.elim .inr fun k=>absurd k n,fun k=>k.elim .inl fun k=>.inr (.inl k)⟩
     · rcases List.mem_append.1 ht with ht | ht
       · exact h3 t ht
       · rw [List.mem_singleton.1 ht];exact Int.le_refl _
def sortedS:List Spn→Prop
 | s::t::r=>s.1≤t.1∧sortedS (t::r)
 | _=>True
theorem sorted_tail {s:Spn} {r:List Spn} (h:sortedS (s::r)):sortedS r:=by
 cases r with
 | nil=>trivial
 | cons t u=>exact h.2
theorem sorted_head:∀ {s:Spn} {r:List Spn},sortedS (s::r) → ∀ t ∈ r,s.1≤t.1
 | _,[],_,t,ht=>by cases ht
 | s,u::r,h,t,ht=>by
   rcases List.mem_cons.1 ht with rfl | ht
   · exact h.1
   · have:=sorted_head h.2 t ht
     have:=h.1
     omega
theorem joins_ok {lo:Int}:∀ {l acc:List Spn},SepA lo acc→sortedS l→(∀ s ∈ l,lo < s.1∧s.1 < s.2)→(∀ t ∈ acc,∀ s ∈ l,t.1≤s.1)→SepA lo (l.foldl joinP acc) ∧ ∀ x,memS (l.foldl joinP acc) x ↔ memS acc x∨memS l x
 | [],acc,h,_,_,_=>⟨h,fun x=>⟨.inl,fun k=>k.elim id fun k=>absurd k (memS_nil x)⟩⟩
 | s::r,acc,h,hs,hg,ho=>by
   obtain ⟨g1,g2⟩:=hg s (by simp)
   obtain ⟨j1,j2,j3⟩:=joinP_ok h g1 g2 fun t ht=>ho t ht s (by simp)
   obtain ⟨i1,i2⟩:=joins_ok (l:=r) j1 (sorted_tail hs) (fun t ht=>hg t (by simp [ht])) fun t ht u hu=>by
    have:=j3 t ht
    have:=sorted_head hs u hu
    omega
   refine ⟨i1,fun x => ?_⟩
   show memS (r.foldl joinP (joinP acc s)) x ↔ _
   rw [i2,j2,memS_cons,or_assoc]
/-! ### Stretches met metre by metre -/
def runsR (f:Nat→Bool):Nat→List Spn
 | 0=>[]
 | m+1=>if f m then (if 0 < m∧f (m - 1)=true then (runsR f m).dropLast++[(((runsR f m).getLast?.getD (0,0)).1,(m:Int)+1)] else runsR f m++[((m:Int),(m:Int)+1)]) else runsR f m
theorem runs_ok (f:Nat→Bool):∀ m:Nat,SepA (-1) (runsR f m)∧(∀ x:Int,memS (runsR f m) x ↔ 0≤x∧x < m∧f x.toNat=true)∧(∀ t ∈ runsR f m,t.2≤m)∧((0 < m∧f (m - 1)=true) → ∃ (a:List Spn) (s:Spn),runsR f m=a++[s]∧s.2=(m:Int))∧((m=0∨f (m - 1)=false) → ∀ t ∈ runsR f m,t.2 < m)
 | 0=>⟨trivial,fun x=>⟨fun k=>absurd k (memS_nil x),fun k=>by omega⟩,fun t ht=>(by cases ht),fun h=>absurd h.1 (by omega),fun _ t ht=>(by cases ht)⟩
 | m+1=>by
   obtain ⟨i1,i2,i3,i4,i5⟩:=runs_ok f m
   have hcx:∀ x:Int,x < ((m+1:Nat):Int) ↔ x < m∨x=m:=fun x=>by omega
   by_cases hf:f m=true
   · by_cases hp:0 < m∧f (m - 1)=true
     · obtain ⟨a,s,e1,e2⟩:=i4 hp
       have e:runsR f (m+1)=a++[(s.1,(m:Int)+1)]:=by
        unfold runsR
        rw [if_pos hf,if_pos hp,e1,List.dropLast_concat,List.getLast?_concat];rfl
       rw [e]
       rw [e1] at i1 i2 i3
       obtain ⟨k1,k2,k3,k4⟩:=sep_init i1
       refine ⟨sep_snoc k1 k2 (by show s.1 < (m:Int)+1;omega) k4,fun x => ?_,fun t ht => ?_,fun _=>⟨a,_,rfl,by show (m:Int)+1=_;omega⟩,fun h => ?_⟩
       · have:=i2 x
         rw [memS_append,memS_cons] at this
         rw [memS_append,memS_cons]
         have n:=memS_nil x
         constructor
         · rintro (k | k | k)
           · have:=this.1 (.inl k)
             exact ⟨this.1,by omega,this.2.2⟩
           · by_cases c:x < s.2
             · have:=this.1 (.inr (.inl ⟨k.1,c⟩))
               exact ⟨this.1,by omega,this.2.2⟩
             · have hk:=k.2
               simp only at hk
               have hxm:x=m:=by omega
               subst hxm
               exact ⟨by omega,by omega,by simpa using hf⟩
           · exact absurd k n
         · rintro ⟨k1,k2,k3⟩
           rcases (hcx x).1 k2 with k | k
           · rcases this.2 ⟨k1,k,k3⟩ with q | q | q
             · exact .inl q
             · exact .inr (.inl ⟨q.1,by show x < (m:Int)+1;omega⟩)
             · exact absurd q n
           · exact .inr (.inl ⟨by show s.1≤x;omega,by show x < (m:Int)+1;omega⟩)
       · rcases List.mem_append.1 ht with ht | ht
         · have:=i3 t (by simp [ht]);omega
         · rw [List.mem_singleton.1 ht];show (m:Int)+1≤_;omega
       · rcases h with h | h
         · omega
         · simp only [Nat.add_sub_cancel] at h;rw [h] at hf;cases hf
     · have e:runsR f (m+1)=runsR f m++[((m:Int),(m:Int)+1)]:=by
        conv=>lhs;unfold runsR
        rw [if_pos hf,if_neg hp]
       have hlt:=i5 (by
        by_cases h0:m=0
        · exact .inl h0
        · right
          cases hc:f (m - 1) with
          | false=>rfl
          | true=>exact absurd ⟨by omega,hc⟩ hp)
       rw [e]
       refine ⟨sep_snoc i1 (by show (-1:Int) < m;omega) (by show (m:Int) < (m:Int)+1;omega) hlt,fun x => ?_,fun t ht => ?_,fun _=>⟨_,_,rfl,by show (m:Int)+1=_;omega⟩,fun h => ?_⟩
       · rw [memS_append,memS_cons,i2]
         have n:=memS_nil x
         constructor
         · rintro (k | k | k)
           · exact ⟨k.1,by omega,k.2.2⟩
           · simp only at k
             have hxm:x=m:=by omega
             subst hxm
             exact ⟨by omega,by omega,by simpa using hf⟩
           · exact absurd k n
         · rintro ⟨k1,k2,k3⟩
           rcases (hcx x).1 k2 with k | k
           · exact .inl ⟨k1,k,k3⟩
           · exact .inr (.inl ⟨by show (m:Int)≤x;omega,by show x < (m:Int)+1;omega⟩)
       · rcases List.mem_append.1 ht with ht | ht
         · have:=i3 t ht;omega
         · rw [List.mem_singleton.1 ht];show (m:Int)+1≤_;omega
       · rcases h with h | h
         · omega
         · simp only [Nat.add_sub_cancel] at h;rw [h] at hf;cases hf
   · have e:runsR f (m+1)=runsR f m:=by
      conv=>lhs;unfold runsR
      rw [if_neg hf]
     have hf':f m=false:=by simpa using hf
     rw [e]
     refine ⟨i1,fun x => ?_,fun t ht=>by have:=i3 t ht;omega,fun h => ?_,fun _ t ht=>by have:=i3 t ht;omega⟩
     · rw [i2]
       constructor
       · rintro ⟨k1,k2,k3⟩;exact ⟨k1,by omega,k3⟩
       · rintro ⟨k1,k2,k3⟩
         rcases (hcx x).1 k2 with k | k
         · exact ⟨k1,k,k3⟩
         · subst k
           rw [Int.toNat_natCast,hf'] at k3;cases k3
     · have:=h.2
       simp only [Nat.add_sub_cancel] at this
       rw [hf'] at this;cases this
/-! ### What leads to a line -/
section
variable (E:Nat→Bool→Pt) (N:Nat)
structure Cover (a:Pt) (s:List Nat) (L:List (Int × Int)):Prop where
 sound:∀ x d,(x,d) ∈ L → ∃ σ,okS E N a σ (s,x)∧lenS E a σ (s,x)≤d
 full:∀ σ m,okS E N a σ (s,m) → ∃ x d,(x,d) ∈ L∧d+dI x m≤lenS E a σ (s,m)
variable {E N}
theorem Cover.dist {a:Pt} {s:List Nat} {L:List (Int × Int)} (h:Cover E N a s L) {m d:Int} (hd:Dist E N a (s,m) d):(∃ x e,(x,e) ∈ L∧e+dI x m=d) ∧ ∀ x e,(x,e) ∈ L→d≤e+dI x m:=by
 have lower:∀ x e,(x,e) ∈ L→d≤e+dI x m:=by
  intro x e hx
  obtain ⟨σ,s1,s2⟩:=h.sound x e hx
  have s3:okS E N a σ (s,m):=okS_end E N (b:=(s,x)) (c:=(s,m)) rfl s1
  have:=hd.least σ s3
  have:=lenS_end E (s,x) (s,m) a σ
  simp only at this
  omega
 refine ⟨?_,lower⟩
 obtain ⟨σ,s1,s2⟩:=hd.way
 obtain ⟨x,e,h1,h2⟩:=h.full σ m s1
 have:=lower x e h1
 exact ⟨x,e,h1,by omega⟩
theorem Cover.within {a:Pt} {s:List Nat} {L:List (Int × Int)} (h:Cover E N a s L) (m most:Int):(∃ x d,(x,d) ∈ L∧d+dI x m≤most) ↔ ∃ d,Dist E N a (s,m) d∧d≤most:=by
 constructor
 · rintro ⟨x,d,h1,h2⟩
   obtain ⟨σ,s1,s2⟩:=h.sound x d h1
   obtain ⟨d',hd⟩:=dist_of E N _ σ (okS_end E N (b:=(s,x)) (c:=(s,m)) rfl s1) (Nat.lt_succ_self _)
   have:=(h.dist hd).2 x d h1
   exact ⟨d',hd,by omega⟩
 · rintro ⟨d,hd,h2⟩
   obtain ⟨x,e,h1,h3⟩:=(h.dist hd).1
   exact ⟨x,e,h1,by omega⟩
end
end Go.Sim

/-
From where lines are entered, by the program.
-/
-- INJ Leg.row_iff lgs_iff pts_iff ptr_iff
namespace Go.Sim
open Go Go.Proofs
set_option maxRecDepth 100000
set_option maxHeartbeats 64000000
variable {P:FuncId→Option (List AV→Option AV)}
/-! ### Best ways are there where there are ways -/
theorem bestO_spec {n:Net} (h:netP n=0) {a b:Pt} (ha:lnB n.lines a.1=true):match bestO n a b with
 | none=>∀ w,¬ isWay (endE n) n.sws.length a b w
 | some w=>Best (endE n) n.sws.length (findI n.lines) a b w:=by
 have hb:=waysL_best (E:=endE n) (N:=n.sws.length) (b:=b) (ix:=findI n.lines) (S:=fun s=>lnB n.lines s=true) (findI_inj h) (fun i k hi=>(ends_in h i k hi).1) (a:=a) ha
 have e:=bestO_of h ha hb
 rw [e] at hb
 exact hb
theorem lk_bestO {n:Net} (h:netP n=0) {a:Pt} (ha:lnB n.lines a.1=true) {L:Labs} (hL:Lab (endE n) n.sws.length (findI n.lines) a (lk L)) {i:Nat} {k:Bool} (hi:i < n.sws.length):lk L (endE n i k)=bestO n a (endE n i k):=by
 have hN:n.sws.length≤14:=by have:=net_sws h;omega
 have hS:∀ i k,i < n.sws.length→lnB n.lines (endE n i k).1=true:=fun i k hi=>(ends_in h i k hi).1
 refine bestO_of h ha ?_
 cases hl:lk L (endE n i k) with
 | none =>
   rintro w ⟨σ,s1,_⟩
   obtain ⟨w',w1,_⟩:=Lab.best (S:=fun s=>lnB n.lines s=true) (findI_inj h) hS hL hN ha hi s1
   rw [hl] at w1;cases w1
 | some w =>
   obtain ⟨σ,s1,_⟩:=hL.valid _ _ hl
   obtain ⟨w',w1,w2,_⟩:=Lab.best (S:=fun s=>lnB n.lines s=true) (findI_inj h) hS hL hN ha hi s1
   rw [hl] at w1;cases w1
   exact w2
/-! ### The places from which lines are gone along -/
abbrev Ent:Type:=Pt × Int
def entRow (e:Ent):List AV:=[.str e.1.1,i64 e.1.2,i64 e.2]
theorem entRow_len (e:Ent):(entRow e).length=3:=rfl
noncomputable def entAt (n:Net) (a:Pt) (i:Nat) (k:Bool):List Ent:=match bestO n a (endE n i k) with
 | some w=>[(endE n i (!k),wSum w)]
 | none=>[]
noncomputable def entTo (n:Net) (a:Pt):Nat→List Ent
 | 0=>[(a,0)]
 | i+1=>(entTo n a i++entAt n a i false)++entAt n a i true
noncomputable def entO (n:Net) (a:Pt):List Ent:=entTo n a n.sws.length
theorem entAt_len (n:Net) (a:Pt) (i:Nat) (k:Bool):(entAt n a i k).length≤1:=by unfold entAt;split<;>simp
theorem entTo_len (n:Net) (a:Pt):∀ i,(entTo n a i).length≤1+2 * i
 | 0=>by simp [entTo]
 | i+1=>by
   have:=entTo_len n a i
   have:=entAt_len n a i false
   have:=entAt_len n a i true
   simp only [entTo,List.length_append];omega
theorem entTo_ne (n:Net) (a:Pt):∀ i,entTo n a i ≠ []
 | 0=>by simp [entTo]
 | i+1=>by
   have:=entTo_ne n a i
   simp [entTo,this]
theorem ent_mem (n:Net) (a:Pt) (e:Ent):∀ {i:Nat},e ∈ entTo n a i ↔ e=(a,0) ∨ ∃ j k,j < i∧e ∈ entAt n a j k
 | 0=>by simp [entTo]
 | i+1=>by
   have ih:=ent_mem n a e (i:=i)
   simp only [entTo,List.mem_append,ih]
   constructor
   · rintro ((h | h) | h)
     · exact h.elim .inl fun ⟨j,k,h1,h2⟩=>.inr ⟨j,k,by omega,h2⟩
     · exact .inr ⟨i,false,by omega,h⟩
     · exact .inr ⟨i,true,by omega,h⟩
   · rintro (h | ⟨j,k,h1,h2⟩)
     · exact .inl (.inl (.inl h))
     · rcases Nat.lt_or_ge j i with hj | hj
       · exact .inl (.inl (.inr ⟨j,k,hj,h2⟩))
       · obtain rfl:j=i:=by omega
         cases k
         · exact .inl (.inr h2)
         · exact .inr h2
def lineOf (s:List Nat) (l:List Ent):List (Int × Int):=l.filterMap fun e=>if e.1.1=s then some (e.1.2,e.2) else none
theorem mem_lineOf {s:List Nat} {l:List Ent} {x d:Int}:(x,d) ∈ lineOf s l ↔ ((s,x),d) ∈ l:=by
 unfold lineOf
 rw [List.mem_filterMap]
 constructor
 · rintro ⟨⟨⟨t,y⟩,e⟩,h1,h2⟩
   split at h2
   · rename_i hs
     cases h2
     simp only at hs
     subst hs
     exact h1
   · cases h2
 · intro h
   exact ⟨((s,x),d),h,by simp⟩
theorem ent_cover {n:Net} (h:netP n=0) {a:Pt} (ha:lnB n.lines a.1=true) (s:List Nat):Cover (endE n) n.sws.length a s (lineOf s (entO n a)) where
 sound:=by
  intro x d hx
  rcases (ent_mem n a _).1 (mem_lineOf.1 hx) with he | ⟨j,k,hj,he⟩
  · obtain ⟨e1,e2⟩:=Prod.mk.inj he
    subst e2
    rw [e1]
    exact ⟨[],rfl,by rw [lenS_nil,dI_self];exact Int.le_refl _⟩
  · unfold entAt at he
    have hb:=bestO_spec h ha (b:=endE n j k)
    cases ho:bestO n a (endE n j k) with
    | none=>rw [ho] at he;cases he
    | some w =>
      rw [ho] at he hb
      obtain ⟨e1,e2⟩:=Prod.mk.inj (List.mem_singleton.1 he)
      obtain ⟨σ,s1,s2⟩:=hb.way
      refine ⟨σ++[(j,k)],(okS_snoc _ _ a σ (j,k) _).2 ⟨s1,hj,by rw [e1]⟩, ?_⟩
      have e0:lenS (endE n) a σ (endE n j k)=wSum (legsOf (endE n) a σ (endE n j k)):=rfl
      rw [lenS_snoc,e1,dI_self,e2,s2]
      show lenS (endE n) a σ (endE n j k)+0≤wSum _
      omega
 full:=by
  intro σ m hσ
  rcases List.eq_nil_or_concat σ with rfl | ⟨τ,st,rfl⟩
  · have hs:a.1=s:=hσ
    refine ⟨a.2,0,mem_lineOf.2 ((ent_mem n a _).2 (.inl ?_)), ?_⟩
    · rw [← hs]
    · rw [lenS_nil];show 0+dI a.2 m≤dI a.2 m;omega
  · rw [List.concat_eq_append] at *
    obtain ⟨h1,h2,h3⟩:=(okS_snoc _ _ a τ st _).1 hσ
    have hb:=bestO_spec h ha (b:=endE n st.1 st.2)
    cases ho:bestO n a (endE n st.1 st.2) with
    | none=>rw [ho] at hb;exact (hb _ ⟨τ,h1,rfl⟩).elim
    | some w =>
      rw [ho] at hb
      have hl:=wLe_sum _ (hb.least τ h1)
      refine ⟨(endE n st.1 (!st.2)).2,wSum w,mem_lineOf.2 ((ent_mem n a _).2 (.inr ⟨st.1,st.2,h2, ?_⟩)), ?_⟩
      · unfold entAt
        rw [ho]
        have h3:(endE n st.1 (!st.2)).1=s:=h3
        rw [← h3]
        exact List.mem_singleton.2 rfl
      · rw [lenS_snoc]
        show wSum w+dI (endE n st.1 (!st.2)).2 m≤wSum (legsOf (endE n) a τ (endE n st.1 st.2))+dI (endE n st.1 (!st.2)).2 m
        omega
/-! ### The walk -/
theorem app_exE {lo:Nat} {H:Heap} {rows:List (List AV)} {sz:Nat} {e:TypeId} {r:List AV} (h1:rows.length+1≤maxRows) (h2:pureRow r=true) (h3:0 < sz) (h4:rows.all (fun r=>r.length=sz)=true):appP lo H sz e (.ps .exact rows) [r]=some (.ps (.tok H.n) (rows++[r.map AV.strip0]),H.push (.row [] sz e)):=by
 unfold appP
 have h5:rows.length+[r].length≤maxRows:=by simpa using h1
 have h6:[r].all pureRow=true:=by simp [h2]
 simp only [h3,h4,h5,h6,decide_true,Bool.and_self,if_true]
 rfl
noncomputable def PPF116:FuncId→Option (List AV→Option AV):=addPrim 204 p204 (addPrim 203 p203 (addPrim 151 p151 (fun _=>none)))
theorem primsF116:PrimsOk NC PPF116:=primsOk_add (primsOk_add (primsOk_add (primsOk_none) (by kernel_rfl) (by kernel_rfl) pok151) (by kernel_rfl) (by kernel_rfl) pok203) (by kernel_rfl) (by kernel_rfl) pok204
theorem enF116_151:En PPF116 151 p151:=enter_prim (by rfl) (by kernel_rfl)
theorem enF116_203:En PPF116 203 p203:=enter_prim (by rfl) (by kernel_rfl)
theorem enF116_204:En PPF116 204 p204:=enter_prim (by rfl) (by kernel_rfl)
attribute [go_sem ↓] enF116_151 enF116_203 enF116_204
theorem c116 (n:Net) (a:Pt) (hp:n.Ok∧netP n=0∧lnB n.lines a.1=true∧inR a.2):∀ lo H,CallOk NC lo 116 [.agg n.cells,.agg (ptRow a)] H (.ps .unk ((entO n a).map entRow)) H:=by
 refine contract saneNC primsF116 (fn:=Tryz.f116) (by kernel_rfl) Tryz.func116 rfl rfl (by rfl) (by first | rfl | (split<;>first | rfl | (split<;>rfl))) ?_
 obtain ⟨hn,hz,hLa,hRa⟩:=hp
 have hsw:n.sws.length≤maxRows:=hn.sws
 have h8:=net_sws hz
 have hRE:∀ i k,i < n.sws.length→inR (endE n i k).2:=fun i k hi=>(ends_in hz i k hi).2
 obtain ⟨v1,H1,q1,⟨L,rfl,q2,q3,hLab,hLv,q4⟩⟩:=r185 (P:=PPF116) rfl rfl rfl rfl n hn hsw a hRa hRE 2 ((Heap.empty.push (.cells n.cells 40)).push (.cells (ptRow a) 45)) (by simp [empty_n])
 have g0:H1.get 0=.cells n.cells 40:=by rw [q4 0 (by simp [empty_n])];simp [Heap.get_push,empty_n]
 have hid:(((Heap.empty.push (.cells n.cells 40)).push (.cells (ptRow a) 45)).n+2)=4:=by simp [empty_n]
 rw [hid] at q1 q2 q3
 have hlk:∀ i k,i < n.sws.length→lk L (endE n i k)=bestO n a (endE n i k):=fun i k hi=>lk_bestO hz hLa hLab hi
 have hen0:entTo n a 0=[(a,0)]:=rfl
 have hlen:=entTo_len n a
 obtain ⟨a1,a2⟩:=a
 have g0':=g0
 simp only [Net.cells,ptRow] at q1 g0'
 simp only [go_sem,reduceIte,reduceEqDiff,reduceAdd,reduceMul,reduceSub,reduceLeDiff,reduceLT,Nat.reduceBEq,reduceCtorEq,Net.cells,ptRow,en185 (show PPF116 185=none from rfl),q1,ofVal_v,ofVal_H,g0']
 refine W_for (fun i T H M=>M=[]∧getT T 2=.ptr 0 0∧getT T 6=.map 4∧getT T 21=.ps .unk (n.sws.map Sw.row)∧getT T 22=i64 (n.sws.length:Nat)∧getT T 23=i64 i∧4 < H.n∧H.get 0=.cells n.cells 40∧H.get 4=.map (lmap L) ∧ ∃ t,getT T 5=.ps t ((entTo n (a1,a2) i).map entRow)∧(t=.exact ∨ ∃ j,t=.tok j∧4 < j∧j < H.n∧H.get j=.row [] 3 220)) n.sws.length ?_ ?_ ?_
 · simp only [go_sem,reduceIte,reduceEqDiff,reduceAdd,reduceMul,reduceSub,reduceLeDiff,reduceLT,Nat.reduceBEq,reduceCtorEq,List.length_map,hen0,entRow]
   exact ⟨q2,g0,q3,.exact,rfl,.inl rfl⟩
 · rintro i T H M hk ⟨rfl,t2,t6,t21,t22,t23,hn4,p0,p4,t,t5,hA⟩
   obtain ⟨sw,hsx⟩:∃ p,n.sws[i]? = some p:=⟨n.sws[i],by simp⟩
   have hr:=map_at (f:=Sw.row) hsx
   have hw:=wrap_succ hk hsw
   have hE:endE n i=fun k=>if k then (sw.other,endM n sw) else (sw.line,sw.metre):=by funext k;unfold endE;rw [hsx]
   have e151:=pe151 n sw hn
   have l0:=hlk i false hk
   have l1:=hlk i true hk
   have hl0:=entAt_len n (a1,a2) i false
   have hen:entTo n (a1,a2) (i+1)=(entTo n (a1,a2) i++entAt n (a1,a2) i false)++entAt n (a1,a2) i true:=rfl
   have he0:entAt n (a1,a2) i false=match bestO n (a1,a2) (endE n i false) with
    | some w=>[(endE n i true,wSum w)]
    | none=>[]:=rfl
   have he1:entAt n (a1,a2) i true=match bestO n (a1,a2) (endE n i true) with
    | some w=>[(endE n i false,wSum w)]
    | none=>[]:=rfl
   have hli:=hlen i
   rw [hen]
   rw [he0] at hl0 ⊢
   rw [he1]
   rw [← l0] at hl0 ⊢
   rw [← l1]
   clear hen he0 he1 l0 l1
   have f0:endE n i false=(sw.line,sw.metre):=by rw [hE];rfl
   have f1:endE n i true=(sw.other,endM n sw):=by rw [hE];rfl
   rw [f0,f1] at hl0 ⊢
   clear f0 f1 hE
   generalize endM n sw=EM at e151 hl0 ⊢
   obtain ⟨w1,w2,w3,w4,w5⟩:=sw
   generalize hrows:entTo n (a1,a2) i=rows at t5 hli ⊢
   have hra:=rows_all entRow_len rows
   have look0:∀ H',H'.get 4=.map (lmap L)→alookup NC.P H' 316 (.map 4) (.agg [.str w2,.int .i64 w3]) true=some (match lk L (w2,w3) with
    | some w=>.tup [rtC w,.bool true]
    | none=>.tup [.agg [.ps .nil [],.int .i64 0],.bool false]):=fun H' h=>lookL h (w2,w3)
   have look1:∀ H',H'.get 4=.map (lmap L)→alookup NC.P H' 316 (.map 4) (.agg [.str w4,.int .i64 EM]) true=some (match lk L (w4,EM) with
    | some w=>.tup [rtC w,.bool true]
    | none=>.tup [.agg [.ps .nil [],.int .i64 0],.bool false]):=fun H' h=>lookL h (w4,EM)
   have y0:(0=H.n)=False∧(0=H.n+1)=False∧(0=H.n+2)=False∧(0=H.n+3)=False∧(0=H.n+4)=False:=by simp only [eq_iff_iff,iff_false];omega
   have y4:(4=H.n)=False∧(4=H.n+1)=False∧(4=H.n+2)=False∧(4=H.n+3)=False∧(4=H.n+4)=False:=by simp only [eq_iff_iff,iff_false];omega
   have p0':=p0
   simp only [Sw.row,Net.cells,i64] at hr e151 p0'
   have hc1:∀ r:List AV,pureRow r=true→r.length=3→r.map AV.strip0=r → ∀ lo H' k,H'.get k=.row [] 3 220→lo≤k→rows ≠ []→appP lo H' 3 220 (.ps (.tok k) (rows.map entRow)) [r]=some (.ps (.tok H'.n) (rows.map entRow++[r]),(H'.set k .dead).push (.row [] 3 220)):=fun r h1 h2 h3 lo H' k h4 h5 h6=>by
    rw [app_next (by simp) (by simp;unfold maxRows;omega) (by simp [h1]) (by decide) hra h4 h5 (by simpa using h6)]
    simp [h3]
   have hc2:∀ r q:List AV,r.length=3→pureRow q=true→q.map AV.strip0=q → ∀ lo H' k,H'.get k=.row [] 3 220→lo≤k→appP lo H' 3 220 (.ps (.tok k) (rows.map entRow++[r])) [q]=some (.ps (.tok H'.n) (rows.map entRow++[r]++[q]),(H'.set k .dead).push (.row [] 3 220)):=fun r q h1 h2 h3 lo H' k h4 h5=>by
    rw [app_next (by simp) (by simp;unfold maxRows;omega) (by simp [h2]) (by decide) (by rw [List.all_append,hra];simp [h1]) h4 h5 (by simp)]
    simp [h3]
   have hc0:∀ r:List AV,pureRow r=true→r.map AV.strip0=r → ∀ lo H',appP lo H' 3 220 (.ps .exact (rows.map entRow)) [r]=some (.ps (.tok H'.n) (rows.map entRow++[r]),H'.push (.row [] 3 220)):=fun r h1 h3 lo H'=>by
    rw [app_exE (by simp;unfold maxRows;omega) h1 (by decide) hra,h3]
   have hrne:rows ≠ []:=by rw [← hrows];exact entTo_ne n (a1,a2) i
   have hap:=fun (l:List Ent)=>List.map_append (f:=entRow) (l₁:=rows) (l₂:=l)
   rcases hA with rfl | ⟨j,rfl,hj1,hj2,hj3⟩
   · skip
     cases hl0:lk L (w2,w3) with
     | none =>
       rw [hl0] at look0
       cases hl1:lk L (w4,EM) with
       | none =>
         rw [hl1] at look1
         simp only [] at look0 look1 ⊢
         simp only [go_sem,reduceIte,reduceEqDiff,reduceAdd,reduceMul,reduceSub,reduceLeDiff,reduceLT,Nat.reduceBEq,reduceCtorEq,t2,t6,t21,t22,t23,t5,List.length_map,hk,hr,hw,p0',p4,y0,y4,e151,ab259,look0,look1]
         exact ⟨by omega,rfl,.exact,rfl,.inl rfl⟩
       | some r1 =>
         rw [hl1] at look1
         have h1:=hc0 _ (show pureRow [AV.str w2,.int .i64 w3,.int .i64 (wSum r1)]=true from rfl) rfl
         simp only [rtC] at look0 look1 ⊢
         simp only [go_sem,reduceIte,reduceEqDiff,reduceAdd,reduceMul,reduceSub,reduceLeDiff,reduceLT,Nat.reduceBEq,reduceCtorEq,t2,t6,t21,t22,t23,t5,List.length_map,hk,hr,hw,p0',p4,y0,y4,e151,ab259,look0,look1,appO,hra,h1]
         refine ⟨by omega,rfl,_,by rw [List.map_append];rfl,.inr ⟨_,rfl,by omega,by omega, ?_⟩⟩
         (repeat rw [if_neg (by omega)])
         try rw [if_pos rfl]
     | some r0 =>
       rw [hl0] at look0
       have h0:=hc0 _ (show pureRow [AV.str w4,.int .i64 EM,.int .i64 (wSum r0)]=true from rfl) rfl
       cases hl1:lk L (w4,EM) with
       | none =>
         rw [hl1] at look1
         simp only [rtC] at look0 look1 ⊢
         simp only [go_sem,reduceIte,reduceEqDiff,reduceAdd,reduceMul,reduceSub,reduceLeDiff,reduceLT,Nat.reduceBEq,reduceCtorEq,t2,t6,t21,t22,t23,t5,List.length_map,hk,hr,hw,p0',p4,y0,y4,e151,ab259,look0,look1,appO,hra,h0]
         refine ⟨by omega,rfl,_,by rw [List.map_append];rfl,.inr ⟨_,rfl,by omega,by omega, ?_⟩⟩
         (repeat rw [if_neg (by omega)])
         try rw [if_pos rfl]
       | some r1 =>
         rw [hl1] at look1
         have h1:=hc2 [AV.str w4,.int .i64 EM,.int .i64 (wSum r0)] [AV.str w2,.int .i64 w3,.int .i64 (wSum r1)] rfl rfl rfl
         simp only [rtC] at look0 look1 ⊢
         simp only [go_sem,reduceIte,reduceEqDiff,reduceAdd,reduceMul,reduceSub,reduceLeDiff,reduceLT,Nat.reduceBEq,reduceCtorEq,t2,t6,t21,t22,t23,t5,List.length_map,hk,hr,hw,p0',p4,y0,y4,e151,ab259,look0,look1,appO,hra,h0,h1]
         refine ⟨by omega,rfl,_,by rw [List.map_append,List.map_append];rfl,.inr ⟨_,rfl,by omega,by omega, ?_⟩⟩
         (repeat rw [if_neg (by omega)])
         try rw [if_pos rfl]
   · skip
     have yj:(j=H.n)=False∧(j=H.n+1)=False∧(j=H.n+2)=False∧(j=H.n+3)=False∧(j=H.n+1+1)=False∧(j=H.n+1+1+1)=False∧(4=j)=False∧(0=j)=False∧(H.n=j)=False∧(H.n+1=j)=False∧(H.n+2=j)=False∧(H.n+3=j)=False∧(H.n+1+1=j)=False∧(H.n+1+1+1=j)=False∧(H.n+1+1+1+1=j)=False:=by simp only [eq_iff_iff,iff_false];omega
     cases hl0:lk L (w2,w3) with
     | none =>
       rw [hl0] at look0
       cases hl1:lk L (w4,EM) with
       | none =>
         rw [hl1] at look1
         simp only [] at look0 look1 ⊢
         simp only [go_sem,reduceIte,reduceEqDiff,reduceAdd,reduceMul,reduceSub,reduceLeDiff,reduceLT,Nat.reduceBEq,reduceCtorEq,t2,t6,t21,t22,t23,t5,List.length_map,hk,hr,hw,p0',p4,y0,y4,e151,ab259,look0,look1,yj,hj3,hrne,ne_eq,not_false_eq_true]
         refine ⟨by omega,rfl,.tok j,rfl,.inr ⟨j,rfl,hj1,by omega, ?_⟩⟩
         (repeat rw [if_neg (by omega)])
         try exact hj3
       | some r1 =>
         rw [hl1] at look1
         have h1:=hc1 _ (show pureRow [AV.str w2,.int .i64 w3,.int .i64 (wSum r1)]=true from rfl) rfl rfl
         simp only [rtC] at look0 look1 ⊢
         simp only [go_sem,reduceIte,reduceEqDiff,reduceAdd,reduceMul,reduceSub,reduceLeDiff,reduceLT,Nat.reduceBEq,reduceCtorEq,t2,t6,t21,t22,t23,t5,List.length_map,hk,hr,hw,p0',p4,y0,y4,e151,ab259,look0,look1,appO,hra,h1,yj,hj3,hrne,ne_eq,not_false_eq_true]
         refine ⟨by omega,rfl,_,by rw [List.map_append];rfl,.inr ⟨_,rfl,by omega,by omega, ?_⟩⟩
         (repeat rw [if_neg (by omega)])
         try rw [if_pos rfl]
     | some r0 =>
       rw [hl0] at look0
       have h0:=hc1 _ (show pureRow [AV.str w4,.int .i64 EM,.int .i64 (wSum r0)]=true from rfl) rfl rfl
       cases hl1:lk L (w4,EM) with
       | none =>
         rw [hl1] at look1
         simp only [rtC] at look0 look1 ⊢
         simp only [go_sem,reduceIte,reduceEqDiff,reduceAdd,reduceMul,reduceSub,reduceLeDiff,reduceLT,Nat.reduceBEq,reduceCtorEq,t2,t6,t21,t22,t23,t5,List.length_map,hk,hr,hw,p0',p4,y0,y4,e151,ab259,look0,look1,appO,hra,h0,yj,hj3,hrne,ne_eq,not_false_eq_true]
         refine ⟨by omega,rfl,_,by rw [List.map_append];rfl,.inr ⟨_,rfl,by omega,by omega, ?_⟩⟩
         (repeat rw [if_neg (by omega)])
         try rw [if_pos rfl]
       | some r1 =>
         rw [hl1] at look1
         have h1:=hc2 [AV.str w4,.int .i64 EM,.int .i64 (wSum r0)] [AV.str w2,.int .i64 w3,.int .i64 (wSum r1)] rfl rfl rfl
         simp only [rtC] at look0 look1 ⊢
         simp only [go_sem,reduceIte,reduceEqDiff,reduceAdd,reduceMul,reduceSub,reduceLeDiff,reduceLT,Nat.reduceBEq,reduceCtorEq,t2,t6,t21,t22,t23,t5,List.length_map,hk,hr,hw,p0',p4,y0,y4,e151,ab259,look0,look1,appO,hra,h0,h1,yj,hj3,hrne,ne_eq,not_false_eq_true]
         refine ⟨by omega,rfl,_,by rw [List.map_append,List.map_append];rfl,.inr ⟨_,rfl,by omega,by omega, ?_⟩⟩
         (repeat rw [if_neg (by omega)])
         try rw [if_pos rfl]
 · rintro T H M ⟨rfl,t2,t6,t21,t22,t23,hn4,p0,p4,t,t5,hA⟩
   have hlast:entO n (a1,a2)=entTo n (a1,a2) n.sws.length:=rfl
   rw [hlast]
   simp only [go_sem,reduceIte,reduceEqDiff,reduceAdd,reduceMul,reduceSub,reduceLeDiff,reduceLT,Nat.reduceBEq,reduceCtorEq,t2,t6,t21,t22,t23,t5,Nat.lt_irrefl]
noncomputable def p116:List AV→Option AV:=primOf (α:=(Net) × (Pt)) (fun x=>[.agg x.1.cells,.agg (ptRow x.2)]) (fun x=>x.1.Ok∧netP x.1=0∧lnB x.1.lines x.2.1=true∧inR x.2.2) (fun x=>.ps .unk ((entO x.1 x.2).map entRow))
theorem pok116:∀ args v,p116 args=some v → ∀ lo H,CallOk NC lo 116 args H v H:=by
 intro args v h
 obtain ⟨x,rfl,hp,rfl⟩:=primOf_inv h
 exact c116 x.1 x.2 hp
theorem pe116 (n:Net) (a:Pt) (hp:n.Ok∧netP n=0∧lnB n.lines a.1=true∧inR a.2):p116 [.agg n.cells,.agg (ptRow a)]=some (.ps .unk ((entO n a).map entRow)):=primOf_enc (α:=(Net) × (Pt)) (enc:=fun x=>[.agg x.1.cells,.agg (ptRow x.2)]) (pre:=fun x=>x.1.Ok∧netP x.1=0∧lnB x.1.lines x.2.1=true∧inR x.2.2) (spec:=fun x=>.ps .unk ((entO x.1 x.2).map entRow)) (by intro x y h;(simp only [List.cons.injEq,AV.agg.injEq,AV.str.injEq,AV.int.injEq,AV.ps.injEq,AV.bool.injEq,Net.cells_iff,Ln.row_iff,Pc.row_iff,Mv.row_iff,lns_iff,pcs_iff,mvs_iff,Leg.row_iff,lgs_iff,pts_iff,ptr_iff,true_and,and_true] at h;first | simpa only [Prod.ext_iff] using h | simpa only [Prod.ext_iff,and_assoc] using h)) (n,a) hp
end Go.Sim

/-
The sorting of spans.
-/
-- INJ spRow_iff sps_iff
namespace Go.Sim
open Go Go.Proofs
set_option maxRecDepth 100000
set_option maxHeartbeats 16000000
variable {P:FuncId→Option (List AV→Option AV)}
def spRow (s:Spn):List AV:=[i64 s.1,i64 s.2]
theorem spRow_len (s:Spn):(spRow s).length=2:=rfl
theorem spRow_inj (a b:Spn) (h:spRow a=spRow b):a=b:=by
 obtain ⟨a1,a2⟩:=a
 obtain ⟨b1,b2⟩:=b
 simp only [spRow,List.cons.injEq,AV.int.injEq,true_and,and_true] at h
 rw [h.1,h.2]
theorem spRow_iff (a b:Spn):spRow a=spRow b ↔ a=b:=⟨spRow_inj a b,fun h=>by rw [h]⟩
theorem sps_iff (a b:List Spn):a.map spRow=b.map spRow ↔ a=b:=⟨fun h=>map_inj spRow_inj h,fun h=>by rw [h]⟩
noncomputable def PPF118:FuncId→Option (List AV→Option AV):=addPrim 119 p119 (fun _=>none)
theorem primsF118:PrimsOk NC PPF118:=primsOk_add (primsOk_none) (by kernel_rfl) (by kernel_rfl) pok119
theorem enF118_119:En PPF118 119 p119:=enter_prim (by rfl) (by kernel_rfl)
attribute [go_sem ↓] enF118_119
theorem c118 (x y:Spn):∀ lo H,CallOk NC lo 118 [.agg (spRow x),.agg (spRow y)] H (i64 (cmpI x.1 y.1)) H:=by
 refine contract saneNC primsF118 (fn:=Tryz.f118) (by kernel_rfl) Tryz.func118 rfl rfl (by rfl) (by first | rfl | (split<;>first | rfl | (split<;>rfl))) ?_
 have e119:p119 [.int .i64 x.1,.int .i64 y.1]=some (.int .i64 (cmpI x.1 y.1)):=pe119 x.1 y.1
 obtain ⟨a,b⟩:=x
 obtain ⟨c,d⟩:=y
 simp only [go_sem,reduceIte,reduceEqDiff,reduceAdd,reduceMul,reduceSub,reduceLeDiff,reduceLT,Nat.reduceBEq,reduceCtorEq,spRow,e119]
noncomputable def p118:List AV→Option AV:=primOf (α:=(Spn) × (Spn)) (fun x=>[.agg (spRow x.1),.agg (spRow x.2)]) (fun x=>True) (fun x=>i64 (cmpI x.1.1 x.2.1))
theorem pok118:∀ args v,p118 args=some v → ∀ lo H,CallOk NC lo 118 args H v H:=by
 intro args v h
 obtain ⟨x,rfl,hp,rfl⟩:=primOf_inv h
 exact c118 x.1 x.2
theorem pe118 (x y:Spn):p118 [.agg (spRow x),.agg (spRow y)]=some (.int .i64 (cmpI x.1 y.1)):=primOf_enc (α:=(Spn) × (Spn)) (enc:=fun x=>[.agg (spRow x.1),.agg (spRow x.2)]) (pre:=fun x=>True) (spec:=fun x=>i64 (cmpI x.1.1 x.2.1)) (by intro x y h;(simp only [List.cons.injEq,AV.agg.injEq,AV.str.injEq,AV.int.injEq,AV.ps.injEq,AV.bool.injEq,Net.cells_iff,Ln.row_iff,Pc.row_iff,Mv.row_iff,lns_iff,pcs_iff,mvs_iff,spRow_iff,sps_iff,true_and,and_true] at h;first | simpa only [Prod.ext_iff] using h | simpa only [Prod.ext_iff,and_assoc] using h)) (x,y) trivial
theorem en230 {P:FuncId→Option (List AV→Option AV)} (hP:P 230=none) {lo:Nat} {args:List AV} {H:Heap} {K:AV→Heap→Prop}:VO (aenter (NC.withPrims P) (R (NC.withPrims P)) lo 230 args H) K=AO (R (NC.withPrims P) (.call lo 230 args H)) fun o=>K o.val o.s.H:=by
 refine enter_free rfl ?_ (by kernel_rfl) (by kernel_rfl) (by kernel_rfl)
 show (match NC.prim 230 with | some p=>some p | none=>P 230)=none
 rw [hP];kernel_rfl
theorem en186 {P:FuncId→Option (List AV→Option AV)} (hP:P 186=none) {lo:Nat} {args:List AV} {H:Heap} {K:AV→Heap→Prop}:VO (aenter (NC.withPrims P) (R (NC.withPrims P)) lo 186 args H) K=AO (R (NC.withPrims P) (.call lo 186 args H)) fun o=>K o.val o.s.H:=by
 refine enter_free rfl ?_ (by kernel_rfl) (by kernel_rfl) (by kernel_rfl)
 show (match NC.prim 186 with | some p=>some p | none=>P 186)=none
 rw [hP];kernel_rfl
theorem en117 {P:FuncId→Option (List AV→Option AV)} (hP:P 117=none) {lo:Nat} {args:List AV} {H:Heap} {K:AV→Heap→Prop}:VO (aenter (NC.withPrims P) (R (NC.withPrims P)) lo 117 args H) K=AO (R (NC.withPrims P) (.call lo 117 args H)) fun o=>K o.val o.s.H:=by
 refine enter_free rfl ?_ (by kernel_rfl) (by kernel_rfl) (by kernel_rfl)
 show (match NC.prim 117 with | some p=>some p | none=>P 117)=none
 rw [hP];kernel_rfl
theorem en118 (h:P 118=some p118) {lo:Nat} {rec:Rec} {args:List AV} {H:Heap} {K:AV→Heap→Prop}:VO (aenter (NC.withPrims P) rec lo 118 args H) K=AO (p118 args) fun v=>K v H:=enter_prim (by rfl) (known h (by kernel_rfl))
theorem e118 (a b:Spn):p118 [.agg (spRow a),.agg (spRow b)]=some (.int .i64 (cmpI a.1 b.1)):=pe118 a b
def spLt (a b:Spn):Bool:=decide (cmpI a.1 b.1 < 0)
def spF (l:List Spn):List AV:=(l.map spRow).flatten
theorem r230 (h118:P 118=some p118) (l:List Spn) (hl:l.length≤maxRows) (lo id:Nat) (H:Heap) (hid:lo≤id) (hn:id < H.n) (hs:H.get id=.row (spF l) 2 183) :
 ∃ v H',R (NC.withPrims P) (.call lo 230 [.rs id 0 l.length 2 none,.int .i64 0,.int .i64 (l.length:Nat),.fn 118 [] []] H)=some (.ofVal v H')∧v=aundef∧H'.get id=.row (spF (isort spLt l)) 2 183∧H'.n=H.n ∧ ∀ i,i ≠ id→H'.get i=H.get i:=by
 refine R_of_body (C:=NC.withPrims P) (f:=230) (lo:=lo) (args:=[.rs id 0 l.length 2 none,.int .i64 0,.int .i64 (l.length:Nat),.fn 118 [] []]) (H:=H) (fn:=Tryz.f230) (Q:=fun v H'=>v=aundef∧H'.get id=.row (spF (isort spLt l)) 2 183∧H'.n=H.n ∧ ∀ i,i ≠ id→H'.get i=H.get i) (by kernel_rfl) Tryz.func230 rfl rfl ?_
 rcases Nat.eq_zero_or_pos l.length with h0 | h0
 · have hl0:l=[]:=List.length_eq_zero_iff.1 h0
   subst hl0
   have i10:((1:Int) < 0)=False:=by simp
   have c00:((List.length ([]:List Spn):Nat):Int)=0:=rfl
   simp only [go_sem,reduceIte,reduceEqDiff,reduceAdd,reduceMul,reduceSub,reduceLeDiff,reduceLT,Nat.reduceBEq,reduceCtorEq,W_loop,wl01,i10,c00]
   exact ⟨rfl,hs,fun _ _=>trivial⟩
 have w1:wrapq .i64 (Int.add 0 1)=((0+1:Nat):Int):=rfl
 simp only [go_sem,reduceIte,reduceEqDiff,reduceAdd,reduceMul,reduceSub,reduceLeDiff,reduceLT,Nat.reduceBEq,reduceCtorEq,w1]
 refine W_for (fun k T H' M=>M=[]∧getT T 0=.rs id 0 l.length 2 none∧getT T 1=i64 0∧getT T 2=i64 (l.length:Nat)∧getT T 3=.fn 118 [] []∧getT T 8=i64 ((k+1:Nat):Int)∧H'.n=H.n∧(∀ i,i ≠ id→H'.get i=H.get i)∧H'.get id=.row (spF (isort spLt (l.take (k+1))++l.drop (k+1))) 2 183) (l.length - 1) ?_ ?_ ?_
 · have hi:isort spLt (l.take (0+1))++l.drop (0+1)=l:=by
    cases l with
    | nil=>rfl
    | cons a r=>rfl
   simp only [go_sem,reduceIte,reduceEqDiff,reduceAdd,reduceMul,reduceSub,reduceLeDiff,reduceLT,Nat.reduceBEq,reduceCtorEq]
   rw [hi]
   exact ⟨fun _ _=>trivial,hs⟩
 · rintro k T H1 M hk ⟨rfl,g0,g1,g2,g3,g8,hn1,ho1,hs1⟩
   have hi:k+1 < l.length:=by omega
   obtain ⟨x,hx⟩:∃ p,l[k+1]? = some p:=⟨l[k+1],by simp⟩
   have hw:=wrap_succ hi hl
   have hlen:(isort spLt (l.take (k+1))).length=k+1:=by rw [isort_length,List.length_take];omega
   have hdone:∀ pre suf,isort spLt (l.take (k+1))=pre++suf→(∀ y ∈ suf,spLt x y=true)→(pre=[] ∨ ∃ p y,pre=p++[y]∧spLt x y=false)→isort spLt (l.take (k+1+1))++l.drop (k+1+1)=pre++x::suf++l.drop (k+1+1):=by
    intro pre suf h1 h2 h3
    rw [take_snoc hx,isort_snoc,h1,ins_at spLt h2 h3]
   simp only [go_sem,reduceIte,reduceEqDiff,reduceAdd,reduceMul,reduceSub,reduceLeDiff,reduceLT,Nat.reduceBEq,reduceCtorEq,g0,g1,g2,g3,g8,hi]
   refine W_for (fun m T H' M=>M=[]∧getT T 0=.rs id 0 l.length 2 none∧getT T 1=i64 0∧getT T 2=i64 (l.length:Nat)∧getT T 3=.fn 118 [] []∧getT T 8=i64 ((k+1:Nat):Int)∧getT T 9=i64 ((k+1 - m:Nat):Int)∧H'.n=H.n∧(∀ i,i ≠ id→H'.get i=H.get i) ∧ ∃ pre suf,isort spLt (l.take (k+1))=pre++suf∧suf.length=m∧(∀ y ∈ suf,spLt x y=true)∧H'.get id=.row (spF (pre++x::suf++l.drop (k+1+1))) 2 183) (k+1) ?_ ?_ ?_
   · simp only [go_sem,reduceIte,reduceEqDiff,reduceAdd,reduceMul,reduceSub,reduceLeDiff,reduceLT,Nat.reduceBEq,reduceCtorEq,g0,g1,g2,g3,g8,Nat.sub_zero]
     refine ⟨hn1,ho1,isort spLt (l.take (k+1)),[],by simp,rfl,by simp, ?_⟩
     rw [hs1,drop_cons_at hx];simp
   · rintro m T H2 M hm ⟨rfl,i0,i1,i2,i3,i8,i9,hn2,ho2,pre,suf,hp,hsl,hlt,hs2⟩
     have hpl:pre.length=k+1 - m:=by
      have:=congrArg List.length hp
      rw [hlen,List.length_append] at this;omega
     obtain ⟨p,y,rfl⟩:∃ p y,pre=p++[y]:=by
      have hne:pre ≠ []:=by intro e;rw [e] at hpl;simp at hpl;omega
      exact ⟨pre.dropLast,pre.getLast hne,(List.dropLast_concat_getLast hne).symm⟩
     have hq:k+1 - m=p.length+1:=by simp at hpl;omega
     have hq2:k+1 - (m+1)=p.length:=by omega
     rw [hq] at i9
     have e1:(p++[y]++x::suf++l.drop (k+1+1))=p++y::x::(suf++l.drop (k+1+1)):=by simp
     rw [e1] at hs2
     have hev:Even 2 ((p++y::x::(suf++l.drop (k+1+1))).map spRow):=Even.map spRow_len _
     have rx:=map_at (f:=spRow) (mid_at1 p y x (suf++l.drop (k+1+1)))
     have ry:=map_at (f:=spRow) (mid_at p y (x::(suf++l.drop (k+1+1))))
     obtain ⟨a1,a2⟩:=fl_at hev rx
     obtain ⟨b1,b2⟩:=fl_at hev ry
     have o1:=fl_over (v:=(spRow y)) hev rx rfl
     have hev1:Even 2 (((p++y::x::(suf++l.drop (k+1+1))).map spRow).set (p.length+1) (spRow y)):=hev.set rfl
     have ry1:(((p++y::x::(suf++l.drop (k+1+1))).map spRow).set (p.length+1) (spRow y))[p.length]? = some (spRow y):=by
      rw [List.getElem?_set_ne (by omega)];exact ry
     have b3:=(fl_at hev1 ry1).1
     have o2:=fl_over (v:=(spRow x)) hev1 ry1 rfl
     rw [swap_rows] at o2
     have hsum:(p++y::x::(suf++l.drop (k+1+1))).length≤l.length:=by
      simp at hpl ⊢;omega
     have hj:p.length+1 < l.length:=by simp at hsum;omega
     have hj0:p.length < l.length:=by omega
     have hwp:wrapq .i64 (Int.sub ((p.length+1:Nat):Int) 1)=((p.length:Nat):Int):=by
      have:=wrap_pred (k:=p.length+1) (n:=l.length) (by omega) (by omega) hl
      simpa using this
     have hpos:((0:Int) < ((p.length+1:Nat):Int))=True:=by simp only [eq_iff_iff,iff_true];omega
     have ec:=e118 x y
     have hB:spLt x y=decide (cmpI x.1 y.1 < 0):=rfl
     have hnext:=hdone (p++[y]) suf hp hlt
     rw [show ((p++x::y::(suf++l.drop (k+1+1))).map spRow).flatten=spF (p++x::y::(suf++l.drop (k+1+1))) from rfl] at o2
     rw [show ((p++y::x::(suf++l.drop (k+1+1))).map spRow).flatten=spF (p++y::x::(suf++l.drop (k+1+1))) from rfl] at a1 a2 b1 b2 o1
     generalize (((p++y::x::(suf++l.drop (k+1+1))).map spRow).set (p.length+1) (spRow y)).flatten=F1 at o1 b3 o2
     generalize hF0:spF (p++y::x::(suf++l.drop (k+1+1)))=F at hs2 a1 a2 b1 b2 o1
     have a1':((p.length+1) * 2+2≤F.length)=True:=by simp [a1]
     have b1':(p.length * 2+2≤F.length)=True:=by simp [b1]
     have b3':(p.length * 2+2≤F1.length)=True:=by simp [b3]
     have hlo:(lo≤id)=True:=by simp [hid]
     have szr:=sz_183
     generalize hE:cmpI x.1 y.1=E at ec hB
     rcases Classical.propComplete (E < 0) with z | z
     · have hlx:spLt x y=true:=by rw [hB];simp [z]
       have hend:isort spLt (l.take (k+1))=p++y::suf:=by rw [hp];simp
       obtain ⟨x1,x2⟩:=x
       obtain ⟨y1,y2⟩:=y
       simp only [spRow] at a2 b2 o1 o2 ec
       simp only [over,List.length_cons,List.length_nil,reduceAdd,Nat.zero_add] at o1 o2
       simp only [go_sem,reduceIte,reduceEqDiff,reduceAdd,reduceMul,reduceSub,reduceLeDiff,reduceLT,Nat.reduceBEq,reduceCtorEq,i0,i1,i2,i3,i8,i9,hs2,hlo,en118 h118,ec,z,a1',a2,b1',b2,b3',o1,o2,hj,hj0,hwp,hpos,szr]
       refine ⟨by rw [hq2],hn2,fun i hi => ?_,p,_::suf,hend,by simp [hsl],fun w hw => ?_, ?_⟩
       · rw [if_neg hi,if_neg hi];exact ho2 i hi
       · rcases List.mem_cons.1 hw with rfl | hw
         · exact hlx
         · exact hlt w hw
       · simp
     · have hlx:spLt x y=false:=by rw [hB];simp [z]
       have hnx:=hnext (.inr ⟨p,y,rfl,hlx⟩)
       obtain ⟨x1,x2⟩:=x
       obtain ⟨y1,y2⟩:=y
       simp only [spRow] at a2 b2 ec
       simp only [go_sem,reduceIte,reduceEqDiff,reduceAdd,reduceMul,reduceSub,reduceLeDiff,reduceLT,Nat.reduceBEq,reduceCtorEq,i0,i1,i2,i3,i8,i9,hs2,hlo,en118 h118,ec,z,a1',a2,b1',b2,hj,hj0,hwp,hpos,szr,hw]
       refine ⟨hn2,ho2, ?_⟩
       rw [hnx,e1,hF0]
   · rintro T H2 M ⟨rfl,i0,i1,i2,i3,i8,i9,hn2,ho2,pre,suf,hp,hsl,hlt,hs2⟩
     have hpl:pre=[]:=by
      have:=congrArg List.length hp
      rw [hlen,List.length_append] at this
      exact List.length_eq_zero_iff.1 (by omega)
     subst hpl
     have hnx:=hdone [] suf hp hlt (.inl rfl)
     rw [Nat.sub_self] at i9
     have i00:((0:Int) < 0)=False:=by simp
     simp only [go_sem,reduceIte,reduceEqDiff,reduceAdd,reduceMul,reduceSub,reduceLeDiff,reduceLT,Nat.reduceBEq,reduceCtorEq,i0,i1,i2,i3,i8,i9,i00,hw]
     refine ⟨hn2,ho2, ?_⟩
     rw [hnx];exact hs2
 · rintro T H1 M ⟨rfl,g0,g1,g2,g3,g8,hn1,ho1,hs1⟩
   have hk:l.length - 1+1=l.length:=by omega
   rw [hk] at g8 hs1
   rw [List.take_length,List.drop_length,List.append_nil] at hs1
   simp only [go_sem,reduceIte,reduceEqDiff,reduceAdd,reduceMul,reduceSub,reduceLeDiff,reduceLT,Nat.reduceBEq,reduceCtorEq,g0,g1,g2,g3,g8,Nat.lt_irrefl]
   exact ⟨rfl,hs1,hn1,ho1⟩
theorem r186 (h118:P 118=some p118) (h230:P 230=none) (l:List Spn) (hl:l.length≤12) (lo id:Nat) (lim:Int) (H:Heap) (hid:lo≤id) (hn:id < H.n) (hs:H.get id=.row (spF l) 2 183) :
 ∃ v H',R (NC.withPrims P) (.call lo 186 [.rs id 0 l.length 2 none,.int .i64 0,.int .i64 (l.length:Nat),.int .i64 lim,.fn 118 [] []] H)=some (.ofVal v H')∧v=aundef∧H'.get id=.row (spF (isort spLt l)) 2 183∧H'.n=H.n ∧ ∀ i,i ≠ id→H'.get i=H.get i:=by
 obtain ⟨v,H1,h1,rfl,h2⟩:=r230 h118 l (by unfold maxRows;omega) lo id H hid hn hs
 refine R_of_body (C:=NC.withPrims P) (f:=186) (lo:=lo) (args:=[.rs id 0 l.length 2 none,.int .i64 0,.int .i64 (l.length:Nat),.int .i64 lim,.fn 118 [] []]) (H:=H) (fn:=Tryz.f186) (Q:=fun v H'=>v=aundef∧H'.get id=.row (spF (isort spLt l)) 2 183∧H'.n=H.n ∧ ∀ i,i ≠ id→H'.get i=H.get i) (by kernel_rfl) Tryz.func186 rfl rfl ?_
 have q1:((12:Int) < ((l.length:Nat):Int))=False:=by simp only [eq_iff_iff,iff_false];omega
 have q2:wrapq .i64 (Int.sub ((l.length:Nat):Int) 0)=((l.length:Nat):Int):=by
  have e:Int.sub ((l.length:Nat):Int) 0=((l.length:Nat):Int):=by show ((l.length:Nat):Int) - 0=_;omega
  rw [e];exact wrap_nat (by omega)
 simp only [go_sem,reduceIte,reduceEqDiff,reduceAdd,reduceMul,reduceSub,reduceLeDiff,reduceLT,Nat.reduceBEq,reduceCtorEq,W_loop,q1,q2,en230 h230,h1,ofVal_v,ofVal_H]
 exact ⟨rfl,h2⟩
theorem r117 (h118:P 118=some p118) (h187:P 187=some p187) (h230:P 230=none) (h186:P 186=none) (l:List Spn) (hl:l.length≤12) (lo id:Nat) (H:Heap) (hid:lo≤id) (hn:id < H.n) (hs:H.get id=.row (spF l) 2 183) :
 ∃ v H',R (NC.withPrims P) (.call lo 117 [.rs id 0 l.length 2 none,.fn 118 [] []] H)=some (.ofVal v H')∧v=aundef∧H'.get id=.row (spF (isort spLt l)) 2 183∧H'.n=H.n ∧ ∀ i,i ≠ id→H'.get i=H.get i:=by
 obtain ⟨v,H1,h1,rfl,h2⟩:=r186 h118 h230 l hl lo id (bitsN l.length) H hid hn hs
 have e187:=pe187 l.length hl
 have cu:=conv_uint hl
 refine R_of_body (C:=NC.withPrims P) (f:=117) (lo:=lo) (args:=[.rs id 0 l.length 2 none,.fn 118 [] []]) (H:=H) (fn:=Tryz.f117) (Q:=fun v H'=>v=aundef∧H'.get id=.row (spF (isort spLt l)) 2 183∧H'.n=H.n ∧ ∀ i,i ≠ id→H'.get i=H.get i) (by kernel_rfl) Tryz.func117 rfl rfl ?_
 simp only [go_sem,reduceIte,reduceEqDiff,reduceAdd,reduceMul,reduceSub,reduceLeDiff,reduceLT,Nat.reduceBEq,reduceCtorEq,cu,en187 h187,e187,en186 h186,h1,ofVal_v,ofVal_H]
 exact ⟨rfl,h2⟩
end Go.Sim

/-
What is reached, by the program.
-/
-- INJ Leg.row_iff lgs_iff pts_iff ptr_iff spRow_iff sps_iff
namespace Go.Sim
open Go Go.Proofs
set_option maxRecDepth 100000
set_option maxHeartbeats 64000000
variable {P:FuncId→Option (List AV→Option AV)}
/-! ### Slices that are written, made by append -/
theorem appR_nil {lo:Nat} {H:Heap} {sz:Nat} {e:TypeId} {r:List AV} (h1:r.all AV.one=true) (h2:0 < sz):appR lo H sz e (.ps .nil []) [r]=some (.rs H.n 0 1 sz none,H.push (.row r sz e)):=by
 unfold appR
 have h3:[r].all (fun r=>r.all AV.one)=true:=by simp [h1]
 have h4:(([]:List (List AV))++[r]).flatten=r:=by simp
 simp only [Tok.full,h3,h2,h4,List.length_nil,List.length_cons,Nat.zero_add,decide_true,List.all_nil,Bool.and_true,Bool.true_and,if_true]
 rfl
theorem appR_more {lo:Nat} {H:Heap} {sz id n:Nat} {e:TypeId} {rows:List (List AV)} {r:List AV} (hn:n=rows.length) (hev:Even sz rows) (hid:H.get id=.row rows.flatten sz e) (hlo:lo≤id) (hl:n+1≤maxRows) (h1:r.all AV.one=true) (h2:0 < sz):appR lo H sz e (.rs id 0 n sz none) [r]=some (.rs H.n 0 (n+1) sz none,(H.set id .dead).push (.row (rows++[r]).flatten sz e)):=by
 subst hn
 have hf:=fl_len hev
 unfold appR
 have h3:[r].all (fun r=>r.all AV.one)=true:=by simp [h1]
 have h4:0+rows.length * sz=rows.flatten.length:=by omega
 have h5:rows.flatten.drop 0++[r].flatten=(rows++[r]).flatten:=by simp
 have h6:rows.length+[r].length=rows.length+1:=rfl
 simp only [h3,h2,hid,h4,h5,h6,hl,hlo,decide_true,Bool.and_true,Bool.true_and,if_true,Option.isNone_none]
def RS2 (b:Nat) (H:Heap) (v:AV) (L:List Spn):Prop:=(L=[]∧v=.ps .nil [])∨(L ≠ [] ∧ ∃ id,v=.rs id 0 L.length 2 none∧b≤id∧id < H.n∧H.get id=.row (spF L) 2 183)
/-! ### Stretches -/
abbrev Str:Type:=List Nat × Spn
def strow (s:Str):List AV:=[.str s.1,i64 s.2.1,i64 s.2.2]
theorem strow_len (s:Str):(strow s).length=3:=rfl
def stF (l:List Str):List AV:=(l.map strow).flatten
theorem st_at {l:List Str} {k:Nat} {p:Str} (h:l[k]? = some p):∃ rest,(stF l).drop (k * 3)=.str p.1::i64 p.2.1::i64 p.2.2::rest∧(stF l).drop (k * 3+1)=i64 p.2.1::i64 p.2.2::rest∧(stF l).drop (k * 3+1+1)=i64 p.2.2::rest ∧
 (k * 3+3≤(stF l).length)=True∧(k * 3+1+2≤(stF l).length)=True∧(k * 3+1+1≤(stF l).length)=True∧(k * 3+1+1+1≤(stF l).length)=True ∧ ∀ x:Int,over (stF l) (k * 3+1+1) [i64 x]=stF (l.set k (p.1,p.2.1,x)):=by
 obtain ⟨a,b,h1,h2,h3⟩:=fl_split (Even.map strow_len l) (map_at (f:=strow) h)
 have h1:stF l=a++strow p++b:=h1
 have hl:(stF l).length=k * 3+3+b.length:=by rw [h1,List.length_append,List.length_append,h2,strow_len]
 have hd:∀ n,(stF l).drop (k * 3+n)=(strow p++b).drop n:=by
  intro n
  rw [h1,List.append_assoc,← h2,List.drop_append]
  simp
 refine ⟨b, ?_, ?_, ?_, ?_, ?_, ?_, ?_, ?_⟩
 · have:=hd 0;rw [Nat.add_zero] at this;rw [this];rfl
 · rw [hd 1];rfl
 · rw [Nat.add_assoc,hd 2];rfl
 · simp only [eq_iff_iff,iff_true];omega
 · simp only [eq_iff_iff,iff_true];omega
 · simp only [eq_iff_iff,iff_true];omega
 · simp only [eq_iff_iff,iff_true];omega
 · intro x
   have h4:stF (l.set k (p.1,p.2.1,x))=a++strow (p.1,p.2.1,x)++b:=by
    unfold stF
    rw [List.map_set,h3]
   have e5:(stF l).take (k * 3+1+1)=a++[.str p.1,i64 p.2.1]:=by
    rw [h1,List.append_assoc,Nat.add_assoc,← h2,List.take_append]
    simp [strow]
    exact List.take_of_length_le (by omega)
   have e6:(stF l).drop (k * 3+1+1+1)=b:=by
    rw [Nat.add_assoc,Nat.add_assoc,hd 3];rfl
   unfold over
   rw [h4,e5]
   show a++[.str p.1,i64 p.2.1]++[i64 x]++(stF l).drop (k * 3+1+1+1)=_
   rw [e6]
   simp [strow]
theorem RS3_mono {X Y:Nat→Prop} (hXY:∀ i,X i→Y i) {e:TypeId} {H:Heap} {v:AV} {L:List Str} (h:(L=[]∧v=.ps .nil [])∨(L ≠ [] ∧ ∃ id,v=.rs id 0 L.length 3 none∧X id∧id < H.n∧H.get id=.row (stF L) 3 e)):(L=[]∧v=.ps .nil [])∨(L ≠ [] ∧ ∃ id,v=.rs id 0 L.length 3 none∧Y id∧id < H.n∧H.get id=.row (stF L) 3 e):=by
 rcases h with h | ⟨h1,id,h2,h3,h4,h5⟩
 · exact .inl h
 · exact .inr ⟨h1,id,h2,hXY id h3,h4,h5⟩
def RS3 (X:Nat→Prop) (e:TypeId) (H:Heap) (v:AV) (L:List Str):Prop:=(L=[]∧v=.ps .nil [])∨(L ≠ [] ∧ ∃ id,v=.rs id 0 L.length 3 none∧X id∧id < H.n∧H.get id=.row (stF L) 3 e)
/-! ### What is computed -/
def leftW (most:Int) (e:Ent):Int:=wrapq .i64 (Int.sub most e.2)
def spanE (len most:Int) (s:List Nat) (e:Ent):List Spn:=if beqL e.1.1 s && !decide (leftW most e < 0) then [(maxI 0 (wrapq .i64 (Int.sub e.1.2 (leftW most e))),minI len (wrapq .i64 (Int.add (wrapq .i64 (Int.add e.1.2 (leftW most e))) 1)))] else []
def spansE (len most:Int) (s:List Nat) (es:List Ent):List Spn:=es.flatMap (spanE len most s)
def mergeE (len most:Int) (s:List Nat) (es:List Ent):List Spn:=(isort spLt (spansE len most s es)).foldl joinP []
def strsE (most:Int) (es:List Ent) (l:Ln):List Str:=(mergeE (sumW l.ps 0) most l.name es).map fun p=>(l.name,p)
def reachE (most:Int) (es:List Ent) (ls:List Ln):List Str:=ls.flatMap (strsE most es)
theorem flatMap_take {α β:Type} {f:α→List β} {l:List α} {k:Nat} {x:α} (h:l[k]? = some x):(l.take (k+1)).flatMap f=(l.take k).flatMap f++f x:=by
 rw [List.take_add_one,h,List.flatMap_append];simp
theorem spanE_len (len most:Int) (s:List Nat) (e:Ent):(spanE len most s e).length≤1:=by unfold spanE;split<;>simp
theorem spansE_len (len most:Int) (s:List Nat):∀ es:List Ent,(spansE len most s es).length≤es.length
 | []=>Nat.le_refl _
 | e::r=>by
   have:=spansE_len len most s r
   have:=spanE_len len most s e
   show (spanE len most s e++spansE len most s r).length≤_
   rw [List.length_append,List.length_cons];omega
theorem joinP_len (acc:List Spn) (s:Spn):(joinP acc s).length≤acc.length+1:=by
 rcases List.eq_nil_or_concat acc with rfl | ⟨a,l,rfl⟩
 · simp [joinP_nil]
 · rw [List.concat_eq_append,joinP_snoc]
   split<;>simp
theorem joins_len:∀ (l acc:List Spn),(l.foldl joinP acc).length≤acc.length+l.length
 | [],acc=>by simp
 | s::r,acc=>by
   have h1:=joins_len r (joinP acc s)
   have h2:=joinP_len acc s
   show (r.foldl joinP (joinP acc s)).length≤_
   rw [List.length_cons];omega
theorem mergeE_len (len most:Int) (s:List Nat) (es:List Ent):(mergeE len most s es).length≤es.length:=by
 have h1:=joins_len (isort spLt (spansE len most s es)) []
 have h2:=isort_length spLt (spansE len most s es)
 have h3:=spansE_len len most s es
 unfold mergeE
 simp only [List.length_nil,Nat.zero_add] at h1
 omega
theorem strsE_few (most:Int) {es:List Ent} (h:es.length≤9):∀ ls:List Ln,(reachE most es ls).length≤9 * ls.length
 | []=>by simp [reachE]
 | l::r=>by
   have h1:=strsE_few most h r
   have h2:=mergeE_len (sumW l.ps 0) most l.name es
   show (strsE most es l++reachE most es r).length≤_
   rw [List.length_append,List.length_cons]
   have h3:(strsE most es l).length=(mergeE (sumW l.ps 0) most l.name es).length:=by unfold strsE;rw [List.length_map]
   omega
/-! ### The walk -/
theorem sort_nil (h186:P 186=none) (h230:P 230=none) (h187:P 187=some p187) (lo:Nat) (H:Heap):R (NC.withPrims P) (.call lo 117 [.ps .unk [],.fn 118 [] []] H)=some (.ofVal aundef H):=by
 have i10:((1:Int) < 0)=False:=by simp
 have w00:wrapq .i64 (Int.sub 0 0)=0:=rfl
 have q12:((12:Int) < 0)=False:=by simp
 have e187:p187 [.int .u64 0]=some (.int .i64 (bitsN 0)):=pe187 0 (by decide)
 have cu:aconv NC.P 3 320 (.int .i64 0)=some (.int .u64 0):=by kernel_rfl
 obtain ⟨v,H',q1,q2,q3⟩:=R_of_body (C:=NC.withPrims P) (f:=230) (lo:=lo) (args:=[.ps .unk [],.int .i64 0,.int .i64 0,.fn 118 [] []]) (H:=H) (fn:=Tryz.f230) (Q:=fun v H'=>v=aundef∧H'=H) (by kernel_rfl) Tryz.func230 rfl rfl (by
  simp only [go_sem,reduceIte,reduceEqDiff,reduceAdd,reduceMul,reduceSub,reduceLeDiff,reduceLT,Nat.reduceBEq,reduceCtorEq,W_loop,wl01,i10]
  rfl)
 rw [q2,q3] at q1
 obtain ⟨v',H2,r1,r2,r3⟩:=R_of_body (C:=NC.withPrims P) (f:=186) (lo:=lo) (args:=[.ps .unk [],.int .i64 0,.int .i64 0,.int .i64 (bitsN 0),.fn 118 [] []]) (H:=H) (fn:=Tryz.f186) (Q:=fun v H'=>v=aundef∧H'=H) (by kernel_rfl) Tryz.func186 rfl rfl (by
  simp only [go_sem,reduceIte,reduceEqDiff,reduceAdd,reduceMul,reduceSub,reduceLeDiff,reduceLT,Nat.reduceBEq,reduceCtorEq,W_loop,w00,q12,en230 h230,q1,ofVal_v,ofVal_H]
  rfl)
 rw [r2,r3] at r1
 obtain ⟨v',H3,s1,s2,s3⟩:=R_of_body (C:=NC.withPrims P) (f:=117) (lo:=lo) (args:=[.ps .unk [],.fn 118 [] []]) (H:=H) (fn:=Tryz.f117) (Q:=fun v H'=>v=aundef∧H'=H) (by kernel_rfl) Tryz.func117 rfl rfl (by
  simp only [go_sem,reduceIte,reduceEqDiff,reduceAdd,reduceMul,reduceSub,reduceLeDiff,reduceLT,Nat.reduceBEq,reduceCtorEq,cu,en187 h187,e187,en186 h186,r1,ofVal_v,ofVal_H]
  rfl)
 rw [s1,s2,s3]
theorem sp_one (lo:Nat) (H:Heap) (p:Spn):appR lo H 2 183 (.ps .nil []) [[.int .i64 p.1,.int .i64 p.2]]=some (.rs H.n 0 1 2 none,H.push (.row (spF [p]) 2 183)):=by
 rw [appR_nil rfl (by decide)];rfl
theorem sp_more (L:List Spn) (hl:L.length+1≤maxRows) (lo:Nat) (H:Heap) (id:Nat) (h1:H.get id=.row (spF L) 2 183) (h2:lo≤id) (p:Spn):appR lo H 2 183 (.rs id 0 L.length 2 none) [[.int .i64 p.1,.int .i64 p.2]]=some (.rs H.n 0 (L.length+1) 2 none,(H.set id .dead).push (.row (spF (L++[p])) 2 183)):=by
 rw [appR_more (rows:=L.map spRow) (by simp) (Even.map spRow_len L) h1 h2 hl rfl (by decide)]
 have:L.map spRow++[[AV.int .i64 p.1,.int .i64 p.2]]=(L++[p]).map spRow:=by simp [spRow]
 rw [this];rfl
theorem st_one (e:TypeId) (lo:Nat) (H:Heap) (s:List Nat) (x y:Int):appR lo H 3 e (.ps .nil []) [[.str s,.int .i64 x,.int .i64 y]]=some (.rs H.n 0 1 3 none,H.push (.row (stF [(s,x,y)]) 3 e)):=by
 rw [appR_nil rfl (by decide)];rfl
theorem st_more (e:TypeId) (L:List Str) (hl:L.length+1≤maxRows) (lo:Nat) (H:Heap) (id:Nat) (h1:H.get id=.row (stF L) 3 e) (h2:lo≤id) (s:List Nat) (x y:Int):appR lo H 3 e (.rs id 0 L.length 3 none) [[.str s,.int .i64 x,.int .i64 y]]=some (.rs H.n 0 (L.length+1) 3 none,(H.set id .dead).push (.row (stF (L++[(s,x,y)])) 3 e)):=by
 rw [appR_more (rows:=L.map strow) (by simp) (Even.map strow_len L) h1 h2 hl rfl (by decide)]
 have:L.map strow++[[AV.str s,.int .i64 x,.int .i64 y]]=(L++[(s,x,y)]).map strow:=by simp [strow]
 rw [this];rfl
theorem ref32a:(NC.withPrims P).refApp 32 218=true:=by kernel_rfl
theorem ref32b:(NC.withPrims P).refApp 32 63=true:=by kernel_rfl
theorem en99 (h:P 99=some p99) {lo:Nat} {rec:Rec} {args:List AV} {H:Heap} {K:AV→Heap→Prop}:VO (aenter (NC.withPrims P) rec lo 99 args H) K=AO (p99 args) fun v=>K v H:=enter_prim (by rfl) (known h (by kernel_rfl))
end Go.Sim

/-
Distances, by the reference.
-/
-- INJ Leg.row_iff lgs_iff pts_iff ptr_iff
namespace Go.Sim
open Go Go.Proofs
set_option maxRecDepth 100000
set_option maxHeartbeats 16000000
variable {P:FuncId→Option (List AV→Option AV)}
noncomputable def dR (n:Net) (a b:Pt):Int:=match bestO n a b with
 | none=>-1
 | some w=>sumR w 0
theorem dR_spec {n:Net} (h:netP n=0) (h4:n.sws.length≤4) {a b:Pt} (ha:lnB n.lines a.1=true) (hRa:inR a.2) (hRb:inR b.2):(dR n a b = -1 ∧ ∀ σ,¬ okS (endE n) n.sws.length a σ b)∨(Dist (endE n) n.sws.length a b (dR n a b)∧dR n a b≤4000000):=by
 unfold dR
 have hb:=bestO_spec h ha (b:=b)
 cases hw:bestO n a b with
 | none =>
   rw [hw] at hb
   exact .inl ⟨rfl,fun σ hσ=>hb _ ⟨σ,hσ,rfl⟩⟩
 | some w =>
   rw [hw] at hb
   obtain ⟨σ,s1,s2,s3⟩:=bestO_in h hRa hRb hw
   have hl:=bestO_len hw
   have hs:sumR w 0=wSum w:=by rw [sumR_eq s3 (by omega) (by omega)];omega
   have:=wSum_small s3
   right
   show Dist _ _ a b (sumR w 0)∧sumR w 0≤_
   rw [hs]
   exact ⟨hb.dist,by omega⟩
/-! ### Where a line is entered -/
noncomputable def doorAt (n:Net) (a:Pt) (s:List Nat) (i:Nat):List (Int × Int):=match n.sws[i]? with
 | none=>[]
 | some sw=>if 0≤atS n sw s then (if 0≤dR n a (s,atS n sw s) then [(atS n sw s,dR n a (s,atS n sw s))] else []) else []
noncomputable def doorsTo (n:Net) (a:Pt) (s:List Nat):Nat→List (Int × Int)
 | 0=>if a.1=s then [(a.2,0)] else []
 | i+1=>doorsTo n a s i++doorAt n a s i
noncomputable def doorsO (n:Net) (a:Pt) (s:List Nat):List (Int × Int):=doorsTo n a s n.sws.length
theorem door_mem (n:Net) (a:Pt) (s:List Nat) (e:Int × Int):∀ {i:Nat},e ∈ doorsTo n a s i ↔ (a.1=s∧e=(a.2,0)) ∨ ∃ j,j < i∧e ∈ doorAt n a s j
 | 0=>by
   unfold doorsTo
   split
   · rename_i h;simp [h]
   · rename_i h;simp [h]
 | i+1=>by
   have ih:=door_mem n a s e (i:=i)
   unfold doorsTo
   rw [List.mem_append,ih]
   constructor
   · rintro ((h | ⟨j,h1,h2⟩) | h)
     · exact .inl h
     · exact .inr ⟨j,by omega,h2⟩
     · exact .inr ⟨i,by omega,h⟩
   · rintro (h | ⟨j,h1,h2⟩)
     · exact .inl (.inl h)
     · rcases Nat.lt_or_ge j i with hj | hj
       · exact .inl (.inr ⟨j,hj,h2⟩)
       · obtain rfl:j=i:=by omega
         exact .inr h2
theorem at_end {n:Net} (h:netP n=0) {i:Nat} {k:Bool} (hi:i < n.sws.length):∃ sw,n.sws[i]? = some sw∧atS n sw (endE n i k).1=(endE n i k).2:=by
 obtain ⟨sw,hs⟩:∃ p,n.sws[i]? = some p:=⟨n.sws[i],by simp⟩
 refine ⟨sw,hs, ?_⟩
 have hz:=sw_zero h sw (List.mem_of_getElem? hs)
 have hne:=hz.2.2.2
 have e:endE n i k=if k then (sw.other,endM n sw) else (sw.line,sw.metre):=by unfold endE;rw [hs]
 rw [e]
 unfold atS
 cases k with
 | false=>simp [beqL_self]
 | true=>simp [beqL_self,hne]
theorem end_at {n:Net} {i:Nat} {sw:Sw} (hs:n.sws[i]? = some sw) {s:List Nat} (h0:0≤atS n sw s):∃ k,endE n i k=(s,atS n sw s):=by
 have e:∀ k,endE n i k=if k then (sw.other,endM n sw) else (sw.line,sw.metre):=fun k=>by unfold endE;rw [hs]
 unfold atS at h0 ⊢
 cases h1:beqL sw.line s with
 | true =>
   have:=(beqL_iff _ _).1 h1
   exact ⟨false,by rw [e];simp [this]⟩
 | false =>
   cases h2:beqL sw.other s with
   | true =>
     have:=(beqL_iff _ _).1 h2
     exact ⟨true,by rw [e];simp [this]⟩
   | false=>rw [h1,h2] at h0;simp at h0
theorem door_cover {n:Net} (h:netP n=0) (h4:n.sws.length≤4) {a:Pt} (ha:lnB n.lines a.1=true) (hRa:inR a.2) (s:List Nat):Cover (endE n) n.sws.length a s (doorsO n a s) where
 sound:=by
  intro x d hx
  rcases (door_mem n a s _).1 hx with ⟨hs,he⟩ | ⟨j,hj,he⟩
  · obtain ⟨e1,e2⟩:=Prod.mk.inj he
    subst e1;subst e2
    exact ⟨[],hs,by rw [lenS_nil,dI_self];exact Int.le_refl _⟩
  · obtain ⟨sw,hs⟩:∃ p,n.sws[j]? = some p:=⟨n.sws[j],by simp⟩
    unfold doorAt at he
    rw [hs] at he
    simp only [] at he
    by_cases h0:0≤atS n sw s
    · rw [if_pos h0] at he
      by_cases h1:0≤dR n a (s,atS n sw s)
      · rw [if_pos h1] at he
        obtain ⟨e1,e2⟩:=Prod.mk.inj (List.mem_singleton.1 he)
        obtain ⟨k,hk⟩:=end_at hs h0
        have hin:=(ends_in h j k hj).2
        rw [hk] at hin
        rcases dR_spec h h4 ha hRa (b:=(s,atS n sw s)) hin with ⟨q,_⟩ | ⟨q,_⟩
        · omega
        · obtain ⟨σ,s1,s2⟩:=q.way
          rw [e1,e2]
          exact ⟨σ,s1,by omega⟩
      · rw [if_neg h1] at he;cases he
    · rw [if_neg h0] at he;cases he
 full:=by
  intro σ m hσ
  rcases List.eq_nil_or_concat σ with rfl | ⟨τ,st,rfl⟩
  · have hs:a.1=s:=hσ
    refine ⟨a.2,0,(door_mem n a s _).2 (.inl ⟨hs,rfl⟩), ?_⟩
    rw [lenS_nil];simp only;omega
  · rw [List.concat_eq_append] at *
    obtain ⟨h1,h2,h3⟩:=(okS_snoc _ _ a τ st _).1 hσ
    obtain ⟨sw,hs,hat⟩:=at_end h (i:=st.1) (k:=!st.2) h2
    simp only at h3
    rw [h3] at hat
    have hin:=(ends_in h st.1 (!st.2) h2).2
    have hw:okS (endE n) n.sws.length a (τ++[st]) (s,(endE n st.1 (!st.2)).2):=(okS_snoc _ _ a τ st _).2 ⟨h1,h2,h3⟩
    rcases dR_spec h h4 ha hRa (b:=(s,atS n sw s)) (by rw [hat];exact hin) with ⟨_,q⟩ | ⟨q,_⟩
    · rw [hat] at q;exact (q _ hw).elim
    · have hd0:=q.nonneg
      have hl:=q.least (τ++[st]) (by rw [hat];exact hw)
      rw [lenS_snoc] at hl ⊢
      simp only at hl ⊢
      rw [hat,dI_self] at hl
      refine ⟨atS n sw s,dR n a (s,atS n sw s),(door_mem n a s _).2 (.inr ⟨st.1,h2, ?_⟩), ?_⟩
      · unfold doorAt
        rw [hs]
        simp only []
        rw [if_pos (by rw [hat];exact hin.1),if_pos hd0]
        exact List.mem_singleton.2 rfl
      · rw [hat] at ⊢;omega
/-! ### The best one at a metre -/
def nearW (m:Int) (e:Int × Int):Int:=wrapq .i64 (Int.add e.2 (absR (wrapq .i64 (Int.sub m e.1))))
def bestD (L:List (Int × Int)) (m:Int):Int:=L.foldl (fun b e=>if b < 0∨nearW m e < b then nearW m e else b) (-1)
theorem near_small {m:Int} {e:Int × Int} (hm:inR m) (h1:inR e.1) (h2:0≤e.2∧e.2≤4000000):nearW m e=e.2+dI e.1 m:=by
 have h:=absR_len (l:=⟨[],e.1,m⟩) h1 hm
 have e1:absR (wrapq .i64 (Int.sub m e.1))=dI e.1 m:=h.1
 have h3:dI e.1 m≤800000:=h.2.2
 have h4:=dI_nonneg e.1 m
 unfold nearW
 rw [e1]
 have e2:Int.add e.2 (dI e.1 m)=e.2+dI e.1 m:=rfl
 rw [e2];exact wrap_small (by omega) (by omega)
theorem bestD_fold {m:Int}:∀ (L:List (Int × Int)) (b:Int),(∀ e ∈ L,0≤nearW m e)→(0≤b→(L.foldl (fun b e=>if b < 0∨nearW m e < b then nearW m e else b) b≤b∧0≤L.foldl (fun b e=>if b < 0∨nearW m e < b then nearW m e else b) b∧(∀ e ∈ L,L.foldl (fun b e=>if b < 0∨nearW m e < b then nearW m e else b) b≤nearW m e)∧(L.foldl (fun b e=>if b < 0∨nearW m e < b then nearW m e else b) b=b ∨ ∃ e ∈ L,L.foldl (fun b e=>if b < 0∨nearW m e < b then nearW m e else b) b=nearW m e)))
 | [],b,_,h0=>⟨Int.le_refl _,h0,fun e he=>(by cases he),.inl rfl⟩
 | x::r,b,h,h0=>by
   have hx:=h x (by simp)
   have hnb:¬ (b < 0):=by omega
   show (r.foldl _ (if b < 0∨nearW m x < b then nearW m x else b)≤b∧_)
   by_cases c:nearW m x < b
   · rw [List.foldl_cons,if_pos (.inr c)]
     obtain ⟨i1,i2,i3,i4⟩:=bestD_fold r (nearW m x) (fun e he=>h e (by simp [he])) hx
     refine ⟨by omega,i2,fun e he => ?_, ?_⟩
     · rcases List.mem_cons.1 he with rfl | he
       · exact i1
       · exact i3 e he
     · rcases i4 with i4 | ⟨e,he,i4⟩
       · exact .inr ⟨x,by simp,i4⟩
       · exact .inr ⟨e,by simp [he],i4⟩
   · rw [List.foldl_cons,if_neg (fun q=>q.elim hnb c)]
     obtain ⟨i1,i2,i3,i4⟩:=bestD_fold r b (fun e he=>h e (by simp [he])) h0
     refine ⟨i1,i2,fun e he => ?_, ?_⟩
     · rcases List.mem_cons.1 he with rfl | he
       · omega
       · exact i3 e he
     · rcases i4 with i4 | ⟨e,he,i4⟩
       · exact .inl i4
       · exact .inr ⟨e,by simp [he],i4⟩
theorem bestD_spec {L:List (Int × Int)} {m:Int} (h:∀ e ∈ L,0≤nearW m e):(L=[]∧bestD L m = -1)∨(0≤bestD L m∧(∀ e ∈ L,bestD L m≤nearW m e) ∧ ∃ e ∈ L,bestD L m=nearW m e):=by
 cases L with
 | nil=>exact .inl ⟨rfl,rfl⟩
 | cons x r =>
   right
   have hx:=h x (by simp)
   have e:bestD (x::r) m=r.foldl (fun b e=>if b < 0∨nearW m e < b then nearW m e else b) (nearW m x):=rfl
   obtain ⟨i1,i2,i3,i4⟩:=bestD_fold r (nearW m x) (fun e he=>h e (by simp [he])) hx
   rw [e]
   refine ⟨i2,fun e he => ?_, ?_⟩
   · rcases List.mem_cons.1 he with rfl | he
     · exact i1
     · exact i3 e he
   · rcases i4 with i4 | ⟨e,he,i4⟩
     · exact ⟨x,by simp,i4⟩
     · exact ⟨e,by simp [he],i4⟩
theorem door_in {n:Net} (h:netP n=0) (h4:n.sws.length≤4) {a:Pt} (ha:lnB n.lines a.1=true) (hRa:inR a.2) {s:List Nat}:∀ e ∈ doorsO n a s,inR e.1∧0≤e.2∧e.2≤4000000:=by
 intro e he
 rcases (door_mem n a s _).1 he with ⟨hs,rfl⟩ | ⟨j,hj,he⟩
 · exact ⟨hRa,by simp,by simp⟩
 · obtain ⟨sw,hs⟩:∃ p,n.sws[j]? = some p:=⟨n.sws[j],by simp⟩
   unfold doorAt at he
   rw [hs] at he
   simp only [] at he
   by_cases h0:0≤atS n sw s
   · rw [if_pos h0] at he
     by_cases h1:0≤dR n a (s,atS n sw s)
     · rw [if_pos h1] at he
       rw [List.mem_singleton.1 he]
       obtain ⟨k,hk⟩:=end_at hs h0
       have hin:=(ends_in h j k hj).2
       rw [hk] at hin
       rcases dR_spec h h4 ha hRa (b:=(s,atS n sw s)) hin with ⟨q,_⟩ | ⟨_,q⟩
       · omega
       · exact ⟨hin,h1,q⟩
     · rw [if_neg h1] at he;cases he
   · rw [if_neg h0] at he;cases he
theorem bestD_dist {n:Net} (h:netP n=0) (h4:n.sws.length≤4) {a:Pt} (ha:lnB n.lines a.1=true) (hRa:inR a.2) {s:List Nat} {m:Int} (hm:inR m):(bestD (doorsO n a s) m = -1 ∧ ∀ σ,¬ okS (endE n) n.sws.length a σ (s,m))∨(0≤bestD (doorsO n a s) m∧Dist (endE n) n.sws.length a (s,m) (bestD (doorsO n a s) m)):=by
 have hin:=door_in h h4 ha hRa (s:=s)
 have hnear:∀ e ∈ doorsO n a s,nearW m e=e.2+dI e.1 m:=fun e he=>near_small hm (hin e he).1 (hin e he).2
 have hc:=door_cover h h4 ha hRa s
 rcases bestD_spec (L:=doorsO n a s) (m:=m) (fun e he=>by rw [hnear e he];have:=dI_nonneg e.1 m;have:=(hin e he).2.1;omega) with ⟨h1,h2⟩ | ⟨h1,h2,e,he,h3⟩
 · refine .inl ⟨h2,fun σ hσ => ?_⟩
   obtain ⟨x,d,hx,_⟩:=hc.full σ m hσ
   rw [h1] at hx;cases hx
 · refine .inr ⟨h1, ?_⟩
   obtain ⟨σ,s1,s2⟩:=hc.sound e.1 e.2 he
   obtain ⟨d,hd⟩:=dist_of (endE n) n.sws.length _ σ (okS_end (endE n) n.sws.length (b:=(s,e.1)) (c:=(s,m)) rfl s1) (Nat.lt_succ_self _)
   obtain ⟨⟨x,y,hx,hxy⟩,hlow⟩:=hc.dist hd
   have a1:=h2 (x,y) hx
   rw [hnear _ hx] at a1
   have a2:=hlow e.1 e.2 he
   rw [hnear e he] at h3
   simp only at a1
   have:bestD (doorsO n a s) m=d:=by omega
   rw [this];exact hd
end Go.Sim
