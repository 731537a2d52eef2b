/-
The parts NetV8, NetV9, NetV10, NetV11, NetV12, NetW4, NetV13, NetV14, NetX1, NetX2, NetY1, NetY2, NetY3, NetY4, NetY14, NetX3, NetX4, NetX5, NetX6 of one proof, joined: each begins with a remark that says what it shows.
-/
import Derived.Test.YtepaopekeidlmaaGreatDoorT14
set_option linter.unusedSimpArgs false
set_option linter.unusedVariables false
open Nat (reduceEqDiff reduceAdd reduceMul reduceSub reduceLeDiff reduceLT)

/-
Ways: a route offered to all ends, by the program.
-/
-- INJ Leg.row_iff lgs_iff
namespace Go.Sim
open Go Go.Proofs
set_option maxRecDepth 100000
set_option maxHeartbeats 64000000
variable {P:FuncId→Option (List AV→Option AV)}
theorem r229 (h151 : P 151 = some p151) (h203 : P 203 = some p203) (h204 : P 204 = some p204) (n : Net) (hn : n.Ok) (hsw : n.sws.length ≤ maxRows) (f : Pt) (w : List Leg) (L : Labs) (hw : w.length ≤ 16)
 (hsum : ∀ p, p ∈ ends (endE n) n.sws.length → wrapq .i64 (Int.add (wSum w) (legW ⟨p.1, f.2, p.2⟩)) = wSum (w ++ [⟨p.1, f.2, p.2⟩])) (hL : ∀ p v, lk L p = some v → v.length ≤ 17)
 (lo b0 b1 id : Nat) (H : Heap) (hlo : lo ≤ id) (hloH : lo ≤ H.n) (c0 : b0 < H.n) (c1 : b1 < H.n) (ci : id < H.n) (ne0 : b0 ≠ id) (ne1 : b1 ≠ id) (s0 : H.get b0 = .cells n.cells 40) (s1 : H.get b1 = .cells [.map id] 316) (si : H.get id = .map (lmap L)) :
 ∃ v H', R (NC.withPrims P) (.call lo 229 [.agg [.str f.1, .int .i64 f.2], .agg [.ps .unk (w.map Leg.row), .int .i64 (wSum w)], .ptr b0 0, .ptr b1 0] H) = some (.ofVal v H') ∧ v = .bool (offers (findI n.lines) f w (ends (endE n) n.sws.length) (L, false)).2 ∧
   H'.get id = .map (lmap (offers (findI n.lines) f w (ends (endE n) n.sws.length) (L, false)).1) ∧ H.n ≤ H'.n ∧ (∀ j, j < H.n → j ≠ id → H'.get j = H.get j) ∧ ∀ p v, lk (offers (findI n.lines) f w (ends (endE n) n.sws.length) (L, false)).1 p = some v → v.length ≤ 17 := by
 refine R_of_body (C := NC.withPrims P) (f := 229) (lo := lo) (args := [.agg [.str f.1, .int .i64 f.2], .agg [.ps .unk (w.map Leg.row), .int .i64 (wSum w)], .ptr b0 0, .ptr b1 0]) (H := H) (fn := Tryz.f229) (Q := fun v H' => v = .bool (offers (findI n.lines) f w (ends (endE n) n.sws.length) (L, false)).2 ∧
  H'.get id = .map (lmap (offers (findI n.lines) f w (ends (endE n) n.sws.length) (L, false)).1) ∧ H.n ≤ H'.n ∧ (∀ j, j < H.n → j ≠ id → H'.get j = H.get j) ∧ ∀ p v, lk (offers (findI n.lines) f w (ends (endE n) n.sws.length) (L, false)).1 p = some v → v.length ≤ 17) (by kernel_rfl) Tryz.func229 rfl rfl ?_
 have x1 : (b0 = H.n) = False := by simp only [eq_iff_iff, iff_false]; omega
 have x2 : (b0 = H.n + 1) = False := by simp only [eq_iff_iff, iff_false]; omega
 have x3 : (id = H.n) = False := by simp only [eq_iff_iff, iff_false]; omega
 have x4 : (id = H.n + 1) = False := by simp only [eq_iff_iff, iff_false]; omega
 simp only [Net.cells] at s0
 simp only [go_sem, reduceIte, reduceEqDiff, reduceAdd, reduceMul, reduceSub, reduceLeDiff, reduceLT, Nat.reduceBEq, reduceCtorEq, s0, x1, x2]
 refine W_for (fun i T H' M => M = [] ∧ getT T 2 = .ptr b0 0 ∧ getT T 3 = .ptr b1 0 ∧ getT T 4 = .ptr H.n 0 ∧ getT T 5 = .ptr (H.n + 1) 0 ∧ getT T 7 = .bool (offers (findI n.lines) f w (ends (endE n) i) (L, false)).2 ∧ getT T 16 = .ps .unk (n.sws.map Sw.row) ∧ getT T 17 = i64 (n.sws.length : Nat) ∧ getT T 18 = i64 (i : Nat) ∧ H.n + 1 < H'.n ∧ H'.get H.n = .cells [.str f.1, .int .i64 f.2] 45 ∧ H'.get (H.n + 1) = .cells [.ps .unk (w.map Leg.row), .int .i64 (wSum w)] 246 ∧
  H'.get id = .map (lmap (offers (findI n.lines) f w (ends (endE n) i) (L, false)).1) ∧ (∀ j, j < H.n → j ≠ id → H'.get j = H.get j) ∧ ∀ p v, lk (offers (findI n.lines) f w (ends (endE n) i) (L, false)).1 p = some v → v.length ≤ 17) n.sws.length ?_ ?_ ?_
 · simp only [go_sem, reduceIte, reduceEqDiff, reduceAdd, reduceMul, reduceSub, reduceLeDiff, reduceLT, Nat.reduceBEq, reduceCtorEq, List.length_map, x3, x4]
   refine ⟨rfl, si, fun j h1 h2 => ?_, hL⟩
   rw [if_neg (by omega), if_neg (by omega)]
 · rintro i T H1 M hk ⟨rfl, g2, g3, g4, g5, g7, g16, g17, g18, pn, p4, p5, pi, pO, pL⟩
   obtain ⟨sw, hsx⟩ : ∃ p, n.sws[i]? = some p := ⟨n.sws[i], by simp⟩
   have hr := map_at (f := Sw.row) hsx
   have hw18 := wrap_succ hk hsw
   have hE : endE n i = fun k => if k then (sw.other, endM n sw) else (sw.line, sw.metre) := by funext k; unfold endE; rw [hsx]
   have e151 := pe151 n sw hn
   have hb0 : H1.get b0 = .cells n.cells 40 := by rw [pO b0 c0 ne0]; exact s0
   have hend : ends (endE n) (i + 1) = ends (endE n) i ++ [endE n i false, endE n i true] := rfl
   have hend2 : offers (findI n.lines) f w (ends (endE n) (i + 1)) (L, false) = offers (findI n.lines) f w (([endE n i false, endE n i true] : List Pt).take 2) (offers (findI n.lines) f w (ends (endE n) i) (L, false)) := by
    rw [hend]
    unfold offers
    rw [List.foldl_append]; rfl
   have y1 : (b0 = H1.n) = False := by simp only [eq_iff_iff, iff_false]; omega
   have y2 : (id = H1.n) = False := by simp only [eq_iff_iff, iff_false]; omega
   have y3 : (H.n = H1.n) = False := by simp only [eq_iff_iff, iff_false]; omega
   have y4 : (H.n + 1 = H1.n) = False := by simp only [eq_iff_iff, iff_false]; omega
   have hlo1 : (lo ≤ H1.n) = True := by simp only [eq_iff_iff, iff_true]; omega
   generalize endM n sw = EM at e151 hE
   obtain ⟨w1, w2, w3, w4, w5⟩ := sw
   simp only at hE
   simp only [Sw.row, Net.cells] at hr e151 hb0
   simp only [go_sem, reduceIte, reduceEqDiff, reduceAdd, reduceMul, reduceSub, reduceLeDiff, reduceLT, Nat.reduceBEq, reduceCtorEq, g2, g3, g4, g5, g7, g16, g17, g18, List.length_map, hk, hr, hb0, y1, hlo1, en151 h151, Net.cells, e151]
   refine W_for (fun k T' H2 M => M = [] ∧ getT T' 2 = .ptr b0 0 ∧ getT T' 3 = .ptr b1 0 ∧ getT T' 4 = .ptr H.n 0 ∧ getT T' 5 = .ptr (H.n + 1) 0 ∧ getT T' 7 = .bool (offers (findI n.lines) f w (([endE n i false, endE n i true] : List Pt).take k) (offers (findI n.lines) f w (ends (endE n) i) (L, false))).2 ∧ getT T' 16 = .ps .unk (n.sws.map Sw.row) ∧ getT T' 17 = i64 (n.sws.length : Nat) ∧ getT T' 18 = i64 (i : Nat) ∧ getT T' 24 = .agg [.str w2, .int .i64 w3, .str w4, .int .i64 EM] ∧ getT T' 25 = i64 (k : Nat) ∧ H.n + 1 < H2.n ∧ H2.get H.n = .cells [.str f.1, .int .i64 f.2] 45 ∧ H2.get (H.n + 1) = .cells [.ps .unk (w.map Leg.row), .int .i64 (wSum w)] 246 ∧
    H2.get id = .map (lmap (offers (findI n.lines) f w (([endE n i false, endE n i true] : List Pt).take k) (offers (findI n.lines) f w (ends (endE n) i) (L, false))).1) ∧ (∀ j, j < H.n → j ≠ id → H2.get j = H.get j) ∧ ∀ p v, lk (offers (findI n.lines) f w (([endE n i false, endE n i true] : List Pt).take k) (offers (findI n.lines) f w (ends (endE n) i) (L, false))).1 p = some v → v.length ≤ 17) 2 ?_ ?_ ?_
   · simp only [go_sem, reduceIte, reduceEqDiff, reduceAdd, reduceMul, reduceSub, reduceLeDiff, reduceLT, Nat.reduceBEq, reduceCtorEq, g2, g3, g4, g5, g7, g16, g17, g18, y2, y3, y4, List.take_zero]
     refine ⟨rfl, by omega, p4, p5, pi, fun j h1 h2 => ?_, pL⟩
     rw [if_neg (by omega), if_neg (by omega)]; exact pO j h1 h2
   rintro k T' H2 M hk2 ⟨rfl, i2, i3, i4, i5, i7, i16, i17, i18, i24, i25, qn, q4, q5, qi, qO, qL⟩
   have qb0 : H2.get b0 = .cells [.ps .unk (n.lines.map Ln.row), .ps .unk (n.sws.map Sw.row), .ps .unk (n.sts.map Stc.row)] 40 := by rw [qO b0 c0 ne0]; exact s0
   have qb1 : H2.get b1 = .cells [.map id] 316 := by rw [qO b1 c1 ne1]; exact s1
   have d0 : (b0 = H2.n) = False := by simp only [eq_iff_iff, iff_false]; omega
   have d1 : (b0 = H2.n + 1) = False := by simp only [eq_iff_iff, iff_false]; omega
   have d2 : (b0 = H2.n + 1 + 1) = False := by simp only [eq_iff_iff, iff_false]; omega
   have d3 : (b1 = H2.n) = False ∧ (b1 = H2.n + 1) = False ∧ (b1 = H2.n + 1 + 1) = False := by simp only [eq_iff_iff, iff_false]; omega
   have d4 : (id = H2.n) = False := by simp only [eq_iff_iff, iff_false]; omega
   have d5 : (id = H2.n + 1) = False := by simp only [eq_iff_iff, iff_false]; omega
   have d6 : (id = H2.n + 1 + 1) = False := by simp only [eq_iff_iff, iff_false]; omega
   have d7 : (H.n = H2.n) = False ∧ (H.n = H2.n + 1) = False ∧ (H.n = H2.n + 1 + 1) = False := by simp only [eq_iff_iff, iff_false]; omega
   have d8 : (H.n + 1 = H2.n) = False ∧ (H.n + 1 = H2.n + 1) = False ∧ (H.n + 1 = H2.n + 1 + 1) = False := by simp only [eq_iff_iff, iff_false]; omega
   have d9 : (H.n = id) = False ∧ (H.n + 1 = id) = False := by simp only [eq_iff_iff, iff_false]; omega
   have da : (b0 = id) = False := by simp [ne0]
   have db : (b1 = id) = False := by simp [ne1]
   have dc : (H2.n = id) = False ∧ (H2.n + 1 = id) = False ∧ (H2.n + 1 + 1 = id) = False := by simp only [eq_iff_iff, iff_false]; omega
   have hjn : ∀ j, j < H.n → (j = H2.n) = False ∧ (j = H2.n + 1) = False ∧ (j = H2.n + 1 + 1) = False := fun j h => by simp only [eq_iff_iff, iff_false]; omega
   have hlo1 : (lo ≤ H2.n) = True := by simp only [eq_iff_iff, iff_true]; omega
   have hlo2' : (lo ≤ H2.n + 1) = True := by simp only [eq_iff_iff, iff_true]; omega
   have hlo3 : (lo ≤ H2.n + 1 + 1) = True := by simp only [eq_iff_iff, iff_true]; omega
   have hloi : (lo ≤ id) = True := by simp [hlo]
   rcases (show k = 0 ∨ k = 1 by omega) with rfl | rfl
   · -- end 0
     have hpt : (w2, w3) = endE n i false := by rw [hE]; rfl
     have hmem : (w2, w3) ∈ ends (endE n) n.sws.length := (mem_ends _).2 ⟨i, false, hk, hpt⟩
     have hs0 := hsum _ hmem
     have hw25 : wrapq .i64 (Int.add ((0 : Nat) : Int) 1) = ((0 + 1 : Nat) : Int) := rfl
     have hstep : offers (findI n.lines) f w (([endE n i false, endE n i true] : List Pt).take (0 + 1)) (offers (findI n.lines) f w (ends (endE n) i) (L, false)) = offer1 (findI n.lines) f w (w2, w3) (offers (findI n.lines) f w (([endE n i false, endE n i true] : List Pt).take 0) (offers (findI n.lines) f w (ends (endE n) i) (L, false))) := by rw [hpt]; rfl
     rw [hstep]
     generalize offers (findI n.lines) f w (([endE n i false, endE n i true] : List Pt).take 0) (offers (findI n.lines) f w (ends (endE n) i) (L, false)) = s at i7 qi qL ⊢
     obtain ⟨LL, bb⟩ := s
     simp only at i7 qi qL
     have hlook := lookL (H := ((((H2.push (.cells [.str [], .int .i64 0] 45)).set H2.n (.cells [.str w2, .int .i64 w3] 45)).push (.cells [.ps .nil [], .int .i64 0] 246)).set (H2.n + 1) (.cells [.ps .unk ((w ++ [(⟨w2, f.2, w3⟩ : Leg)]).map Leg.row), .int .i64 (wSum (w ++ [(⟨w2, f.2, w3⟩ : Leg)]))] 246))) (id := id) (L := LL) (by simp only [go_sem, reduceIte, reduceEqDiff, reduceAdd, reduceMul, reduceSub, reduceLeDiff, reduceLT, Nat.reduceBEq, reduceCtorEq, d4, d5, d6]; exact qi) (w2, w3)
     have hup : ∀ old, amapUpdate NC.P lo ((((((H2.push (.cells [.str [], .int .i64 0] 45)).set H2.n (.cells [.str w2, .int .i64 w3] 45)).push (.cells [.ps .nil [], .int .i64 0] 246)).set (H2.n + 1) (.cells [.ps .unk ((w ++ [(⟨w2, f.2, w3⟩ : Leg)]).map Leg.row), .int .i64 (wSum (w ++ [(⟨w2, f.2, w3⟩ : Leg)]))] 246)).push (.cells [.ps .nil [], .int .i64 0] 246)).set (H2.n + 1 + 1) (.cells old 246)) 316 (.map id) (.agg [.str w2, .int .i64 w3]) (.agg [.ps .unk ((w ++ [(⟨w2, f.2, w3⟩ : Leg)]).map Leg.row), .int .i64 (wSum (w ++ [(⟨w2, f.2, w3⟩ : Leg)]))]) = some (((((((H2.push (.cells [.str [], .int .i64 0] 45)).set H2.n (.cells [.str w2, .int .i64 w3] 45)).push (.cells [.ps .nil [], .int .i64 0] 246)).set (H2.n + 1) (.cells [.ps .unk ((w ++ [(⟨w2, f.2, w3⟩ : Leg)]).map Leg.row), .int .i64 (wSum (w ++ [(⟨w2, f.2, w3⟩ : Leg)]))] 246)).push (.cells [.ps .nil [], .int .i64 0] 246)).set (H2.n + 1 + 1) (.cells old 246)).set id (.map (lmap (up LL (w2, w3) (w ++ [(⟨w2, f.2, w3⟩ : Leg)]))))) := fun old => updL (L := LL) (by simp only [go_sem, reduceIte, reduceEqDiff, reduceAdd, reduceMul, reduceSub, reduceLeDiff, reduceLT, Nat.reduceBEq, reduceCtorEq, d4, d5, d6]; exact qi) hlo (w2, w3) (w ++ [(⟨w2, f.2, w3⟩ : Leg)]) rfl
     have e204 := pe204 w (wSum w) ⟨w2, f.2, w3⟩ (by unfold maxRows; omega)
     rw [hs0] at e204
     have ho : offer1 (findI n.lines) f w (w2, w3) (LL, bb) = if w2 = f.1 then (match lk LL (w2, w3) with
      | none => (up LL (w2, w3) (w ++ [(⟨w2, f.2, w3⟩ : Leg)]), true)
      | some old => if wLt (findI n.lines) (w ++ [(⟨w2, f.2, w3⟩ : Leg)]) old then (up LL (w2, w3) (w ++ [(⟨w2, f.2, w3⟩ : Leg)]), true) else (LL, bb)) else (LL, bb) := rfl
     rw [ho]
     have hup17 : ∀ q v, lk (up LL (w2, w3) (w ++ [(⟨w2, f.2, w3⟩ : Leg)])) q = some v → v.length ≤ 17 := by
      intro q v hq
      rw [lk_up] at hq
      split at hq
      · cases hq; rw [List.length_append]; simp; omega
      · exact qL q v hq
     have hol : ∀ j, j < H.n → j ≠ id → ∀ (A : ABlk), H2.get j = H.get j := fun j h1 h2 _ => qO j h1 h2
     clear hstep hpt hmem hs0 ho
     simp only [Leg.row] at e204
     cases hB : beqL w2 f.1 with
     | false =>
       have hne : ¬ (w2 = f.1) := fun e => by rw [e, beqL_self] at hB; cases hB
       rw [if_neg hne]
       simp only [go_sem, reduceIte, reduceEqDiff, reduceAdd, reduceMul, reduceSub, reduceLeDiff, reduceLT, Nat.reduceBEq, reduceCtorEq, i2, i3, i4, i5, i7, i16, i17, i18, i24, i25, q4, q5, qb0, qb1, List.length_map, hk, d0, d1, d2, d3, d4, d5, d6, d7, d8, d9, da, db, dc, hlo1, hlo2', hlo3, hloi, hw25, i02, i12, cast1, cast2, wl01, wl12, hB]
       exact ⟨by omega, qi, fun j h1 h2 => by obtain ⟨z1, z2, z3⟩ := hjn j h1; simp only [z1, z2, z3, h2, if_false]; exact qO j h1 h2, qL⟩
     | true =>
       have heq : w2 = f.1 := (beqL_iff _ _).1 hB
       rw [if_pos heq]
       cases hl : lk LL (w2, w3) with
       | none =>
         rw [hl] at hlook
         simp only [] at hlook ⊢
         have hup := hup [.ps .nil [], .int .i64 0]
         generalize (w ++ [(⟨w2, f.2, w3⟩ : Leg)]).map Leg.row = NR at e204 hlook hup
         generalize wSum (w ++ [(⟨w2, f.2, w3⟩ : Leg)]) = NS at e204 hlook hup
         simp only [go_sem, reduceIte, reduceEqDiff, reduceAdd, reduceMul, reduceSub, reduceLeDiff, reduceLT, Nat.reduceBEq, reduceCtorEq, i2, i3, i4, i5, i7, i16, i17, i18, i24, i25, q4, q5, qb0, qb1, List.length_map, hk, d0, d1, d2, d3, d4, d5, d6, d7, d8, d9, da, db, dc, hlo1, hlo2', hlo3, hloi, hw25, i02, i12, cast1, cast2, wl01, wl12, hB, en204 h204, e204, hlook, hup]
         exact ⟨by omega, fun j h1 h2 => by obtain ⟨z1, z2, z3⟩ := hjn j h1; simp only [z1, z2, z3, h2, if_false]; exact qO j h1 h2, hup17⟩
       | some old =>
         rw [hl] at hlook
         have hol17 := qL _ _ hl
         have e203 := pe203 n (w ++ [(⟨w2, f.2, w3⟩ : Leg)]) (wSum (w ++ [(⟨w2, f.2, w3⟩ : Leg)])) old (wSum old) ⟨hn.lines, by rw [List.length_append]; unfold maxRows; simp; omega, by unfold maxRows; omega⟩
         have hcmp := cmpRt_lt n (w ++ [(⟨w2, f.2, w3⟩ : Leg)]) old
         generalize cmpRt n (w ++ [(⟨w2, f.2, w3⟩ : Leg)]) (wSum (w ++ [(⟨w2, f.2, w3⟩ : Leg)])) old (wSum old) = C at e203 hcmp
         simp only [rtC] at hlook
         have hup := hup [.ps .unk (old.map Leg.row), .int .i64 (wSum old)]
         simp only [Net.cells] at e203
         generalize old.map Leg.row = OR at e203 hlook hup
         generalize wSum old = OS at e203 hlook hup
         simp only []
         cases hlt : wLt (findI n.lines) (w ++ [(⟨w2, f.2, w3⟩ : Leg)]) old with
         | true =>
           have hC : (C < 0) = True := by rw [hlt] at hcmp; simpa using hcmp
           rw [if_pos rfl]
           generalize (w ++ [(⟨w2, f.2, w3⟩ : Leg)]).map Leg.row = NR at e203 e204 hlook hup
           generalize wSum (w ++ [(⟨w2, f.2, w3⟩ : Leg)]) = NS at e203 e204 hlook hup
           simp only [go_sem, reduceIte, reduceEqDiff, reduceAdd, reduceMul, reduceSub, reduceLeDiff, reduceLT, Nat.reduceBEq, reduceCtorEq, i2, i3, i4, i5, i7, i16, i17, i18, i24, i25, q4, q5, qb0, qb1, List.length_map, hk, d0, d1, d2, d3, d4, d5, d6, d7, d8, d9, da, db, dc, hlo1, hlo2', hlo3, hloi, hw25, i02, i12, cast1, cast2, wl01, wl12, hB, en204 h204, e204, hlook, Net.cells, en203 h203, e203, hC, hup]
           exact ⟨by omega, fun j h1 h2 => by obtain ⟨z1, z2, z3⟩ := hjn j h1; simp only [z1, z2, z3, h2, if_false]; exact qO j h1 h2, hup17⟩
         | false =>
           have hC : (C < 0) = False := by rw [hlt] at hcmp; simpa using hcmp
           rw [if_neg (by simp)]
           generalize (w ++ [(⟨w2, f.2, w3⟩ : Leg)]).map Leg.row = NR at e203 e204 hlook hup
           generalize wSum (w ++ [(⟨w2, f.2, w3⟩ : Leg)]) = NS at e203 e204 hlook hup
           simp only [go_sem, reduceIte, reduceEqDiff, reduceAdd, reduceMul, reduceSub, reduceLeDiff, reduceLT, Nat.reduceBEq, reduceCtorEq, i2, i3, i4, i5, i7, i16, i17, i18, i24, i25, q4, q5, qb0, qb1, List.length_map, hk, d0, d1, d2, d3, d4, d5, d6, d7, d8, d9, da, db, dc, hlo1, hlo2', hlo3, hloi, hw25, i02, i12, cast1, cast2, wl01, wl12, hB, en204 h204, e204, hlook, Net.cells, en203 h203, e203, hC]
           exact ⟨by omega, qi, fun j h1 h2 => by obtain ⟨z1, z2, z3⟩ := hjn j h1; simp only [z1, z2, z3, h2, if_false]; exact qO j h1 h2, qL⟩
   · -- end 1
     have hpt : (w4, EM) = endE n i true := by rw [hE]; rfl
     have hmem : (w4, EM) ∈ ends (endE n) n.sws.length := (mem_ends _).2 ⟨i, true, hk, hpt⟩
     have hs0 := hsum _ hmem
     have hw25 : wrapq .i64 (Int.add ((1 : Nat) : Int) 1) = ((1 + 1 : Nat) : Int) := rfl
     have hstep : offers (findI n.lines) f w (([endE n i false, endE n i true] : List Pt).take (1 + 1)) (offers (findI n.lines) f w (ends (endE n) i) (L, false)) = offer1 (findI n.lines) f w (w4, EM) (offers (findI n.lines) f w (([endE n i false, endE n i true] : List Pt).take 1) (offers (findI n.lines) f w (ends (endE n) i) (L, false))) := by rw [hpt]; rfl
     rw [hstep]
     generalize offers (findI n.lines) f w (([endE n i false, endE n i true] : List Pt).take 1) (offers (findI n.lines) f w (ends (endE n) i) (L, false)) = s at i7 qi qL ⊢
     obtain ⟨LL, bb⟩ := s
     simp only at i7 qi qL
     have hlook := lookL (H := ((((H2.push (.cells [.str [], .int .i64 0] 45)).set H2.n (.cells [.str w4, .int .i64 EM] 45)).push (.cells [.ps .nil [], .int .i64 0] 246)).set (H2.n + 1) (.cells [.ps .unk ((w ++ [(⟨w4, f.2, EM⟩ : Leg)]).map Leg.row), .int .i64 (wSum (w ++ [(⟨w4, f.2, EM⟩ : Leg)]))] 246))) (id := id) (L := LL) (by simp only [go_sem, reduceIte, reduceEqDiff, reduceAdd, reduceMul, reduceSub, reduceLeDiff, reduceLT, Nat.reduceBEq, reduceCtorEq, d4, d5, d6]; exact qi) (w4, EM)
     have hup : ∀ old, amapUpdate NC.P lo ((((((H2.push (.cells [.str [], .int .i64 0] 45)).set H2.n (.cells [.str w4, .int .i64 EM] 45)).push (.cells [.ps .nil [], .int .i64 0] 246)).set (H2.n + 1) (.cells [.ps .unk ((w ++ [(⟨w4, f.2, EM⟩ : Leg)]).map Leg.row), .int .i64 (wSum (w ++ [(⟨w4, f.2, EM⟩ : Leg)]))] 246)).push (.cells [.ps .nil [], .int .i64 0] 246)).set (H2.n + 1 + 1) (.cells old 246)) 316 (.map id) (.agg [.str w4, .int .i64 EM]) (.agg [.ps .unk ((w ++ [(⟨w4, f.2, EM⟩ : Leg)]).map Leg.row), .int .i64 (wSum (w ++ [(⟨w4, f.2, EM⟩ : Leg)]))]) = some (((((((H2.push (.cells [.str [], .int .i64 0] 45)).set H2.n (.cells [.str w4, .int .i64 EM] 45)).push (.cells [.ps .nil [], .int .i64 0] 246)).set (H2.n + 1) (.cells [.ps .unk ((w ++ [(⟨w4, f.2, EM⟩ : Leg)]).map Leg.row), .int .i64 (wSum (w ++ [(⟨w4, f.2, EM⟩ : Leg)]))] 246)).push (.cells [.ps .nil [], .int .i64 0] 246)).set (H2.n + 1 + 1) (.cells old 246)).set id (.map (lmap (up LL (w4, EM) (w ++ [(⟨w4, f.2, EM⟩ : Leg)]))))) := fun old => updL (L := LL) (by simp only [go_sem, reduceIte, reduceEqDiff, reduceAdd, reduceMul, reduceSub, reduceLeDiff, reduceLT, Nat.reduceBEq, reduceCtorEq, d4, d5, d6]; exact qi) hlo (w4, EM) (w ++ [(⟨w4, f.2, EM⟩ : Leg)]) rfl
     have e204 := pe204 w (wSum w) ⟨w4, f.2, EM⟩ (by unfold maxRows; omega)
     rw [hs0] at e204
     have ho : offer1 (findI n.lines) f w (w4, EM) (LL, bb) = if w4 = f.1 then (match lk LL (w4, EM) with
      | none => (up LL (w4, EM) (w ++ [(⟨w4, f.2, EM⟩ : Leg)]), true)
      | some old => if wLt (findI n.lines) (w ++ [(⟨w4, f.2, EM⟩ : Leg)]) old then (up LL (w4, EM) (w ++ [(⟨w4, f.2, EM⟩ : Leg)]), true) else (LL, bb)) else (LL, bb) := rfl
     rw [ho]
     have hup17 : ∀ q v, lk (up LL (w4, EM) (w ++ [(⟨w4, f.2, EM⟩ : Leg)])) q = some v → v.length ≤ 17 := by
      intro q v hq
      rw [lk_up] at hq
      split at hq
      · cases hq; rw [List.length_append]; simp; omega
      · exact qL q v hq
     have hol : ∀ j, j < H.n → j ≠ id → ∀ (A : ABlk), H2.get j = H.get j := fun j h1 h2 _ => qO j h1 h2
     clear hstep hpt hmem hs0 ho
     simp only [Leg.row] at e204
     cases hB : beqL w4 f.1 with
     | false =>
       have hne : ¬ (w4 = f.1) := fun e => by rw [e, beqL_self] at hB; cases hB
       rw [if_neg hne]
       simp only [go_sem, reduceIte, reduceEqDiff, reduceAdd, reduceMul, reduceSub, reduceLeDiff, reduceLT, Nat.reduceBEq, reduceCtorEq, i2, i3, i4, i5, i7, i16, i17, i18, i24, i25, q4, q5, qb0, qb1, List.length_map, hk, d0, d1, d2, d3, d4, d5, d6, d7, d8, d9, da, db, dc, hlo1, hlo2', hlo3, hloi, hw25, i02, i12, cast1, cast2, wl01, wl12, hB]
       exact ⟨by omega, qi, fun j h1 h2 => by obtain ⟨z1, z2, z3⟩ := hjn j h1; simp only [z1, z2, z3, h2, if_false]; exact qO j h1 h2, qL⟩
     | true =>
       have heq : w4 = f.1 := (beqL_iff _ _).1 hB
       rw [if_pos heq]
       cases hl : lk LL (w4, EM) with
       | none =>
         rw [hl] at hlook
         simp only [] at hlook ⊢
         have hup := hup [.ps .nil [], .int .i64 0]
         generalize (w ++ [(⟨w4, f.2, EM⟩ : Leg)]).map Leg.row = NR at e204 hlook hup
         generalize wSum (w ++ [(⟨w4, f.2, EM⟩ : Leg)]) = NS at e204 hlook hup
         simp only [go_sem, reduceIte, reduceEqDiff, reduceAdd, reduceMul, reduceSub, reduceLeDiff, reduceLT, Nat.reduceBEq, reduceCtorEq, i2, i3, i4, i5, i7, i16, i17, i18, i24, i25, q4, q5, qb0, qb1, List.length_map, hk, d0, d1, d2, d3, d4, d5, d6, d7, d8, d9, da, db, dc, hlo1, hlo2', hlo3, hloi, hw25, i02, i12, cast1, cast2, wl01, wl12, hB, en204 h204, e204, hlook, hup]
         exact ⟨by omega, fun j h1 h2 => by obtain ⟨z1, z2, z3⟩ := hjn j h1; simp only [z1, z2, z3, h2, if_false]; exact qO j h1 h2, hup17⟩
       | some old =>
         rw [hl] at hlook
         have hol17 := qL _ _ hl
         have e203 := pe203 n (w ++ [(⟨w4, f.2, EM⟩ : Leg)]) (wSum (w ++ [(⟨w4, f.2, EM⟩ : Leg)])) old (wSum old) ⟨hn.lines, by rw [List.length_append]; unfold maxRows; simp; omega, by unfold maxRows; omega⟩
         have hcmp := cmpRt_lt n (w ++ [(⟨w4, f.2, EM⟩ : Leg)]) old
         generalize cmpRt n (w ++ [(⟨w4, f.2, EM⟩ : Leg)]) (wSum (w ++ [(⟨w4, f.2, EM⟩ : Leg)])) old (wSum old) = C at e203 hcmp
         simp only [rtC] at hlook
         have hup := hup [.ps .unk (old.map Leg.row), .int .i64 (wSum old)]
         simp only [Net.cells] at e203
         generalize old.map Leg.row = OR at e203 hlook hup
         generalize wSum old = OS at e203 hlook hup
         simp only []
         cases hlt : wLt (findI n.lines) (w ++ [(⟨w4, f.2, EM⟩ : Leg)]) old with
         | true =>
           have hC : (C < 0) = True := by rw [hlt] at hcmp; simpa using hcmp
           rw [if_pos rfl]
           generalize (w ++ [(⟨w4, f.2, EM⟩ : Leg)]).map Leg.row = NR at e203 e204 hlook hup
           generalize wSum (w ++ [(⟨w4, f.2, EM⟩ : Leg)]) = NS at e203 e204 hlook hup
           simp only [go_sem, reduceIte, reduceEqDiff, reduceAdd, reduceMul, reduceSub, reduceLeDiff, reduceLT, Nat.reduceBEq, reduceCtorEq, i2, i3, i4, i5, i7, i16, i17, i18, i24, i25, q4, q5, qb0, qb1, List.length_map, hk, d0, d1, d2, d3, d4, d5, d6, d7, d8, d9, da, db, dc, hlo1, hlo2', hlo3, hloi, hw25, i02, i12, cast1, cast2, wl01, wl12, hB, en204 h204, e204, hlook, Net.cells, en203 h203, e203, hC, hup]
           exact ⟨by omega, fun j h1 h2 => by obtain ⟨z1, z2, z3⟩ := hjn j h1; simp only [z1, z2, z3, h2, if_false]; exact qO j h1 h2, hup17⟩
         | false =>
           have hC : (C < 0) = False := by rw [hlt] at hcmp; simpa using hcmp
           rw [if_neg (by simp)]
           generalize (w ++ [(⟨w4, f.2, EM⟩ : Leg)]).map Leg.row = NR at e203 e204 hlook hup
           generalize wSum (w ++ [(⟨w4, f.2, EM⟩ : Leg)]) = NS at e203 e204 hlook hup
           simp only [go_sem, reduceIte, reduceEqDiff, reduceAdd, reduceMul, reduceSub, reduceLeDiff, reduceLT, Nat.reduceBEq, reduceCtorEq, i2, i3, i4, i5, i7, i16, i17, i18, i24, i25, q4, q5, qb0, qb1, List.length_map, hk, d0, d1, d2, d3, d4, d5, d6, d7, d8, d9, da, db, dc, hlo1, hlo2', hlo3, hloi, hw25, i02, i12, cast1, cast2, wl01, wl12, hB, en204 h204, e204, hlook, Net.cells, en203 h203, e203, hC]
           exact ⟨by omega, qi, fun j h1 h2 => by obtain ⟨z1, z2, z3⟩ := hjn j h1; simp only [z1, z2, z3, h2, if_false]; exact qO j h1 h2, qL⟩
   rintro T' H2 M ⟨rfl, i2, i3, i4, i5, i7, i16, i17, i18, i24, i25, qn, q4, q5, qi, qO, qL⟩
   rw [← hend2] at i7 qi qL
   have h22 : (((2 : Nat) : Int) < 2) = False := by simp
   simp only [go_sem, reduceIte, reduceEqDiff, reduceAdd, reduceMul, reduceSub, reduceLeDiff, reduceLT, Nat.reduceBEq, reduceCtorEq, i2, i3, i4, i5, i7, i16, i17, i18, i25, h22, hw18]
   exact ⟨qn, q4, q5, qi, qO, qL⟩
 · rintro T H1 M ⟨rfl, g2, g3, g4, g5, g7, g16, g17, g18, pn, p4, p5, pi, pO, pL⟩
   simp only [go_sem, reduceIte, reduceEqDiff, reduceAdd, reduceMul, reduceSub, reduceLeDiff, reduceLT, Nat.reduceBEq, reduceCtorEq, g2, g3, g4, g5, g7, g16, g17, g18, Nat.lt_irrefl]
   exact ⟨pi, by omega, pO, pL⟩
end Go.Sim

/-
Ways: the best routes to all ends, by the program.
-/
-- INJ Leg.row_iff lgs_iff
namespace Go.Sim
open Go Go.Proofs
set_option maxRecDepth 100000
set_option maxHeartbeats 64000000
variable {P:FuncId→Option (List AV→Option AV)}
/-! ### Sums are small -/
def inR (x:Int):Prop:=0≤x∧x≤800000
theorem legW_len {l:Leg} (h1:inR l.fr) (h2:inR l.to):legW l=l.len∧0≤l.len∧l.len≤800000:=by
 obtain ⟨a1,a2⟩:=h1
 obtain ⟨b1,b2⟩:=h2
 have e1:Int.sub l.fr l.to=l.fr - l.to:=rfl
 have e2:Int.sub l.to l.fr=l.to - l.fr:=rfl
 unfold legW Leg.len
 rw [e1,e2,wrap_small (x:=l.fr - l.to) (by omega) (by omega),wrap_small (x:=l.to - l.fr) (by omega) (by omega)]
 unfold maxI dI
 (repeat' split)<;>omega
theorem wSum_small:∀ {w:List Leg},(∀ l ∈ w,inR l.fr∧inR l.to)→wSum w≤800000 * w.length
 | [],_=>by simp [wSum]
 | l::r,h=>by
   have ih:=wSum_small (w:=r) fun x hx=>h x (by simp [hx])
   obtain ⟨h1,h2⟩:=h l (by simp)
   have:=(legW_len h1 h2).2.2
   simp only [wSum,List.length_cons];omega
theorem legsOf_in {E:Nat→Bool→Pt} {N:Nat} (hE:∀ i k,i < N→inR (E i k).2):∀ {a:Pt} {σ:List Stp} {b:Pt},inR a.2→inR b.2→okS E N a σ b → ∀ l ∈ legsOf E a σ b,inR l.fr∧inR l.to
 | a,[],b,ha,hb,_=>by
   intro l hl
   rw [List.mem_singleton.1 hl];exact ⟨ha,hb⟩
 | a,s::r,b,ha,hb,h=>by
   intro l hl
   rcases List.mem_cons.1 hl with rfl | hl
   · exact ⟨ha,hE _ _ h.1⟩
   · exact legsOf_in hE (hE _ _ h.1) hb h.2.2 l hl
theorem sum_one {w:List Leg} {l:Leg} (hw:∀ l ∈ w,inR l.fr∧inR l.to) (hn:w.length≤16) (h1:inR l.fr) (h2:inR l.to):wrapq .i64 (Int.add (wSum w) (legW l))=wSum (w++[l]):=by
 obtain ⟨e1,e2,e3⟩:=legW_len h1 h2
 have hs:=wSum_small hw
 have h0:=wSum_nonneg w
 have e:Int.add (wSum w) l.len=wSum w+l.len:=rfl
 rw [e1,e,wSum_append]
 have:wSum [l]=l.len:=by simp [wSum]
 rw [this]
 exact wrapq_i64 (by omega) (by omega)
theorem sum_ok {n:Net} {a:Pt} {σ:List Stp} {fr:Int} (ha:inR a.2) (hE:∀ i k,i < n.sws.length→inR (endE n i k).2) {q:Pt} (h:okS (endE n) n.sws.length a σ q) (hl:σ.length≤15) (hf:inR fr) :
 inR q.2 → ∀ p ∈ ends (endE n) n.sws.length,wrapq .i64 (Int.add (wSum (legsOf (endE n) a σ q)) (legW ⟨p.1,fr,p.2⟩))=wSum (legsOf (endE n) a σ q++[⟨p.1,fr,p.2⟩]):=by
 intro hq p hp
 obtain ⟨j,m,hj,rfl⟩:=(mem_ends _).1 hp
 exact sum_one (legsOf_in hE ha hq h) (by rw [legsOf_length];omega) hf (hE j m hj)
theorem first_better {ix:List Nat→Int} {o L:Labs} (hb:better ix o L) {p:Pt} {x:List Leg} (h:∃ v,lk o p=some v∧(v=x∨wLt ix v x=true∨wLt ix x v=false)):∃ w,lk L p=some w∧(w=x∨wLt ix w x=true∨wLt ix x w=false):=by
 obtain ⟨v,h1,h2⟩:=h
 obtain ⟨u,h3,h4⟩:=hb p v h1
 refine ⟨u,h3, ?_⟩
 rcases h4 with rfl | h4
 · exact h2
 · rcases h2 with rfl | h2 | h2
   · exact .inr (.inl h4)
   · exact .inr (.inl (wLt_trans ix h4 h2))
   · right;right
     cases c:wLt ix x u with
     | false=>rfl
     | true =>
       have:=wLt_trans ix c h4
       rw [this] at h2;cases h2
def rsD (E:Nat→Bool→Pt) (N:Nat) (ix:List Nat→Int) (L:Labs) (i:Nat):Nat→Labs × Bool
 | 0=>rounds E N ix i (L,false)
 | 1=>rstep E N ix i false (rounds E N ix i (L,false))
 | _=>rstep E N ix i true (rstep E N ix i false (rounds E N ix i (L,false)))
theorem rsD_valid {E:Nat→Bool→Pt} {N:Nat} {ix:List Nat→Int} {a:Pt} {L:Labs} (h:LabV E N a L) {i:Nat} (hi:i < N):∀ k,k≤2→LabV E N a (rsD E N ix L i k).1
 | 0,_=>(rounds_rs (ix:=ix) (by omega) h).valid
 | 1,_=>(rstep_rs (ix:=ix) hi false (rounds_rs (ix:=ix) (by omega) h).valid).valid
 | 2,_=>(rstep_rs (ix:=ix) hi true (rstep_rs (ix:=ix) hi false (rounds_rs (ix:=ix) (by omega) h).valid).valid).valid
 | n+3,h=>absurd h (by omega)
theorem ab334 (a c a' c':List Nat) (b d b' d':Int):abuild NC.P 334 [(0,.agg [.str a,.int .i64 b,.str c,.int .i64 d]),(1,.agg [.str a',.int .i64 b',.str c',.int .i64 d'])]=some (.agg [.str a,.int .i64 b,.str c,.int .i64 d,.str a',.int .i64 b',.str c',.int .i64 d']):=by kernel_rfl
theorem evalO_nilm {C:Cfg} {T:TT AV}:evalO C T (.const (.map none))=some .nilm:=rfl
theorem r185 (h151:P 151=some p151) (h203:P 203=some p203) (h204:P 204=some p204) (h229:P 229=none) (n:Net) (hn:n.Ok) (hsw:n.sws.length≤maxRows) (a:Pt) (hRa:inR a.2) (hRE:∀ i k,i < n.sws.length→inR (endE n i k).2) (lo:Nat) (H:Heap) (hlo:lo≤H.n) :
 ∃ v H',R (NC.withPrims P) (.call lo 185 [.agg n.cells,.agg [.str a.1,.int .i64 a.2]] H)=some (.ofVal v H') ∧ ∃ L,v=.map (H.n+2)∧H.n+2 < H'.n∧H'.get (H.n+2)=.map (lmap L)∧Lab (endE n) n.sws.length (findI n.lines) a (lk L)∧LabV (endE n) n.sws.length a L ∧ ∀ j,j < H.n→H'.get j=H.get j:=by
 refine R_of_body (C:=NC.withPrims P) (f:=185) (lo:=lo) (args:=[.agg n.cells,.agg [.str a.1,.int .i64 a.2]]) (H:=H) (fn:=Tryz.f185) (Q:=fun v H'=>∃ L,v=.map (H.n+2)∧H.n+2 < H'.n∧H'.get (H.n+2)=.map (lmap L)∧Lab (endE n) n.sws.length (findI n.lines) a (lk L)∧LabV (endE n) n.sws.length a L ∧ ∀ j,j < H.n→H'.get j=H.get j) (by kernel_rfl) Tryz.func185 rfl rfl ?_
 have hend1:∀ s,(rounds (endE n) n.sws.length (findI n.lines) 0 s)=s:=fun s=>rfl
 obtain ⟨v1,H1,r1,rfl,r2,r3,r4,r5⟩:=r229 (P:=P) h151 h203 h204 n hn hsw a [] [] (by simp) (by
  intro p hp
  obtain ⟨j,m,hj,rfl⟩:=(mem_ends _).1 hp
  exact sum_one (w:=[]) (fun l hl=>by cases hl) (by simp) hRa (hRE j m hj)) (fun p v h=>by cases h)
  lo H.n (H.n+3) (H.n+2) (((((H.push (.cells n.cells 40)).push (.cells [.str a.1,.int .i64 a.2] 45)).push (.map [])).push (.cells [.nilm] 316)).set (H.n+3) (.cells [.map (H.n+2)] 316)) (by omega) (by simp;omega) (by simp;omega) (by simp) (by simp) (by omega) (by omega) (by simp only [go_sem,reduceIte,reduceEqDiff,reduceAdd,reduceMul,reduceSub,reduceLeDiff,reduceLT,Nat.reduceBEq,reduceCtorEq]) (by simp only [go_sem,reduceIte,reduceEqDiff,reduceAdd,reduceMul,reduceSub,reduceLeDiff,reduceLT,Nat.reduceBEq,reduceCtorEq]) (by simp only [go_sem,reduceIte,reduceEqDiff,reduceAdd,reduceMul,reduceSub,reduceLeDiff,reduceLT,Nat.reduceBEq,reduceCtorEq];rfl)
 have hv0:=offers_valid (ix:=findI n.lines) (rt_first (E:=endE n) (N:=n.sws.length) (a:=a)) (ends (endE n) n.sws.length) ends_all ([],false) (fun p w h=>by cases h)
 have hf0:=offers_least (findI n.lines) a [] (ends (endE n) n.sws.length) ([],false)
 generalize offers (findI n.lines) a [] (ends (endE n) n.sws.length) ([],false)=o at r1 r2 r5 hv0 hf0
 obtain ⟨o1,o2⟩:=o
 simp only at r1 r2 r5 hv0 hf0
 have hlo3:(lo≤H.n+1+1+1)=True:=by simp only [eq_iff_iff,iff_true];omega
 have r1':=r1
 simp only [Net.cells,List.map_nil,wSum] at r1'
 simp only [go_sem,reduceIte,reduceEqDiff,reduceAdd,reduceMul,reduceSub,reduceLeDiff,reduceLT,Nat.reduceBEq,reduceCtorEq,evalO_nilm,hlo3,Net.cells,en229 h229,r1',ofVal_v,ofVal_H]
 have z0:=r4 H.n (by simp;omega) (by omega)
 have z3:=r4 (H.n+3) (by simp) (by omega)
 have zO:∀ j,j < H.n→H1.get j=H.get j:=fun j h=>by
  rw [r4 j (by simp;omega) (by omega)]
  simp only [go_sem,reduceIte,reduceEqDiff,reduceAdd,reduceMul,reduceSub,reduceLeDiff,reduceLT,Nat.reduceBEq,reduceCtorEq]
  rw [if_neg (by omega),if_neg (by omega),if_neg (by omega),if_neg (by omega),if_neg (by omega)]
 have z0:H1.get H.n=.cells n.cells 40:=by rw [z0];simp only [go_sem,reduceIte,reduceEqDiff,reduceAdd,reduceMul,reduceSub,reduceLeDiff,reduceLT,Nat.reduceBEq,reduceCtorEq]
 have z3:H1.get (H.n+3)=.cells [.map (H.n+2)] 316:=by rw [z3];simp only [go_sem,reduceIte,reduceEqDiff,reduceAdd,reduceMul,reduceSub,reduceLeDiff,reduceLT,Nat.reduceBEq,reduceCtorEq]
 have zn:H.n+3 < H1.n:=by simp at r3;omega
 clear r1 r1' r3 r4 hlo3
 refine W_while (fun m T H' M=>M=[]∧getT T 2=.ptr H.n 0∧getT T 5=.ptr (H.n+3) 0∧getT T 6=.fn 229 [] [.ptr H.n 0,.ptr (H.n+3) 0]∧H.n+3 < H'.n∧H'.get H.n=.cells n.cells 40∧H'.get (H.n+3)=.cells [.map (H.n+2)] 316∧(∀ j,j < H.n→H'.get j=H.get j) ∧ ∃ (L:Labs) (ag:Bool),getT T 7=.bool ag∧H'.get (H.n+2)=.map (lmap L)∧LabV (endE n) n.sws.length a L∧better (findI n.lines) o1 L∧(ag=false→(rounds (endE n) n.sws.length (findI n.lines) n.sws.length (L,false)).2=false)∧m=if ag then mu (endE n) n.sws.length (findI n.lines) a L+1 else 0) ?_ (mu (endE n) n.sws.length (findI n.lines) a o1+1) _ _ _ ?_
 case refine_2 =>
  simp only [go_sem,reduceIte,reduceEqDiff,reduceAdd,reduceMul,reduceSub,reduceLeDiff,reduceLT,Nat.reduceBEq,reduceCtorEq]
  exact ⟨zn,z0,z3,zO,o1,true,rfl,r2,hv0,better_refl _ _,fun h=>(by cases h),rfl⟩
 case refine_1 =>
 clear z0 z3 zO zn r2 r5 hv0
 rintro m T H' M ⟨rfl,t2,t5,t6,hn',g0,g3,gO,L,ag,t7,gL,hLv,hb,hfin,rfl⟩
 cases ag with
 | false =>
   have hr:=hfin rfl
   simp only [go_sem,reduceIte,reduceEqDiff,reduceAdd,reduceMul,reduceSub,reduceLeDiff,reduceLT,Nat.reduceBEq,reduceCtorEq,t7,t5,g3]
   refine ⟨L,by omega,gL,lab_of hLv ?_ hr,hLv,gO⟩
   intro p hp hl
   have:=first_better hb (hf0 p hp hl)
   rw [List.nil_append,hl] at this
   exact this
 | true =>
 clear hfin
 obtain ⟨rsK,hrsK⟩:∃ r:Nat→Nat→Labs × Bool,r=fun i k=>rsD (endE n) n.sws.length (findI n.lines) L i k:=⟨_,rfl⟩
 have hval:∀ i k,i < n.sws.length→k≤2→LabV (endE n) n.sws.length a (rsK i k).1:=fun i k hi hk=>by rw [hrsK];exact rsD_valid hLv hi k hk
 have hall:=rounds_rs (ix:=findI n.lines) (Nat.le_refl n.sws.length) (s:=(L,false)) hLv
 have hre:rounds (endE n) n.sws.length (findI n.lines) n.sws.length (L,false)=rsK n.sws.length 0:=by rw [hrsK];rfl
 have hrf:=fun h=>rounds_false (E:=endE n) (N:=n.sws.length) (ix:=findI n.lines) (n:=n.sws.length) (s:=(L,false)) h
 rw [hre] at hall hrf
 have hr0:rsK 0 0=(L,false):=by rw [hrsK];rfl
 have hrS:∀ i,rsK (i+1) 0=rsK i 2:=fun i=>by rw [hrsK];rfl
 have g0':=g0
 simp only [Net.cells] at g0'
 simp only [go_sem,reduceIte,reduceEqDiff,reduceAdd,reduceMul,reduceSub,reduceLeDiff,reduceLT,Nat.reduceBEq,reduceCtorEq,t7,t5,t2,t6,g0']
 refine W_for (fun i T H' M=>M=[]∧getT T 2=.ptr H.n 0∧getT T 5=.ptr (H.n+3) 0∧getT T 6=.fn 229 [] [.ptr H.n 0,.ptr (H.n+3) 0]∧getT T 7=.bool (rsK i 0).2∧getT T 23=.ps .unk (n.sws.map Sw.row)∧getT T 24=i64 (n.sws.length:Nat)∧getT T 25=i64 (i:Nat)∧H.n+3 < H'.n∧H'.get H.n=.cells n.cells 40∧H'.get (H.n+3)=.cells [.map (H.n+2)] 316∧(∀ j,j < H.n→H'.get j=H.get j)∧H'.get (H.n+2)=.map (lmap (rsK i 0).1)) n.sws.length ?_ ?_ ?_
 · simp only [go_sem,reduceIte,reduceEqDiff,reduceAdd,reduceMul,reduceSub,reduceLeDiff,reduceLT,Nat.reduceBEq,reduceCtorEq,t2,t5,t6,List.length_map,hr0]
   exact ⟨hn',g0,g3,gO,gL⟩
 · rintro i T H1 M hk ⟨rfl,t2,t5,t6,t7,t23,t24,t25,pn,p0,p3,pO,pL⟩
   obtain ⟨sw,hsx⟩:∃ p,n.sws[i]? = some p:=⟨n.sws[i],by simp⟩
   have hr:=map_at (f:=Sw.row) hsx
   have hw25:=wrap_succ hk hsw
   have hE:endE n i=fun k=>if k then (sw.other,endM n sw) else (sw.line,sw.metre):=by funext k;unfold endE;rw [hsx]
   have e151:=pe151 n sw hn
   have y1:(H.n=H1.n)=False:=by simp only [eq_iff_iff,iff_false];omega
   have y2:(H.n=H1.n+1)=False:=by simp only [eq_iff_iff,iff_false];omega
   have y3:(H.n+3=H1.n)=False:=by simp only [eq_iff_iff,iff_false];omega
   have y4:(H.n+3=H1.n+1)=False:=by simp only [eq_iff_iff,iff_false];omega
   have y5:(H.n+2=H1.n)=False:=by simp only [eq_iff_iff,iff_false];omega
   have y6:(H.n+2=H1.n+1)=False:=by simp only [eq_iff_iff,iff_false];omega
   have hlo1:(lo≤H1.n)=True:=by simp only [eq_iff_iff,iff_true];omega
   have hlo2:(lo≤H1.n+1)=True:=by simp only [eq_iff_iff,iff_true];omega
   rw [hrS]
   generalize endM n sw=EM at e151 hE
   obtain ⟨w1,w2,w3,w4,w5⟩:=sw
   simp only at hE
   have p0':=p0
   simp only [Sw.row,Net.cells] at hr e151 p0'
   simp only [go_sem,reduceIte,reduceEqDiff,reduceAdd,reduceMul,reduceSub,reduceLeDiff,reduceLT,Nat.reduceBEq,reduceCtorEq,t2,t5,t6,t7,t23,t24,t25,List.length_map,hk,hr,p0',y1,y2,hlo1,hlo2,en151 h151,Net.cells,e151,ab259,ab334]
   refine W_for (fun k T H2 M=>M=[]∧getT T 2=.ptr H.n 0∧getT T 5=.ptr (H.n+3) 0∧getT T 6=.fn 229 [] [.ptr H.n 0,.ptr (H.n+3) 0]∧getT T 7=.bool (rsK i k).2∧getT T 23=.ps .unk (n.sws.map Sw.row)∧getT T 24=i64 (n.sws.length:Nat)∧getT T 25=i64 (i:Nat)∧getT T 38=.agg [.str w2,.int .i64 w3,.str w4,.int .i64 EM,.str w4,.int .i64 EM,.str w2,.int .i64 w3]∧getT T 39=i64 (k:Nat)∧H.n+3 < H2.n∧H2.get H.n=.cells n.cells 40∧H2.get (H.n+3)=.cells [.map (H.n+2)] 316∧(∀ j,j < H.n→H2.get j=H.get j)∧H2.get (H.n+2)=.map (lmap (rsK i k).1)) 2 ?_ ?_ ?_
   · simp only [go_sem,reduceIte,reduceEqDiff,reduceAdd,reduceMul,reduceSub,reduceLeDiff,reduceLT,Nat.reduceBEq,reduceCtorEq,t2,t5,t6,t7,t23,t24,t25,y1,y2,y3,y4,y5,y6]
     refine ⟨by omega,p0,p3,fun j h => ?_,pL⟩
     rw [if_neg (by omega),if_neg (by omega),if_neg (by omega),if_neg (by omega)];exact pO j h
   rintro k T H2 M hk2 ⟨rfl,i2,i5,i6,i7,i23,i24,i25,i38,i39,qn,qs0,qs1,qO,qi⟩
   have d0:(H.n=H2.n)=False:=by simp only [eq_iff_iff,iff_false];omega
   have d1:(H.n=H2.n+1)=False:=by simp only [eq_iff_iff,iff_false];omega
   have d2:(H.n+3=H2.n)=False:=by simp only [eq_iff_iff,iff_false];omega
   have d3:(H.n+3=H2.n+1)=False:=by simp only [eq_iff_iff,iff_false];omega
   have d4:(H.n+2=H2.n)=False:=by simp only [eq_iff_iff,iff_false];omega
   have d5:(H.n+2=H2.n+1)=False:=by simp only [eq_iff_iff,iff_false];omega
   have hlo1:(lo≤H2.n)=True:=by simp only [eq_iff_iff,iff_true];omega
   have hlo2:(lo≤H2.n+1)=True:=by simp only [eq_iff_iff,iff_true];omega
   clear hall hrf hre hr0 hrS e151 y1 y2 y3 y4 y5 y6 pO pL p0 p3 hf0
   rcases (show k=0∨k=1 by omega) with rfl | rfl
   · -- entered at end 0
     have hpt:endE n i false=(w2,w3):=by rw [hE];rfl
     have hqt:endE n i (!false)=(w4,EM):=by rw [hE];rfl
     have hrs:rsK i (0+1)=rstep (endE n) n.sws.length (findI n.lines) i false (rsK i 0):=by rw [hrsK];rfl
     have hsv:=hval i 0 (by omega) (by omega)
     rw [hrs]
     generalize rsK i 0=s at i7 qi hsv ⊢
     obtain ⟨LL,bb⟩:=s
     simp only at i7 qi hsv
     have hlook:=lookL (H:=((H2.push (.cells [.str [],.int .i64 0,.str [],.int .i64 0] 259)).set H2.n (.cells [.str w2,.int .i64 w3,.str w4,.int .i64 EM] 259))) (id:=H.n+2) (L:=LL) (by simp only [go_sem,reduceIte,reduceEqDiff,reduceAdd,reduceMul,reduceSub,reduceLeDiff,reduceLT,Nat.reduceBEq,reduceCtorEq,d4,d5];exact qi) (w2,w3)
     have hst:rstep (endE n) n.sws.length (findI n.lines) i false (LL,bb)=match lk LL (w2,w3) with
      | none=>(LL,bb)
      | some r=>if r.length < 16 then ((offers (findI n.lines) (w4,EM) r (ends (endE n) n.sws.length) (LL,false)).1,bb || (offers (findI n.lines) (w4,EM) r (ends (endE n) n.sws.length) (LL,false)).2) else (LL,bb):=by
      unfold rstep
      rw [hpt,hqt]
      all_goals (show (match lk LL (w2,w3) with | none=>_ | some r=>_)=_;cases lk LL (w2,w3)<;>rfl)
     rw [hst]
     cases hl:lk LL (w2,w3) with
     | none =>
       rw [hl] at hlook
       simp only [] at hlook ⊢
       simp only [go_sem,reduceIte,reduceEqDiff,reduceAdd,reduceMul,reduceSub,reduceLeDiff,reduceLT,Nat.reduceBEq,reduceCtorEq,i2,i5,i6,i7,i23,i24,i25,i38,i39,qs1,qi,i02,i12,cast1,cast2,wl01,wl12,d0,d1,d2,d3,d4,d5,hlo1,hlo2,hlook]
       refine ⟨by omega,qs0,fun j h => ?_⟩
       rw [if_neg (by omega),if_neg (by omega),if_neg (by omega),if_neg (by omega)];exact qO j h
     | some r =>
       rw [hl] at hlook
       obtain ⟨_,σ,s1,s2,s3⟩:=hsv _ _ hl
       have hrl:r.length≤16:=by rw [s2,legsOf_length];omega
       simp only [rtC] at hlook
       simp only []
       rcases Nat.lt_or_ge r.length 16 with h16 | h16
       case inr =>
        have h16':((r.length:Int) < 16)=False:=by simp only [eq_iff_iff,iff_false];omega
        rw [if_neg (by omega)]
        simp only [go_sem,reduceIte,reduceEqDiff,reduceAdd,reduceMul,reduceSub,reduceLeDiff,reduceLT,Nat.reduceBEq,reduceCtorEq,i2,i5,i6,i7,i23,i24,i25,i38,i39,qs1,qi,i02,i12,cast1,cast2,wl01,wl12,d0,d1,d2,d3,d4,d5,hlo1,hlo2,hlook,List.length_map,h16']
        refine ⟨by omega,qs0,fun j h => ?_⟩
        rw [if_neg (by omega),if_neg (by omega),if_neg (by omega),if_neg (by omega)];exact qO j h
       have h16':((r.length:Int) < 16)=True:=by simp only [eq_iff_iff,iff_true];omega
       rw [if_pos h16]
       have hrt:∀ p ∈ ends (endE n) n.sws.length,wrapq .i64 (Int.add (wSum r) (legW ⟨p.1,EM,p.2⟩))=wSum (r++[⟨p.1,EM,p.2⟩]):=by
        rw [s2]
        exact sum_ok hRa hRE s1 (by omega) (by have:=hRE i (!false) (by omega);rw [hqt] at this;exact this) (by have:=hRE i false (by omega);rw [hpt] at this;exact this)
       obtain ⟨v3,H3,r1,rfl,r2,r3,r4,r5⟩:=r229 (P:=P) h151 h203 h204 n hn hsw (w4,EM) r LL hrl hrt (fun p v h=>by obtain ⟨_,τ,t1,t2,t3⟩:=hsv p v h;rw [t2,legsOf_length];omega)
        lo H.n (H.n+3) (H.n+2) (((((H2.push (.cells [.str [],.int .i64 0,.str [],.int .i64 0] 259)).set H2.n (.cells [.str w2,.int .i64 w3,.str w4,.int .i64 EM] 259)).push (.cells [.ps .nil [],.int .i64 0] 246)).set (H2.n+1) (.cells [.ps .unk (r.map Leg.row),.int .i64 (wSum r)] 246))) (by omega) (by simp;omega) (by simp;omega) (by simp;omega) (by simp;omega) (by omega) (by omega) (by simp only [go_sem,reduceIte,reduceEqDiff,reduceAdd,reduceMul,reduceSub,reduceLeDiff,reduceLT,Nat.reduceBEq,reduceCtorEq,d0,d1];exact qs0) (by simp only [go_sem,reduceIte,reduceEqDiff,reduceAdd,reduceMul,reduceSub,reduceLeDiff,reduceLT,Nat.reduceBEq,reduceCtorEq,d2,d3];exact qs1) (by simp only [go_sem,reduceIte,reduceEqDiff,reduceAdd,reduceMul,reduceSub,reduceLeDiff,reduceLT,Nat.reduceBEq,reduceCtorEq,d4,d5];exact qi)
       generalize offers (findI n.lines) (w4,EM) r (ends (endE n) n.sws.length) (LL,false)=o at r1 r2 r5 ⊢
       obtain ⟨o1,o2⟩:=o
       simp only at r1 r2 r5
       have r6:H2.n < H3.n:=by simp at r3;omega
       have r7:=r4 H.n (by simp;omega) (by omega)
       have r8:=r4 (H.n+3) (by simp;omega) (by omega)
       have r9:∀ j,j < H.n→H3.get j=H.get j:=fun j h=>by
        rw [r4 j (by simp;omega) (by omega)]
        simp only [go_sem,reduceIte,reduceEqDiff,reduceAdd,reduceMul,reduceSub,reduceLeDiff,reduceLT,Nat.reduceBEq,reduceCtorEq]
        rw [if_neg (by omega),if_neg (by omega),if_neg (by omega),if_neg (by omega)];exact qO j h
       have r7:H3.get H.n=.cells n.cells 40:=by rw [r7];simp only [go_sem,reduceIte,reduceEqDiff,reduceAdd,reduceMul,reduceSub,reduceLeDiff,reduceLT,Nat.reduceBEq,reduceCtorEq,d0,d1];exact qs0
       have r8:H3.get (H.n+3)=.cells [.map (H.n+2)] 316:=by rw [r8];simp only [go_sem,reduceIte,reduceEqDiff,reduceAdd,reduceMul,reduceSub,reduceLeDiff,reduceLT,Nat.reduceBEq,reduceCtorEq,d2,d3];exact qs1
       cases o2<;>simp only [go_sem,reduceIte,reduceEqDiff,reduceAdd,reduceMul,reduceSub,reduceLeDiff,reduceLT,Nat.reduceBEq,reduceCtorEq,i2,i5,i6,i7,i23,i24,i25,i38,i39,qs1,qi,i02,i12,cast1,cast2,wl01,wl12,d0,d1,d2,d3,d4,d5,hlo1,hlo2,hlook,List.length_map,h16',en229 h229,r1,ofVal_v,ofVal_H,Bool.or_true,Bool.or_false]
       · exact ⟨by omega,r7,r8,r9,r2⟩
       · exact ⟨by omega,r7,r8,r9,r2⟩
   · -- entered at end 1
     have hpt:endE n i true=(w4,EM):=by rw [hE];rfl
     have hqt:endE n i (!true)=(w2,w3):=by rw [hE];rfl
     have hrs:rsK i (1+1)=rstep (endE n) n.sws.length (findI n.lines) i true (rsK i 1):=by rw [hrsK];rfl
     have hsv:=hval i 1 (by omega) (by omega)
     rw [hrs]
     generalize rsK i 1=s at i7 qi hsv ⊢
     obtain ⟨LL,bb⟩:=s
     simp only at i7 qi hsv
     have hlook:=lookL (H:=((H2.push (.cells [.str [],.int .i64 0,.str [],.int .i64 0] 259)).set H2.n (.cells [.str w4,.int .i64 EM,.str w2,.int .i64 w3] 259))) (id:=H.n+2) (L:=LL) (by simp only [go_sem,reduceIte,reduceEqDiff,reduceAdd,reduceMul,reduceSub,reduceLeDiff,reduceLT,Nat.reduceBEq,reduceCtorEq,d4,d5];exact qi) (w4,EM)
     have hst:rstep (endE n) n.sws.length (findI n.lines) i true (LL,bb)=match lk LL (w4,EM) with
      | none=>(LL,bb)
      | some r=>if r.length < 16 then ((offers (findI n.lines) (w2,w3) r (ends (endE n) n.sws.length) (LL,false)).1,bb || (offers (findI n.lines) (w2,w3) r (ends (endE n) n.sws.length) (LL,false)).2) else (LL,bb):=by
      unfold rstep
      rw [hpt,hqt]
      all_goals (show (match lk LL (w4,EM) with | none=>_ | some r=>_)=_;cases lk LL (w4,EM)<;>rfl)
     rw [hst]
     cases hl:lk LL (w4,EM) with
     | none =>
       rw [hl] at hlook
       simp only [] at hlook ⊢
       simp only [go_sem,reduceIte,reduceEqDiff,reduceAdd,reduceMul,reduceSub,reduceLeDiff,reduceLT,Nat.reduceBEq,reduceCtorEq,i2,i5,i6,i7,i23,i24,i25,i38,i39,qs1,qi,i02,i12,cast1,cast2,wl01,wl12,d0,d1,d2,d3,d4,d5,hlo1,hlo2,hlook]
       refine ⟨by omega,qs0,fun j h => ?_⟩
       rw [if_neg (by omega),if_neg (by omega),if_neg (by omega),if_neg (by omega)];exact qO j h
     | some r =>
       rw [hl] at hlook
       obtain ⟨_,σ,s1,s2,s3⟩:=hsv _ _ hl
       have hrl:r.length≤16:=by rw [s2,legsOf_length];omega
       simp only [rtC] at hlook
       simp only []
       rcases Nat.lt_or_ge r.length 16 with h16 | h16
       case inr =>
        have h16':((r.length:Int) < 16)=False:=by simp only [eq_iff_iff,iff_false];omega
        rw [if_neg (by omega)]
        simp only [go_sem,reduceIte,reduceEqDiff,reduceAdd,reduceMul,reduceSub,reduceLeDiff,reduceLT,Nat.reduceBEq,reduceCtorEq,i2,i5,i6,i7,i23,i24,i25,i38,i39,qs1,qi,i02,i12,cast1,cast2,wl01,wl12,d0,d1,d2,d3,d4,d5,hlo1,hlo2,hlook,List.length_map,h16']
        refine ⟨by omega,qs0,fun j h => ?_⟩
        rw [if_neg (by omega),if_neg (by omega),if_neg (by omega),if_neg (by omega)];exact qO j h
       have h16':((r.length:Int) < 16)=True:=by simp only [eq_iff_iff,iff_true];omega
       rw [if_pos h16]
       have hrt:∀ p ∈ ends (endE n) n.sws.length,wrapq .i64 (Int.add (wSum r) (legW ⟨p.1,w3,p.2⟩))=wSum (r++[⟨p.1,w3,p.2⟩]):=by
        rw [s2]
        exact sum_ok hRa hRE s1 (by omega) (by have:=hRE i (!true) (by omega);rw [hqt] at this;exact this) (by have:=hRE i true (by omega);rw [hpt] at this;exact this)
       obtain ⟨v3,H3,r1,rfl,r2,r3,r4,r5⟩:=r229 (P:=P) h151 h203 h204 n hn hsw (w2,w3) r LL hrl hrt (fun p v h=>by obtain ⟨_,τ,t1,t2,t3⟩:=hsv p v h;rw [t2,legsOf_length];omega)
        lo H.n (H.n+3) (H.n+2) (((((H2.push (.cells [.str [],.int .i64 0,.str [],.int .i64 0] 259)).set H2.n (.cells [.str w4,.int .i64 EM,.str w2,.int .i64 w3] 259)).push (.cells [.ps .nil [],.int .i64 0] 246)).set (H2.n+1) (.cells [.ps .unk (r.map Leg.row),.int .i64 (wSum r)] 246))) (by omega) (by simp;omega) (by simp;omega) (by simp;omega) (by simp;omega) (by omega) (by omega) (by simp only [go_sem,reduceIte,reduceEqDiff,reduceAdd,reduceMul,reduceSub,reduceLeDiff,reduceLT,Nat.reduceBEq,reduceCtorEq,d0,d1];exact qs0) (by simp only [go_sem,reduceIte,reduceEqDiff,reduceAdd,reduceMul,reduceSub,reduceLeDiff,reduceLT,Nat.reduceBEq,reduceCtorEq,d2,d3];exact qs1) (by simp only [go_sem,reduceIte,reduceEqDiff,reduceAdd,reduceMul,reduceSub,reduceLeDiff,reduceLT,Nat.reduceBEq,reduceCtorEq,d4,d5];exact qi)
       generalize offers (findI n.lines) (w2,w3) r (ends (endE n) n.sws.length) (LL,false)=o at r1 r2 r5 ⊢
       obtain ⟨o1,o2⟩:=o
       simp only at r1 r2 r5
       have r6:H2.n < H3.n:=by simp at r3;omega
       have r7:=r4 H.n (by simp;omega) (by omega)
       have r8:=r4 (H.n+3) (by simp;omega) (by omega)
       have r9:∀ j,j < H.n→H3.get j=H.get j:=fun j h=>by
        rw [r4 j (by simp;omega) (by omega)]
        simp only [go_sem,reduceIte,reduceEqDiff,reduceAdd,reduceMul,reduceSub,reduceLeDiff,reduceLT,Nat.reduceBEq,reduceCtorEq]
        rw [if_neg (by omega),if_neg (by omega),if_neg (by omega),if_neg (by omega)];exact qO j h
       have r7:H3.get H.n=.cells n.cells 40:=by rw [r7];simp only [go_sem,reduceIte,reduceEqDiff,reduceAdd,reduceMul,reduceSub,reduceLeDiff,reduceLT,Nat.reduceBEq,reduceCtorEq,d0,d1];exact qs0
       have r8:H3.get (H.n+3)=.cells [.map (H.n+2)] 316:=by rw [r8];simp only [go_sem,reduceIte,reduceEqDiff,reduceAdd,reduceMul,reduceSub,reduceLeDiff,reduceLT,Nat.reduceBEq,reduceCtorEq,d2,d3];exact qs1
       cases o2<;>simp only [go_sem,reduceIte,reduceEqDiff,reduceAdd,reduceMul,reduceSub,reduceLeDiff,reduceLT,Nat.reduceBEq,reduceCtorEq,i2,i5,i6,i7,i23,i24,i25,i38,i39,qs1,qi,i02,i12,cast1,cast2,wl01,wl12,d0,d1,d2,d3,d4,d5,hlo1,hlo2,hlook,List.length_map,h16',en229 h229,r1,ofVal_v,ofVal_H,Bool.or_true,Bool.or_false]
       · exact ⟨by omega,r7,r8,r9,r2⟩
       · exact ⟨by omega,r7,r8,r9,r2⟩
   rintro T H2 M ⟨rfl,i2,i5,i6,i7,i23,i24,i25,i38,i39,qn,qs0,qs1,qO,qi⟩
   have h22:(((2:Nat):Int) < 2)=False:=by simp
   simp only [go_sem,reduceIte,reduceEqDiff,reduceAdd,reduceMul,reduceSub,reduceLeDiff,reduceLT,Nat.reduceBEq,reduceCtorEq,i2,i5,i6,i7,i23,i24,i25,i39,h22,hw25]
   exact ⟨qn,qs0,qs1,qO,qi⟩
 · rintro T H1 M ⟨rfl,t2,t5,t6,t7,t23,t24,t25,pn,p0,p3,pO,pL⟩
   simp only [go_sem,reduceIte,reduceEqDiff,reduceAdd,reduceMul,reduceSub,reduceLeDiff,reduceLT,Nat.reduceBEq,reduceCtorEq,t2,t5,t6,t7,t23,t24,t25,Nat.lt_irrefl]
   refine ⟨_, ?_,pn,p0,p3,pO,(rsK n.sws.length 0).1,(rsK n.sws.length 0).2,rfl,pL,hall.valid,better_trans _ hb hall.better,fun h => ?_,rfl⟩
   · cases hbb:(rsK n.sws.length 0).2 with
     | false=>simp
     | true =>
       simp only [if_true]
       rcases hall.less with ⟨_,c⟩ | ⟨_,c⟩
       · exact Bool.noConfusion (hbb.symm.trans c)
       · have c':mu (endE n) n.sws.length (findI n.lines) a (rsK n.sws.length 0).1 < mu (endE n) n.sws.length (findI n.lines) a L:=c
         omega
   · obtain ⟨e,_⟩:=hrf h
     rw [e,hre];exact h
end Go.Sim

/-
Ways: the best of the candidates.
-/
-- INJ Leg.row_iff lgs_iff
namespace Go.Sim
open Go Go.Proofs
set_option maxRecDepth 100000
set_option maxHeartbeats 64000000
variable {P:FuncId→Option (List AV→Option AV)}
def takeW (ix:List Nat→Int) (s:Option (List Leg)) (w:List Leg):Option (List Leg):=match s with
 | none=>some w
 | some v=>if wLt ix w v=true then some w else some v
def InvW (ix:List Nat→Int) (Q:List Leg→Prop):Option (List Leg)→Prop
 | none=>∀ v,¬ Q v
 | some w=>Q w ∧ ∀ v,Q v→wLe ix w v
theorem InvW.congr {ix:List Nat→Int} {Q R:List Leg→Prop} {s:Option (List Leg)} (h:InvW ix Q s) (e:∀ v,Q v ↔ R v):InvW ix R s:=by
 cases s with
 | none=>exact fun v hv=>h v ((e v).2 hv)
 | some w=>exact ⟨(e w).1 h.1,fun v hv=>h.2 v ((e v).2 hv)⟩
theorem takeW_inv {ix:List Nat→Int} {Q:List Leg→Prop} {s:Option (List Leg)} (h:InvW ix Q s) (w:List Leg):InvW ix (fun v=>Q v∨v=w) (takeW ix s w):=by
 cases s with
 | none =>
   refine ⟨.inr rfl,fun v hv => ?_⟩
   rcases hv with hv | rfl
   · exact absurd hv (h v)
   · exact wLe_refl ix _
 | some u =>
   unfold takeW
   simp only []
   cases hc:wLt ix w u with
   | true =>
     rw [if_pos rfl]
     refine ⟨.inr rfl,fun v hv => ?_⟩
     rcases hv with hv | rfl
     · have h1:wLt ix v u=false:=h.2 v hv
       show wLt ix v w=false
       cases hd:wLt ix v w with
       | false=>rfl
       | true=>rw [wLt_trans ix hd hc] at h1;cases h1
     · exact wLe_refl ix _
   | false =>
     rw [if_neg (by simp)]
     refine ⟨.inl h.1,fun v hv => ?_⟩
     rcases hv with hv | rfl
     · exact h.2 v hv
     · exact hc
end Go.Sim

/-
Ways: the best way, by the program.
-/
-- INJ Leg.row_iff lgs_iff
namespace Go.Sim
open Go Go.Proofs
set_option maxRecDepth 100000
set_option maxHeartbeats 64000000
variable {P:FuncId→Option (List AV→Option AV)}
theorem en185 {P:FuncId→Option (List AV→Option AV)} (hP:P 185=none) {lo:Nat} {args:List AV} {H:Heap} {K:AV→Heap→Prop}:VO (aenter (NC.withPrims P) (R (NC.withPrims P)) lo 185 args H) K=AO (R (NC.withPrims P) (.call H.n 185 args H)) fun o=>K o.val o.s.H:=by
 refine enter_fresh rfl ?_ (by kernel_rfl) (by kernel_rfl) (by kernel_rfl)
 show (match NC.prim 185 with | some p=>some p | none=>P 185)=none
 rw [hP];kernel_rfl
theorem W_assoc {C:Cfg} {lo:Nat} {fid:FuncId} {rnd:Bool} {T:TT AV} {H:Heap} {M:List Nat} {Q:AExit→TT AV→Heap→List Nat→Prop} (a b c:Code):W C lo fid rnd (.seq a (.seq b c)) T H M Q=W C lo fid rnd (.seq (.seq a b) c) T H M Q:=by
 simp only [W_seq]
 refine congrArg (fun q=>W C lo fid rnd a T H M q) ?_
 funext e T H M
 cases e<;>first | rfl | (show W C lo fid rnd (.seq b c) T H M Q=_;rw [W_seq];rfl)
theorem W_cut {C:Cfg} {lo:Nat} {fid:FuncId} {rnd:Bool} {T:TT AV} {H:Heap} {M:List Nat} {Q:AExit→TT AV→Heap→List Nat→Prop} {a b:Code} (I:TT AV→Heap→List Nat→Prop) (h:W C lo fid rnd a T H M fun e T H M=>e=.nrm∧I T H M) (h2:∀ T H M,I T H M→W C lo fid rnd b T H M Q):W C lo fid rnd (.seq a b) T H M Q:=by
 rw [W_seq]
 refine W_mono h fun e T H M hi => ?_
 rw [hi.1]
 exact h2 T H M hi.2
end Go.Sim

/-
Ways: the places are looked at.
-/
-- INJ Leg.row_iff lgs_iff pts_iff
namespace Go.Sim
open Go Go.Proofs
set_option maxRecDepth 100000
set_option maxHeartbeats 64000000
variable {P:FuncId→Option (List AV→Option AV)}
def ptRow (p:Pt):List AV:=[.str p.1,.int .i64 p.2]
theorem ptRow_inj (p q:Pt) (h:ptRow p=ptRow q):p=q:=by
 obtain ⟨a,b⟩:=p
 obtain ⟨c,d⟩:=q
 simp only [ptRow,List.cons.injEq,AV.str.injEq,AV.int.injEq,true_and,and_true] at h
 rw [h.1,h.2]
theorem pts_iff (p q:List Pt):p.map ptRow=q.map ptRow ↔ p=q:=⟨fun h=>map_inj ptRow_inj h,fun h=>by rw [h]⟩
theorem en184 {P:FuncId→Option (List AV→Option AV)} (hP:P 184=none) {lo:Nat} {args:List AV} {H:Heap} {K:AV→Heap→Prop}:VO (aenter (NC.withPrims P) (R (NC.withPrims P)) lo 184 args H) K=AO (R (NC.withPrims P) (.call H.n 184 args H)) fun o=>o.val.strip.pure=true∧K o.val.strip H:=by
 refine enter_pure rfl ?_ (by kernel_rfl) (by kernel_rfl) (by kernel_rfl)
 show (match NC.prim 184 with | some p=>some p | none=>P 184)=none
 rw [hP];kernel_rfl
theorem r184 (h100:P 100=some p100) (n:Net) (hn:n.Ok) (m:List Pt) (lo:Nat) (H:Heap) (hlo:lo≤H.n) (hl:m.length≤maxRows) :
 ∃ t H',R (NC.withPrims P) (.call lo 184 [.ps .unk (m.map ptRow),.fn 100 [.agg n.cells] []] H)=some (.ofVal (.ps t (intRows (m.map fun p=>placeP n p.1 p.2))) H'):=by
 suffices hh:∃ v H',R (NC.withPrims P) (.call lo 184 [.ps .unk (m.map ptRow),.fn 100 [.agg n.cells] []] H)=some (.ofVal v H') ∧ ∃ t,v=.ps t (intRows (m.map fun p=>placeP n p.1 p.2)) by
  obtain ⟨v,H',h1,t,rfl⟩:=hh;exact ⟨t,H',h1⟩
 refine R_of_body (C:=NC.withPrims P) (f:=184) (lo:=lo) (args:=[.ps .unk (m.map ptRow),.fn 100 [.agg n.cells] []]) (H:=H) (fn:=Tryz.f184) (Q:=fun v H'=>∃ t,v=.ps t (intRows (m.map fun p=>placeP n p.1 p.2))) (by kernel_rfl) Tryz.func184 rfl rfl ?_
 have en100:∀ {rec lo args H K},VO (aenter (NC.withPrims P) rec lo 100 args H) K=AO (p100 args) fun v=>K v H:=enter_prim rfl (by show (match NC.prim 100 with | some p=>some p | none=>P 100)=_;rw [h100];kernel_rfl)
 simp only [go_sem,reduceIte,reduceEqDiff,reduceAdd,reduceMul,reduceSub,reduceLeDiff,reduceLT,Nat.reduceBEq,reduceCtorEq]
 refine W_for (fun k T H' M=>M=[]∧getT T 1=.fn 100 [.agg n.cells] []∧getT T 8=.ps .unk (m.map ptRow)∧getT T 9=i64 (m.length:Nat)∧getT T 10=i64 k∧Old H.n H H' ∧ ∃ t,getT T 5=.ps t (intRows ((m.take k).map fun p=>placeP n p.1 p.2))∧AppB H.n H' t (intRows ((m.take k).map fun p=>placeP n p.1 p.2)) 1 33) m.length ?_ ?_ ?_
 · simp only [go_sem,reduceIte,reduceEqDiff,reduceAdd,reduceMul,reduceSub,reduceLeDiff,reduceLT,Nat.reduceBEq,reduceCtorEq,List.length_map];exact ⟨Old.refl H,.nil,rfl,.inl ⟨rfl,rfl⟩⟩
 · rintro k T H' M hk ⟨rfl,g1,g8,g9,g10,hO,t,g5,hA⟩
   obtain ⟨x,hx⟩:∃ p,m[k]? = some p:=⟨m[k],by simp⟩
   have hr:=map_at (f:=ptRow) hx
   have hw:=wrap_succ hk hl
   have htk:intRows ((m.take (k+1)).map fun p=>placeP n p.1 p.2)=intRows ((m.take k).map fun p=>placeP n p.1 p.2)++[[i64 (placeP n x.1 x.2)]]:=by rw [take_map hx];simp [intRows]
   have e100:=pe100 (n,x.1,x.2) hn
   have hlo':lo≤H'.n:=Nat.le_trans hlo hO.1
   obtain ⟨t',H2,ha,hA2,hn2,hO2,_⟩:=app_b (lo:=lo) (hA.new (.cells [.str [],.int .i64 0] 45) (.cells (ptRow x) 45)) (by have:=hO.1;simp;omega) hlo (r:=[i64 (placeP n x.1 x.2)]) (by simp [intRows];omega) rfl (by decide) (intRows_all _)
   have hO1:=hO.new (.cells [.str [],.int .i64 0] 45) (.cells (ptRow x) 45)
   obtain ⟨a,b⟩:=x
   simp only [ptRow] at hr ha hO1
   simp only [Net.cells,i64] at e100
   generalize placeP n a b=E at e100 ha htk hA2
   simp only [go_sem,reduceIte,reduceEqDiff,reduceAdd,reduceMul,reduceSub,reduceLeDiff,reduceLT,Nat.reduceBEq,reduceCtorEq,Net.cells,g1,g8,g9,g10,g5,hk,hr,hw,en100,e100,hO1,hlo',appO,isIntT_slice,rowsIn,ha]
   rw [htk]
   exact ⟨(hO.new _ _).trans hO2 |> fun h=>⟨h.1,h.2⟩,t',rfl,hA2⟩
 · rintro T H' M ⟨rfl,g1,g8,g9,g10,hO,t,g5,hA⟩
   simp only [go_sem,reduceIte,reduceEqDiff,reduceAdd,reduceMul,reduceSub,reduceLeDiff,reduceLT,Nat.reduceBEq,reduceCtorEq,g1,g8,g9,g10,g5,Nat.lt_irrefl,List.take_length]
   exact ⟨t,rfl⟩
def placesP (n:Net) (m:List Pt):Int:=if netP n=0 then firstI (m.map fun p=>placeP n p.1 p.2) else netP n
noncomputable def PPF114:FuncId→Option (List AV→Option AV):=addPrim 111 p111 (addPrim 100 p100 (addPrim 29 p29 (fun _=>none)))
theorem primsF114:PrimsOk NC PPF114:=primsOk_add (primsOk_add (primsOk_add (primsOk_none) (by kernel_rfl) (by kernel_rfl) pok29) (by kernel_rfl) (by kernel_rfl) pok100) (by kernel_rfl) (by kernel_rfl) pok111
theorem enF114_29:En PPF114 29 p29:=enter_prim (by rfl) (by kernel_rfl)
theorem enF114_100:En PPF114 100 p100:=enter_prim (by rfl) (by kernel_rfl)
theorem enF114_111:En PPF114 111 p111:=enter_prim (by rfl) (by kernel_rfl)
attribute [go_sem ↓] enF114_29 enF114_100 enF114_111
theorem c114 (n:Net) (m:List Pt) (hp:n.Ok∧m.length≤maxRows):∀ lo H,CallOk NC lo 114 [.agg n.cells,.ps .unk (m.map ptRow)] H (i64 (placesP n m)) H:=by
 refine contract saneNC primsF114 (fn:=Tryz.f114) (by kernel_rfl) Tryz.func114 rfl rfl (by rfl) (by first | rfl | (split<;>first | rfl | (split<;>rfl))) ?_
 obtain ⟨hn,hl⟩:=hp
 have e29:=pe29 n hn
 have e111:=pe111 (m.map fun p=>placeP n p.1 p.2) (by simpa using hl)
 obtain ⟨tk,H',hr⟩:=r184 (P:=PPF114) rfl n hn m 1 (Heap.empty.push (.cells n.cells 40)) (by simp [empty_n]) hl
 have hsp:placesP n m=if netP n=0 then firstI (m.map fun p=>placeP n p.1 p.2) else netP n:=rfl
 rw [hsp]
 simp only [Net.cells,i64] at e29 hr e111
 rcases Classical.propComplete (netP n=0) with z | z
 case inr=>simp only [go_sem,reduceIte,reduceEqDiff,reduceAdd,reduceMul,reduceSub,reduceLeDiff,reduceLT,Nat.reduceBEq,reduceCtorEq,Net.cells,e29,z]
 simp only [go_sem,reduceIte,reduceEqDiff,reduceAdd,reduceMul,reduceSub,reduceLeDiff,reduceLT,Nat.reduceBEq,reduceCtorEq,Net.cells,e29,z,en184 (show PPF114 184=none from rfl),hr,e111]
noncomputable def p114:List AV→Option AV:=primOf (α:=(Net) × (List Pt)) (fun x=>[.agg x.1.cells,.ps .unk (x.2.map ptRow)]) (fun x=>x.1.Ok∧x.2.length≤maxRows) (fun x=>i64 (placesP x.1 x.2))
theorem pok114:∀ args v,p114 args=some v → ∀ lo H,CallOk NC lo 114 args H v H:=by
 intro args v h
 obtain ⟨x,rfl,hp,rfl⟩:=primOf_inv h
 exact c114 x.1 x.2 hp
theorem pe114 (n:Net) (m:List Pt) (hp:n.Ok∧m.length≤maxRows):p114 [.agg n.cells,.ps .unk (m.map ptRow)]=some (.int .i64 (placesP n m)):=primOf_enc (α:=(Net) × (List Pt)) (enc:=fun x=>[.agg x.1.cells,.ps .unk (x.2.map ptRow)]) (pre:=fun x=>x.1.Ok∧x.2.length≤maxRows) (spec:=fun x=>i64 (placesP x.1 x.2)) (by intro x y h;(simp only [List.cons.injEq,AV.agg.injEq,AV.str.injEq,AV.int.injEq,AV.ps.injEq,AV.bool.injEq,Net.cells_iff,Ln.row_iff,Pc.row_iff,Mv.row_iff,lns_iff,pcs_iff,mvs_iff,Leg.row_iff,lgs_iff,pts_iff,true_and,and_true] at h;first | simpa only [Prod.ext_iff] using h | simpa only [Prod.ext_iff,and_assoc] using h)) (n,m) hp
end Go.Sim

/-
Branches, by the program.
-/
-- INJ Sw.row_iff Br.row_iff
namespace Go.Sim
open Go Go.Proofs
set_option maxRecDepth 100000
set_option maxHeartbeats 16000000
variable {P:FuncId→Option (List AV→Option AV)}
theorem net_sws {n:Net} (h:netP n=0):n.sws.length≤8:=by
 rw [net_same] at h
 unfold netR at h
 by_cases h1:(8:Int) < n.lines.length
 · simp [h1] at h
 · simp only [h1,if_false] at h
   split at h
   · by_cases h2:(8:Int) < n.sws.length
     · simp [h2] at h
     · omega
   · rename_i h3;exact absurd h h3
end Go.Sim

/-
Ways: what a valid network holds to.
-/
namespace Go.Sim
open Go Go.Proofs
set_option maxRecDepth 100000
set_option maxHeartbeats 4000000
theorem firstI_mem0:∀ {es:List Int},firstI es=0 → ∀ e ∈ es,e=0
 | [],_,e,he=>by cases he
 | x::r,h,e,he=>by
   have h':(if x=0 then firstI r else x)=0:=h
   by_cases hx:x=0
   · rw [if_pos hx] at h'
     rcases List.mem_cons.1 he with rfl | he
     · exact hx
     · exact firstI_mem0 h' e he
   · rw [if_neg hx] at h';exact absurd h' hx
theorem allR_mem0 {f:Nat→Int} {n:Nat} (h:allR f n=0):∀ i,i < n→f i=0:=fun i hi=>firstI_mem0 h _ (List.mem_map.2 ⟨i,List.mem_range.2 hi,rfl⟩)
theorem when_zero {b:Bool} {e:Int} (he:e ≠ 0) (h:whenI b e=0):b=false:=by
 cases b with
 | false=>rfl
 | true=>exact absurd h he
theorem netP_parts {n:Net} (h:netP n=0):linesP n.lines=0∧switchesP n=0:=by
 unfold netP at h
 by_cases hl:linesP n.lines=0
 · rw [if_pos hl] at h
   exact ⟨hl,firstI_mem0 h _ (by simp)⟩
 · rw [if_neg hl] at h;exact absurd h hl
theorem line_zero {ls:List Ln} (h:linesP ls=0):∀ i l,ls[i]? = some l→dupP ((ls.take i).map Ln.name) l.name=false∧0 < l.ps.length∧l.ps.length≤8 ∧ ∀ p ∈ l.ps,1≤p.len∧p.len≤100000:=by
 intro i l hl
 unfold linesP at h
 split at h
 · cases h
 have hi:=(List.getElem?_eq_some_iff.1 hl).1
 have h1:=allR_mem0 h i hi
 unfold lineP at h1
 rw [hl] at h1
 simp only [] at h1
 split at h1
 · rename_i h2
   have z:=firstI_mem0 h2
   have z1:=when_zero (by decide) (z _ (List.mem_cons_of_mem _ (List.mem_cons_self ..)))
   have z2:=when_zero (by decide) (z _ (List.mem_cons_of_mem _ (List.mem_cons_of_mem _ (List.mem_cons_self ..))))
   have z3:=when_zero (by decide) (z _ (List.mem_cons_of_mem _ (List.mem_cons_of_mem _ (List.mem_cons_of_mem _ (List.mem_cons_self ..)))))
   simp only [decide_eq_false_iff_not] at z2 z3
   refine ⟨z1,by omega,by omega,fun p hp => ?_⟩
   have z4:=firstI_mem0 (firstI_mem0 h1 _ (List.mem_map.2 ⟨p,hp,rfl⟩)) (rangeI p.len 1 100000) (by simp)
   have z5:=when_zero (by decide) z4
   simp only [Bool.or_eq_false_iff,decide_eq_false_iff_not] at z5
   omega
 · rename_i h2;exact absurd h1 h2
theorem sumW_le:∀ {ps:List Pc} {s:Int},(∀ p ∈ ps,1≤p.len∧p.len≤100000)→0≤s→s+100000 * ps.length≤800000→s+ps.length≤sumW ps s∧sumW ps s≤800000
 | [],s,_,_,_=>by simp [sumW];omega
 | p::r,s,h,h0,h8=>by
   have hp:=h p (by simp)
   have hc:((p::r).length:Int)=(r.length:Int)+1:=by simp
   rw [hc] at h8 ⊢
   have e:wrapq .i64 (Int.add s p.len)=s+p.len:=wrapq_i64 (by show _≤s+p.len;omega) (by show s+p.len≤_;omega)
   show _≤sumW r (wrapq .i64 (Int.add s p.len))∧sumW r (wrapq .i64 (Int.add s p.len))≤_
   rw [e]
   have:=sumW_le (ps:=r) (s:=s+p.len) (fun q hq=>h q (by simp [hq])) (by omega) (by omega)
   omega
theorem lnB_some {ls:List Ln} {s:List Nat} (h:lnB ls s=true):∃ i l,findL ls s=some i∧ls[i]? = some l∧l ∈ ls∧lnOf ls s=l:=by
 unfold lnB at h
 cases hf:findL ls s with
 | none=>rw [hf] at h;cases h
 | some i =>
   obtain ⟨l,h1,h2,h3⟩:=findL_at hf
   refine ⟨i,l,rfl,h1,h3, ?_⟩
   unfold lnOf
   rw [hf]
   simp [h1]
theorem len_in {n:Net} (h:netP n=0) {s:List Nat} (hb:lnB n.lines s=true):1≤sumW (lnOf n.lines s).ps 0∧sumW (lnOf n.lines s).ps 0≤800000:=by
 obtain ⟨i,l,h1,h2,h3,h4⟩:=lnB_some hb
 rw [h4]
 obtain ⟨_,z2,z3,z4⟩:=line_zero (netP_parts h).1 i l h2
 have:=sumW_le (ps:=l.ps) (s:=0) z4 (by omega) (by omega)
 omega
theorem has_in {n:Net} (h:netP n=0) {s:List Nat} {m:Int} (hb:lnB n.lines s=true) (hm:hasB (lnOf n.lines s) m=true):inR m:=by
 have:=len_in h hb
 unfold hasB at hm
 simp only [Bool.and_eq_true,Bool.not_eq_true',decide_eq_false_iff_not,decide_eq_true_eq] at hm
 exact ⟨by omega,by omega⟩
theorem place_in {n:Net} (h:netP n=0) {s:List Nat} {m:Int} (hp:placeP n s m=0):lnB n.lines s=true∧inR m:=by
 unfold placeP at hp
 have z1:=when_zero (by decide) (firstI_mem0 hp _ (List.mem_cons_self ..))
 have z2:=when_zero (by decide) (firstI_mem0 hp _ (List.mem_cons_of_mem _ (List.mem_cons_self ..)))
 simp only [Bool.not_eq_false'] at z1 z2
 exact ⟨z1,has_in h z1 z2⟩
theorem sw_zero {n:Net} (h:netP n=0):∀ s ∈ n.sws,lnB n.lines s.line=true∧hasB (lnOf n.lines s.line) s.metre=true∧lnB n.lines s.other=true∧beqL s.line s.other=false:=by
 intro s hs
 obtain ⟨i,hi⟩:=List.getElem?_of_mem hs
 have h2:=(netP_parts h).2
 unfold switchesP at h2
 split at h2
 · cases h2
 have h1:=allR_mem0 h2 i (List.getElem?_eq_some_iff.1 hi).1
 unfold switchP at h1
 rw [hi] at h1
 simp only [] at h1
 have z:=firstI_mem0 h1
 have z1:=when_zero (by decide) (z (whenI (!lnB n.lines s.line) 10) (by simp))
 have z2:=when_zero (by decide) (z (whenI (!hasB (lnOf n.lines s.line) s.metre) 14) (by simp))
 have z3:=when_zero (by decide) (z (whenI (!lnB n.lines s.other) 10) (by simp))
 have z4:=when_zero (by decide) (z (whenI (beqL s.line s.other) 24) (by simp))
 simp only [Bool.not_eq_false'] at z1 z2 z3
 exact ⟨z1,z2,z3,z4⟩
theorem ends_in {n:Net} (h:netP n=0):∀ i k,i < n.sws.length→lnB n.lines (endE n i k).1=true∧inR (endE n i k).2:=by
 intro i k hi
 obtain ⟨z1,z2,z3,_⟩:=sw_zero h _ (List.getElem_mem hi)
 have e:endE n i k=if k then (n.sws[i].other,endM n n.sws[i]) else (n.sws[i].line,n.sws[i].metre):=by
  unfold endE
  rw [List.getElem?_eq_getElem hi]
 rw [e]
 cases k with
 | false=>exact ⟨z1,has_in h z1 z2⟩
 | true =>
   refine ⟨z3, ?_⟩
   have hl:=len_in h z3
   show inR (endM n n.sws[i])
   unfold endM
   split
   · have e1:Int.sub (sumW (lnOf n.lines n.sws[i].other).ps 0) 1=sumW (lnOf n.lines n.sws[i].other).ps 0 - 1:=rfl
     have e2:wrapq .i64 (Int.sub (sumW (lnOf n.lines n.sws[i].other).ps 0) 1)=sumW (lnOf n.lines n.sws[i].other).ps 0 - 1:=wrapq_i64 (by rw [e1];omega) (by rw [e1];omega)
     rw [e2];exact ⟨by omega,by omega⟩
   · exact ⟨by omega,by omega⟩
theorem findI_inj {n:Net} (_:netP n=0):∀ a b,lnB n.lines a=true→lnB n.lines b=true→findI n.lines a=findI n.lines b→a=b:=by
 intro a b ha hb h
 obtain ⟨i,l,h1,h2,h3,h4⟩:=lnB_some ha
 obtain ⟨j,m,g1,g2,g3,g4⟩:=lnB_some hb
 unfold findI at h
 rw [h1,g1] at h
 have hij:i=j:=by simp only [] at h;omega
 subst hij
 rw [h2] at g2;cases g2
 have e1:beqL l.name a=true:=by
  unfold findL at h1
  rw [List.findIdx?_eq_some_iff_getElem] at h1
  obtain ⟨hlt,h5,_⟩:=h1
  rw [(List.getElem?_eq_some_iff.1 h2).2] at h5;exact h5
 have e2:beqL l.name b=true:=by
  unfold findL at g1
  rw [List.findIdx?_eq_some_iff_getElem] at g1
  obtain ⟨hlt,h5,_⟩:=g1
  rw [(List.getElem?_eq_some_iff.1 h2).2] at h5;exact h5
 rw [← (beqL_iff _ _).1 e1,(beqL_iff _ _).1 e2]
/-! ### The best way -/
noncomputable def bestO (n:Net) (a b:Pt):Option (List Leg):=open Classical in if h:∃ w,Best (endE n) n.sws.length (findI n.lines) a b w then some h.choose else none
theorem bestO_of {n:Net} (h:netP n=0) {a b:Pt} (ha:lnB n.lines a.1=true) {s:Option (List Leg)} (hs:match s with
 | none=>∀ w,¬ isWay (endE n) n.sws.length a b w
 | some w=>Best (endE n) n.sws.length (findI n.lines) a b w):s=bestO n a b:=by
 unfold bestO
 cases s with
 | none =>
   rw [dif_neg]
   rintro ⟨w,hw⟩
   exact hs w hw.way
 | some w =>
   have hex:∃ w,Best (endE n) n.sws.length (findI n.lines) a b w:=⟨w,hs⟩
   rw [dif_pos hex]
   exact congrArg some (Best.uniq (S:=fun s=>lnB n.lines s=true) (findI_inj h) (fun i k hi=>(ends_in h i k hi).1) ha hs hex.choose_spec)
end Go.Sim

/-
Ways: Way, by the program.
-/
-- INJ Leg.row_iff lgs_iff pts_iff ptr_iff
namespace Go.Sim
open Go Go.Proofs
set_option maxRecDepth 100000
set_option maxHeartbeats 64000000
variable {P:FuncId→Option (List AV→Option AV)}
theorem ptr_iff (p q:Pt):ptRow p=ptRow q ↔ p=q:=⟨ptRow_inj p q,fun h=>by rw [h]⟩
theorem places_zero {n:Net} {m:List Pt} (h:placesP n m=0):netP n=0 ∧ ∀ p ∈ m,placeP n p.1 p.2=0:=by
 unfold placesP at h
 by_cases hn:netP n=0
 · rw [if_pos hn] at h
   exact ⟨hn,fun p hp=>firstI_mem0 h _ (List.mem_map.2 ⟨p,hp,rfl⟩)⟩
 · rw [if_neg hn] at h;exact absurd h hn
end Go.Sim

/-
Ways, by the reference: lengths and the order.
-/
-- INJ Leg.row_iff lgs_iff
namespace Go.Sim
open Go Go.Proofs
set_option maxRecDepth 100000
set_option maxHeartbeats 16000000
def absR (x:Int):Int:=maxI x (wrapq .i64 (Int.sub 0 x))
noncomputable def PPF150:FuncId→Option (List AV→Option AV):=fun _=>none
theorem primsF150:PrimsOk NC PPF150:=primsOk_none
theorem c150 (x:Int):∀ lo H,CallOk NC lo 150 [i64 x] H (i64 (absR x)) H:=by
 refine contract saneNC primsF150 (fn:=Tryz.f150) (by kernel_rfl) Tryz.func150 rfl rfl (by rfl) (by first | rfl | (split<;>first | rfl | (split<;>rfl))) ?_
 simp only [go_sem,reduceIte,reduceEqDiff,reduceAdd,reduceMul,reduceSub,reduceLeDiff,reduceLT,Nat.reduceBEq,reduceCtorEq]
 rfl
noncomputable def p150:List AV→Option AV:=primOf (α:=(Int)) (fun x=>[i64 x]) (fun x=>True) (fun x=>i64 (absR x))
theorem pok150:∀ args v,p150 args=some v → ∀ lo H,CallOk NC lo 150 args H v H:=by
 intro args v h
 obtain ⟨x,rfl,hp,rfl⟩:=primOf_inv h
 exact c150 x
theorem pe150 (x:Int):p150 [.int .i64 x]=some (.int .i64 (absR x)):=primOf_enc (α:=(Int)) (enc:=fun x=>[i64 x]) (pre:=fun x=>True) (spec:=fun x=>i64 (absR x)) (by intro x y h;(simp only [List.cons.injEq,AV.agg.injEq,AV.str.injEq,AV.int.injEq,AV.ps.injEq,AV.bool.injEq,Net.cells_iff,Ln.row_iff,Pc.row_iff,Mv.row_iff,lns_iff,pcs_iff,mvs_iff,Leg.row_iff,lgs_iff,true_and,and_true] at h;first | simpa only [Prod.ext_iff] using h | simpa only [Prod.ext_iff,and_assoc] using h)) x trivial
def sumR:List Leg→Int→Int
 | [],s=>s
 | l::r,s=>sumR r (wrapq .i64 (Int.add s (absR (wrapq .i64 (Int.sub l.to l.fr)))))
noncomputable def PPF77:FuncId→Option (List AV→Option AV):=addPrim 150 p150 (fun _=>none)
theorem primsF77:PrimsOk NC PPF77:=primsOk_add (primsOk_none) (by kernel_rfl) (by kernel_rfl) pok150
theorem enF77_150:En PPF77 150 p150:=enter_prim (by rfl) (by kernel_rfl)
attribute [go_sem ↓] enF77_150
theorem c77 (w:List Leg) (hp:w.length≤maxRows):∀ lo H,CallOk NC lo 77 [.ps .unk (w.map Leg.row)] H (i64 (sumR w 0)) H:=by
 refine contract saneNC primsF77 (fn:=Tryz.f77) (by kernel_rfl) Tryz.func77 rfl rfl (by rfl) (by first | rfl | (split<;>first | rfl | (split<;>rfl))) ?_
 simp only [go_sem,reduceIte,reduceEqDiff,reduceAdd,reduceMul,reduceSub,reduceLeDiff,reduceLT,Nat.reduceBEq,reduceCtorEq]
 refine W_for (fun k T H M=>M=[]∧getT T 0=.ps .unk (w.map Leg.row)∧getT T 4=i64 k ∧ ∃ s,getT T 3=i64 s∧sumR w 0=sumR (w.drop k) s) w.length ?_ ?_ ?_
 · simp only [go_sem,reduceIte,reduceEqDiff,reduceAdd,reduceMul,reduceSub,reduceLeDiff,reduceLT,Nat.reduceBEq,reduceCtorEq];exact ⟨0,rfl,rfl⟩
 · rintro k T H M hk ⟨rfl,h0,h4,s,h3,hs⟩
   obtain ⟨l,hl⟩:∃ p,w[k]? = some p:=⟨w[k],by simp⟩
   have hr:=map_at (f:=Leg.row) hl
   have hw:=wrap_succ hk hp
   rw [drop_at hl] at hs
   obtain ⟨l1,l2,l3⟩:=l
   have e150:=pe150 (wrapq .i64 (Int.sub l3 l2))
   simp only [Leg.row] at hr
   simp only [go_sem,reduceIte,reduceEqDiff,reduceAdd,reduceMul,reduceSub,reduceLeDiff,reduceLT,Nat.reduceBEq,reduceCtorEq,h0,h3,h4,List.length_map,Int.ofNat_lt,hk,hr,hw,e150]
   exact ⟨_,rfl,hs⟩
 · rintro T H M ⟨rfl,h0,h4,s,h3,hs⟩
   simp only [go_sem,reduceIte,reduceEqDiff,reduceAdd,reduceMul,reduceSub,reduceLeDiff,reduceLT,Nat.reduceBEq,reduceCtorEq,h0,h3,h4,List.length_map,Int.ofNat_lt,Nat.lt_irrefl]
   simp [hs,sumR]
noncomputable def p77:List AV→Option AV:=primOf (α:=(List Leg)) (fun x=>[.ps .unk (x.map Leg.row)]) (fun x=>x.length≤maxRows) (fun x=>i64 (sumR x 0))
theorem pok77:∀ args v,p77 args=some v → ∀ lo H,CallOk NC lo 77 args H v H:=by
 intro args v h
 obtain ⟨x,rfl,hp,rfl⟩:=primOf_inv h
 exact c77 x hp
theorem pe77 (w:List Leg) (hp:w.length≤maxRows):p77 [.ps .unk (w.map Leg.row)]=some (.int .i64 (sumR w 0)):=primOf_enc (α:=(List Leg)) (enc:=fun x=>[.ps .unk (x.map Leg.row)]) (pre:=fun x=>x.length≤maxRows) (spec:=fun x=>i64 (sumR x 0)) (by intro x y h;(simp only [List.cons.injEq,AV.agg.injEq,AV.str.injEq,AV.int.injEq,AV.ps.injEq,AV.bool.injEq,Net.cells_iff,Ln.row_iff,Pc.row_iff,Mv.row_iff,lns_iff,pcs_iff,mvs_iff,Leg.row_iff,lgs_iff,true_and,and_true] at h;first | simpa only [Prod.ext_iff] using h | simpa only [Prod.ext_iff,and_assoc] using h)) w hp
def lexR (n:Net):List Leg→List Leg→Bool
 | x::r,y::t=>if beqL x.line y.line then (if x.fr=y.fr then (if x.to=y.to then lexR n r t else decide (x.to < y.to)) else decide (x.fr < y.fr)) else decide (findI n.lines x.line < findI n.lines y.line)
 | _,_=>false
def lessR (n:Net) (a b:List Leg):Bool:=if sumR a 0=sumR b 0 then (if a.length=b.length then lexR n a b else decide (a.length < b.length)) else decide (sumR a 0 < sumR b 0)
noncomputable def PPF148:FuncId→Option (List AV→Option AV):=addPrim 27 p27 (addPrim 77 p77 (fun _=>none))
theorem primsF148:PrimsOk NC PPF148:=primsOk_add (primsOk_add (primsOk_none) (by kernel_rfl) (by kernel_rfl) pok77) (by kernel_rfl) (by kernel_rfl) pok27
theorem enF148_77:En PPF148 77 p77:=enter_prim (by rfl) (by kernel_rfl)
theorem enF148_27:En PPF148 27 p27:=enter_prim (by rfl) (by kernel_rfl)
attribute [go_sem ↓] enF148_77 enF148_27
theorem c148 (n:Net) (a b:List Leg) (hp:n.lines.length≤maxRows∧a.length≤maxRows∧b.length≤maxRows):∀ lo H,CallOk NC lo 148 [.agg n.cells,.ps .unk (a.map Leg.row),.ps .unk (b.map Leg.row)] H (.bool (lessR n a b)) H:=by
 refine contract saneNC primsF148 (fn:=Tryz.f148) (by kernel_rfl) Tryz.func148 rfl rfl (by rfl) (by first | rfl | (split<;>first | rfl | (split<;>rfl))) ?_
 obtain ⟨hn,ha,hb⟩:=hp
 have ea:=pe77 a ha
 have eb:=pe77 b hb
 unfold lessR
 generalize sumR a 0=A at ea ⊢
 generalize sumR b 0=B at eb ⊢
 rcases Classical.propComplete (A=B) with z | z
 case inr =>
  rcases Classical.propComplete (A < B) with y | y
  · simp only [go_sem,reduceIte,reduceEqDiff,reduceAdd,reduceMul,reduceSub,reduceLeDiff,reduceLT,Nat.reduceBEq,reduceCtorEq,Net.cells,ea,eb,z,y,decide_true]
  · simp only [go_sem,reduceIte,reduceEqDiff,reduceAdd,reduceMul,reduceSub,reduceLeDiff,reduceLT,Nat.reduceBEq,reduceCtorEq,Net.cells,ea,eb,z,y,decide_false]
 rcases Classical.em (a.length=b.length) with q | q
 case inr =>
  have q':((a.length:Int)=(b.length:Int))=False:=by simp only [eq_iff_iff,iff_false];omega
  rcases Classical.em (a.length < b.length) with y | y
  · have y':((a.length:Int) < (b.length:Int))=True:=by simp only [eq_iff_iff,iff_true];omega
    simp only [go_sem,reduceIte,reduceEqDiff,reduceAdd,reduceMul,reduceSub,reduceLeDiff,reduceLT,Nat.reduceBEq,reduceCtorEq,Net.cells,ea,eb,z,q,y,q',y',List.length_map,decide_true]
  · have y':((a.length:Int) < (b.length:Int))=False:=by simp only [eq_iff_iff,iff_false];omega
    simp only [go_sem,reduceIte,reduceEqDiff,reduceAdd,reduceMul,reduceSub,reduceLeDiff,reduceLT,Nat.reduceBEq,reduceCtorEq,Net.cells,ea,eb,z,q,y,q',y',List.length_map,decide_false]
 have q':((a.length:Int)=(b.length:Int))=True:=by simp only [eq_iff_iff,iff_true];omega
 rw [if_pos (of_eq_true z),if_pos q]
 simp only [go_sem,reduceIte,reduceEqDiff,reduceAdd,reduceMul,reduceSub,reduceLeDiff,reduceLT,Nat.reduceBEq,reduceCtorEq,Net.cells,ea,eb,z,q',List.length_map]
 refine W_for (fun k T H M=>M=[]∧getT T 1=.ps .unk (a.map Leg.row)∧getT T 2=.ps .unk (b.map Leg.row)∧getT T 3=.ptr 0 0∧H.get 0=.cells n.cells 26∧getT T 7=i64 k∧lexR n a b=lexR n (a.drop k) (b.drop k)) a.length ?_ ?_ ?_
 · simp only [go_sem,reduceIte,reduceEqDiff,reduceAdd,reduceMul,reduceSub,reduceLeDiff,reduceLT,Nat.reduceBEq,reduceCtorEq,Net.cells]
 · rintro k T H M hk ⟨rfl,h1,h2,h3,hH,h7,hs⟩
   obtain ⟨x,hx⟩:∃ p,a[k]? = some p:=⟨a[k],by simp⟩
   obtain ⟨y,hy⟩:∃ p,b[k]? = some p:=⟨b[k],by simp⟩
   have hr:=map_at (f:=Leg.row) hx
   have hr2:=map_at (f:=Leg.row) hy
   have hw:=wrap_succ hk ha
   rw [drop_at hx,drop_at hy] at hs
   have hs':lexR n a b=if beqL x.line y.line then (if x.fr=y.fr then (if x.to=y.to then lexR n (a.drop (k+1)) (b.drop (k+1)) else decide (x.to < y.to)) else decide (x.fr < y.fr)) else decide (findI n.lines x.line < findI n.lines y.line):=by rw [hs];rfl
   rw [hs']
   clear hs
   have e1:=pe27 (n,x.line) hn
   have e2:=pe27 (n,y.line) hn
   obtain ⟨l1,l2,l3⟩:=x
   obtain ⟨m1,m2,m3⟩:=y
   simp only [Leg.row,Net.cells,i64] at hr hr2 hH e1 e2
   generalize findI n.lines l1=I at e1 hs' ⊢
   generalize findI n.lines m1=J at e2 hs' ⊢
   have hbk:k < b.length:=by omega
   cases hB:beqL l1 m1 with
   | false =>
     rcases Classical.propComplete (I < J) with y | y<;>simp only [go_sem,reduceIte,reduceEqDiff,reduceAdd,reduceMul,reduceSub,reduceLeDiff,reduceLT,Nat.reduceBEq,reduceCtorEq,Net.cells,h1,h2,h3,hH,h7,List.length_map,Int.ofNat_lt,hk,hbk,hr,hr2,hw,hB,e1,e2,y,decide_true,decide_false,Bool.false_eq_true,if_false]
   | true =>
     rcases Classical.propComplete (l2=m2) with z2 | z2
     case inr =>
      rcases Classical.propComplete (l2 < m2) with y | y<;>simp only [go_sem,reduceIte,reduceEqDiff,reduceAdd,reduceMul,reduceSub,reduceLeDiff,reduceLT,Nat.reduceBEq,reduceCtorEq,Net.cells,h1,h2,h3,hH,h7,List.length_map,Int.ofNat_lt,hk,hbk,hr,hr2,hw,hB,z2,y,decide_true,decide_false,if_true,if_false]
     rcases Classical.propComplete (l3=m3) with z3 | z3
     case inr =>
      rcases Classical.propComplete (l3 < m3) with y | y<;>simp only [go_sem,reduceIte,reduceEqDiff,reduceAdd,reduceMul,reduceSub,reduceLeDiff,reduceLT,Nat.reduceBEq,reduceCtorEq,Net.cells,h1,h2,h3,hH,h7,List.length_map,Int.ofNat_lt,hk,hbk,hr,hr2,hw,hB,z2,z3,y,decide_true,decide_false,if_true,if_false]
     simp only [go_sem,reduceIte,reduceEqDiff,reduceAdd,reduceMul,reduceSub,reduceLeDiff,reduceLT,Nat.reduceBEq,reduceCtorEq,Net.cells,h1,h2,h3,hH,h7,List.length_map,Int.ofNat_lt,hk,hbk,hr,hr2,hw,hB,z2,z3,if_true]
 · rintro T H M ⟨rfl,h1,h2,h3,hH,h7,hs⟩
   have he:lexR n a b=false:=by
    rw [hs,List.drop_of_length_le (Nat.le_refl _)];rfl
   rw [he]
   simp only [go_sem,reduceIte,reduceEqDiff,reduceAdd,reduceMul,reduceSub,reduceLeDiff,reduceLT,Nat.reduceBEq,reduceCtorEq,h1,h2,h3,h7,List.length_map,Int.ofNat_lt,Nat.lt_irrefl]
noncomputable def p148:List AV→Option AV:=primOf (α:=(Net) × (List Leg) × (List Leg)) (fun x=>[.agg x.1.cells,.ps .unk (x.2.1.map Leg.row),.ps .unk (x.2.2.map Leg.row)]) (fun x=>x.1.lines.length≤maxRows∧x.2.1.length≤maxRows∧x.2.2.length≤maxRows) (fun x=>.bool (lessR x.1 x.2.1 x.2.2))
theorem pok148:∀ args v,p148 args=some v → ∀ lo H,CallOk NC lo 148 args H v H:=by
 intro args v h
 obtain ⟨x,rfl,hp,rfl⟩:=primOf_inv h
 exact c148 x.1 x.2.1 x.2.2 hp
theorem pe148 (n:Net) (a b:List Leg) (hp:n.lines.length≤maxRows∧a.length≤maxRows∧b.length≤maxRows):p148 [.agg n.cells,.ps .unk (a.map Leg.row),.ps .unk (b.map Leg.row)]=some (.bool (lessR n a b)):=primOf_enc (α:=(Net) × (List Leg) × (List Leg)) (enc:=fun x=>[.agg x.1.cells,.ps .unk (x.2.1.map Leg.row),.ps .unk (x.2.2.map Leg.row)]) (pre:=fun x=>x.1.lines.length≤maxRows∧x.2.1.length≤maxRows∧x.2.2.length≤maxRows) (spec:=fun x=>.bool (lessR x.1 x.2.1 x.2.2)) (by intro x y h;(simp only [List.cons.injEq,AV.agg.injEq,AV.str.injEq,AV.int.injEq,AV.ps.injEq,AV.bool.injEq,Net.cells_iff,Ln.row_iff,Pc.row_iff,Mv.row_iff,lns_iff,pcs_iff,mvs_iff,Leg.row_iff,lgs_iff,true_and,and_true] at h;first | simpa only [Prod.ext_iff] using h | simpa only [Prod.ext_iff,and_assoc] using h)) (n,a,b) hp
end Go.Sim

/-
Ways, by the reference: all ways that use no switch twice.
-/
namespace Go.Sim
open Go Go.Proofs
set_option maxRecDepth 100000
set_option maxHeartbeats 4000000
section
variable (E:Nat→Bool→Pt) (N:Nat) (b:Pt)
def waysL:Nat→List Leg→Pt→List Bool→List (List Leg)
 | 0,_,_,_=>[]
 | n+1,w,a,used=>(if a.1=b.1 then [w++[⟨a.1,a.2,b.2⟩]] else [])++(List.range N).flatMap fun i=>[false,true].flatMap fun k=>if used.getD i true=true∨(E i k).1 ≠ a.1 then [] else waysL n (w++[⟨a.1,a.2,(E i k).2⟩]) (E i (!k)) (used.set i true)
theorem waysL_sound:∀ (n:Nat) (w:List Leg) (a:Pt) (used:List Bool) (v:List Leg),v ∈ waysL E N b n w a used → ∃ σ,okS E N a σ b∧v=w++legsOf E a σ b
 | 0,_,_,_,_,h=>by cases h
 | n+1,w,a,used,v,h=>by
   unfold waysL at h
   rcases List.mem_append.1 h with h | h
   · split at h
     · rename_i hab
       rw [List.mem_singleton.1 h]
       exact ⟨[],hab,by show _=w++[_];rw [hab]⟩
     · cases h
   · obtain ⟨i,hi,h⟩:=List.mem_flatMap.1 h
     obtain ⟨k,_,h⟩:=List.mem_flatMap.1 h
     split at h
     · cases h
     · rename_i hc
       have hE:(E i k).1=a.1:=Classical.byContradiction fun q=>hc (.inr q)
       obtain ⟨σ,s1,rfl⟩:=waysL_sound n _ _ _ _ h
       refine ⟨(i,k)::σ,⟨List.mem_range.1 hi,hE,s1⟩, ?_⟩
       rw [List.append_assoc]
       rfl
theorem waysL_all:∀ (n:Nat) (w:List Leg) (a:Pt) (used:List Bool) (σ:List Stp),okS E N a σ b→(σ.map Prod.fst).Nodup→(∀ s ∈ σ,used.getD s.1 true=false)→σ.length < n→w++legsOf E a σ b ∈ waysL E N b n w a used
 | 0,_,_,_,_,_,_,_,h=>absurd h (Nat.not_lt_zero _)
 | n+1,w,a,used,σ,h,hd,hu,hl=>by
   unfold waysL
   cases σ with
   | nil =>
     refine List.mem_append.2 (.inl ?_)
     have hab:a.1=b.1:=h
     rw [if_pos hab]
     refine List.mem_singleton.2 ?_
     show w++[_]=_
     rw [hab]
   | cons s r =>
     refine List.mem_append.2 (.inr ?_)
     obtain ⟨i,k⟩:=s
     obtain ⟨h1,h2,h3⟩:=h
     refine List.mem_flatMap.2 ⟨i,List.mem_range.2 h1,List.mem_flatMap.2 ⟨k,by cases k<;>simp, ?_⟩⟩
     have hui:=hu (i,k) (by simp)
     simp only at hui
     rw [if_neg (by rintro (q | q);· rw [hui] at q;cases q
                    · exact q h2)]
     have:=waysL_all n (w++[⟨a.1,a.2,(E i k).2⟩]) (E i (!k)) (used.set i true) r h3 (by simp only [List.map_cons,List.nodup_cons] at hd;exact hd.2) (by
      intro s hs
      have hne:s.1 ≠ i:=by
       simp only [List.map_cons,List.nodup_cons] at hd
       intro q
       exact hd.1 (by rw [← q];exact List.mem_map.2 ⟨s,hs,rfl⟩)
      have:=hu s (by simp [hs])
      rw [List.getD_eq_getElem?_getD,List.getElem?_set_ne (Ne.symm hne),← List.getD_eq_getElem?_getD];exact this) (by simpa using hl)
     rw [List.append_assoc] at this
     have e:legsOf E a ((i,k)::r) b=[⟨a.1,a.2,(E i k).2⟩]++legsOf E (E i (!k)) r b:=by
      show _::_=_::_
      first | rfl | rw [h2];rfl
     rw [e];exact this
end
theorem fold_inv {ix:List Nat→Int}:∀ (l:List (List Leg)) {Q:List Leg→Prop} {s:Option (List Leg)},InvW ix Q s→InvW ix (fun v=>Q v∨v ∈ l) (l.foldl (takeW ix) s)
 | [],Q,s,h=>h.congr fun v=>⟨.inl,fun x=>x.elim id fun y=>by cases y⟩
 | x::r,Q,s,h=>(fold_inv r (takeW_inv h x)).congr fun v=>by
   rw [List.mem_cons]
   exact or_assoc
theorem waysL_best {E:Nat→Bool→Pt} {N:Nat} {ix:List Nat→Int} {S:List Nat→Prop} (inj:∀ a b,S a→S b→ix a=ix b→a=b) (hS:∀ i k,i < N→S (E i k).1) {a b:Pt} (ha:S a.1) :
 match (waysL E N b (N+1) [] a (List.replicate N false)).foldl (takeW ix) none with
 | none=>∀ w,¬ isWay E N a b w
 | some w=>Best E N ix a b w:=by
 have hi:=fold_inv (ix:=ix) (waysL E N b (N+1) [] a (List.replicate N false)) (Q:=fun _=>False) (s:=none) (fun v h=>h)
 have hall:∀ σ,okS E N a σ b → ∃ τ,okS E N a τ b∧legsOf E a τ b ∈ waysL E N b (N+1) [] a (List.replicate N false)∧wLe ix (legsOf E a τ b) (legsOf E a σ b):=by
  intro σ hσ
  obtain ⟨τ,t1,t2,t3⟩:=cut_all E N σ.length (Nat.le_refl _) hσ
  have hlt:∀ s ∈ τ,s.1 < N:=okS_lt E N t1
  have hlen:τ.length≤N:=simple_few t1 t2
  refine ⟨τ,t1, ?_, ?_⟩
  · have:=waysL_all E N b (N+1) [] a (List.replicate N false) τ t1 t2 (fun s hs=>by rw [List.getD_eq_getElem?_getD,List.getElem?_replicate,if_pos (hlt s hs)];rfl) (by omega)
    rwa [List.nil_append] at this
  · rcases t3 with rfl | ⟨t3,t4⟩
    · exact wLe_refl ix _
    · exact wLt_le ix (wLt_short ix t4 (by rw [legsOf_length,legsOf_length];omega))
 cases hw:(waysL E N b (N+1) [] a (List.replicate N false)).foldl (takeW ix) none with
 | none =>
   rw [hw] at hi
   rintro w ⟨σ,s1,_⟩
   obtain ⟨τ,_,t2,_⟩:=hall σ s1
   exact hi _ (.inr t2)
 | some w =>
   rw [hw] at hi
   obtain ⟨hm,hl⟩:=hi
   have hm:=hm.resolve_left id
   obtain ⟨ρ,r1,r2⟩:=waysL_sound E N b _ _ _ _ _ hm
   rw [List.nil_append] at r2
   refine ⟨⟨ρ,r1,r2⟩,fun σ hσ => ?_⟩
   obtain ⟨τ,t1,t2,t3⟩:=hall σ hσ
   refine wLe_trans ix inj ?_ ?_ (hl _ (.inr t2)) t3
   · rw [r2];exact legsOf_knownL hS ha r1
   · exact legsOf_knownL hS ha t1
end Go.Sim

/-
Distances on a line; stretches; the least of many: plain laws.
-/
namespace Go.Sim
set_option maxHeartbeats 1000000
/-! ### Spans -/
abbrev Spn:Type:=Int × Int
def memS (l:List Spn) (x:Int):Prop:=∃ s ∈ l,s.1≤x∧x < s.2
def SepA:Int→List Spn→Prop
 | _,[]=>True
 | lo,s::r=>lo < s.1∧s.1 < s.2∧SepA s.2 r
theorem memS_nil (x:Int):¬ memS [] x:=by rintro ⟨s,hs,_⟩;cases hs
theorem memS_cons (s:Spn) (r:List Spn) (x:Int):memS (s::r) x ↔ (s.1≤x∧x < s.2)∨memS r x:=by
 constructor
 · rintro ⟨t,ht,h⟩
   rcases List.mem_cons.1 ht with rfl | ht
   · exact .inl h
   · exact .inr ⟨t,ht,h⟩
 · rintro (h | ⟨t,ht,h⟩)
   · exact ⟨s,by simp,h⟩
   · exact ⟨t,by simp [ht],h⟩
theorem memS_append (a b:List Spn) (x:Int):memS (a++b) x ↔ memS a x∨memS b x:=by
 constructor
 · rintro ⟨t,ht,h⟩
   rcases List.mem_append.1 ht with ht | ht
   · exact .inl ⟨t,ht,h⟩
   · exact .inr ⟨t,ht,h⟩
 · rintro (⟨t,ht,h⟩ | ⟨t,ht,h⟩)
   · exact ⟨t,by simp [ht],h⟩
   · exact ⟨t,by simp [ht],h⟩
theorem sep_gt:∀ {l:List Spn} {lo x:Int},SepA lo l→memS l x→lo < x
 | [],_,x,_,h=>absurd h (memS_nil x)
 | s::r,lo,x,h,hm=>by
   obtain ⟨h1,h2,h3⟩:=h
   rcases (memS_cons s r x).1 hm with hm | hm
   · omega
   · have:=sep_gt h3 hm;omega
theorem canon:∀ {l l':List Spn} {lo:Int},SepA lo l→SepA lo l'→(∀ x,memS l x ↔ memS l' x)→l=l'
 | [],[],_,_,_,_=>rfl
 | [],s::r,_,_,h,hm=>absurd ((hm s.1).2 ⟨s,by simp,by have:=h.2.1;omega,h.2.1⟩) (memS_nil _)
 | s::r,[],_,h,_,hm=>absurd ((hm s.1).1 ⟨s,by simp,by have:=h.2.1;omega,h.2.1⟩) (memS_nil _)
 | s::r,t::u,lo,h,h',hm=>by
   obtain ⟨s1,s2,s3⟩:=h
   obtain ⟨t1,t2,t3⟩:=h'
   have a1:t.1≤s.1:=by
    rcases (memS_cons t u s.1).1 ((hm s.1).1 ⟨s,by simp,by omega,s2⟩) with k | k
    · exact k.1
    · have:=sep_gt t3 k;omega
   have a2:s.1≤t.1:=by
    rcases (memS_cons s r t.1).1 ((hm t.1).2 ⟨t,by simp,by omega,t2⟩) with k | k
    · exact k.1
    · have:=sep_gt s3 k;omega
   have n1:¬ memS (s::r) s.2:=fun k=>by
    rcases (memS_cons s r s.2).1 k with k | k
    · omega
    · have:=sep_gt s3 k;omega
   have n2:¬ memS (t::u) t.2:=fun k=>by
    rcases (memS_cons t u t.2).1 k with k | k
    · omega
    · have:=sep_gt t3 k;omega
   have b1:¬ (s.2 < t.2):=fun k=>n1 ((hm s.2).2 ⟨t,by simp,by omega,k⟩)
   have b2:¬ (t.2 < s.2):=fun k=>n2 ((hm t.2).1 ⟨s,by simp,by omega,k⟩)
   have e:s=t:=Prod.ext (by omega) (by omega)
   subst e
   have hr:∀ x,memS r x ↔ memS u x:=fun x=>by
    constructor
    · intro k
      have hx:=sep_gt s3 k
      rcases (memS_cons s u x).1 ((hm x).1 ((memS_cons s r x).2 (.inr k))) with q | q
      · omega
      · exact q
    · intro k
      have hx:=sep_gt t3 k
      rcases (memS_cons s r x).1 ((hm x).2 ((memS_cons s u x).2 (.inr k))) with q | q
      · omega
      · exact q
   rw [canon s3 t3 hr]
/-! ### Spans joined one after the other -/
theorem sep_snoc:∀ {l:List Spn} {lo:Int} {s:Spn},SepA lo l→lo < s.1→s.1 < s.2→(∀ t ∈ l,t.2 < s.1)→SepA lo (l++[s])
 | [],_,_,_,h1,h2,_=>⟨h1,h2,trivial⟩
 | t::r,lo,s,h,_,h2,h3=>⟨h.1,h.2.1,sep_snoc h.2.2 (h3 t (by simp)) h2 fun q hq=>h3 q (by simp [hq])⟩
theorem sep_init:∀ {l:List Spn} {lo:Int} {s:Spn},SepA lo (l++[s])→SepA lo l∧lo < s.1∧s.1 < s.2 ∧ ∀ t ∈ l,t.2 < s.1
 | [],_,_,h=>⟨trivial,h.1,h.2.1,fun t ht=>by cases ht⟩
 | t::r,lo,s,h=>by
   obtain ⟨h1,h2,h3⟩:=h
   obtain ⟨i1,i2,i3,i4⟩:=sep_init h3
   refine ⟨⟨h1,h2,i1⟩,by omega,i3,fun q hq => ?_⟩
   rcases List.mem_cons.1 hq with rfl | hq
   · exact i2
   · exact i4 q hq
def joinP (acc:List Spn) (s:Spn):List Spn:=match acc.getLast? with
 | none=>acc++[s]
 | some l=>if s.1≤l.2 then acc.dropLast++[(l.1,if l.2 < s.2 then s.2 else l.2)] else acc++[s]
theorem joinP_nil (s:Spn):joinP [] s=[s]:=rfl
theorem joinP_snoc (a:List Spn) (l s:Spn):joinP (a++[l]) s=if s.1≤l.2 then a++[(l.1,if l.2 < s.2 then s.2 else l.2)] else a++[l]++[s]:=by
 unfold joinP
 rw [List.getLast?_concat,List.dropLast_concat]
theorem joinP_ok {acc:List Spn} {s:Spn} {lo:Int} (h:SepA lo acc) (h1:lo < s.1) (h2:s.1 < s.2) (h3:∀ t ∈ acc,t.1≤s.1):SepA lo (joinP acc s)∧(∀ x,memS (joinP acc s) x ↔ memS acc x∨(s.1≤x∧x < s.2)) ∧ ∀ t ∈ joinP acc s,t.1≤s.1:=by
 rcases List.eq_nil_or_concat acc with rfl | ⟨a,l,rfl⟩
 · rw [joinP_nil]
   refine ⟨⟨h1,h2,trivial⟩,fun x => ?_,fun t ht => ?_⟩
   · rw [memS_cons]
     exact ⟨fun k=>k.elim .inr fun k=>absurd k (memS_nil x),fun k=>k.elim (fun k=>absurd k (memS_nil x)) .inl⟩
   · rw [List.mem_singleton.1 ht];exact Int.le_refl _
 · rw [List.concat_eq_append] at *
   obtain ⟨i1,i2,i3,i4⟩:=sep_init h
   have hl:=h3 l (by simp)
   rw [joinP_snoc]
   by_cases c:s.1≤l.2
   · rw [if_pos c]
     refine ⟨sep_snoc i1 i2 (by show l.1 < if l.2 < s.2 then s.2 else l.2;split<;>omega) i4,fun x => ?_,fun t ht => ?_⟩
     · rw [memS_append,memS_append,memS_cons,memS_cons]
       have n:=memS_nil x
       have:(l.1≤x∧x < if l.2 < s.2 then s.2 else l.2) ↔ (l.1≤x∧x < l.2)∨(s.1≤x∧x < s.2):=by
        split<;>omega
       constructor
       · rintro (k | k | k)
         · exact .inl (.inl k)
         · rcases this.1 k with k | k
           · exact .inl (.inr (.inl k))
           · exact .inr k
         · exact absurd k n
       · rintro ((k | k | k) | k)
         · exact .inl k
         · exact .inr (.inl (this.2 (.inl k)))
         · exact absurd k n
         · exact .inr (.inl (this.2 (.inr k)))
     · rcases List.mem_append.1 ht with ht | ht
       · exact h3 t (by simp [ht])
       · rw [List.mem_singleton.1 ht];exact hl
   · rw [if_neg c]
     refine ⟨sep_snoc h h1 h2 fun t ht => ?_,fun x => ?_,fun t ht => ?_⟩
     · rcases List.mem_append.1 ht with ht | ht
       · have:=i4 t ht;omega
       · rw [List.mem_singleton.1 ht];omega
     · rw [memS_append,memS_cons]
       have n:=memS_nil x
       exact ⟨fun k=>k.elim .inl fun k=>k.elim .inr fun k=>absurd k n,fun k=>k.elim .inl fun k=>.inr (.inl k)⟩
     · rcases List.mem_append.1 ht with ht | ht
       · exact h3 t ht
       · rw [List.mem_singleton.1 ht];exact Int.le_refl _
def sortedS:List Spn→Prop
 | s::t::r=>s.1≤t.1∧sortedS (t::r)
 | _=>True
theorem sorted_tail {s:Spn} {r:List Spn} (h:sortedS (s::r)):sortedS r:=by
 cases r with
 | nil=>trivial
 | cons t u=>exact h.2
theorem sorted_head:∀ {s:Spn} {r:List Spn},sortedS (s::r) → ∀ t ∈ r,s.1≤t.1
 | _,[],_,t,ht=>by cases ht
 | s,u::r,h,t,ht=>by
   rcases List.mem_cons.1 ht with rfl | ht
   · exact h.1
   · have:=sorted_head h.2 t ht
     have:=h.1
     omega
theorem joins_ok {lo:Int}:∀ {l acc:List Spn},SepA lo acc→sortedS l→(∀ s ∈ l,lo < s.1∧s.1 < s.2)→(∀ t ∈ acc,∀ s ∈ l,t.1≤s.1)→SepA lo (l.foldl joinP acc) ∧ ∀ x,memS (l.foldl joinP acc) x ↔ memS acc x∨memS l x
 | [],acc,h,_,_,_=>⟨h,fun x=>⟨.inl,fun k=>k.elim id fun k=>absurd k (memS_nil x)⟩⟩
 | s::r,acc,h,hs,hg,ho=>by
   obtain ⟨g1,g2⟩:=hg s (by simp)
   obtain ⟨j1,j2,j3⟩:=joinP_ok h g1 g2 fun t ht=>ho t ht s (by simp)
   obtain ⟨i1,i2⟩:=joins_ok (l:=r) j1 (sorted_tail hs) (fun t ht=>hg t (by simp [ht])) fun t ht u hu=>by
    have:=j3 t ht
    have:=sorted_head hs u hu
    omega
   refine ⟨i1,fun x => ?_⟩
   show memS (r.foldl joinP (joinP acc s)) x ↔ _
   rw [i2,j2,memS_cons,or_assoc]
/-! ### Stretches met metre by metre -/
def runsR (f:Nat→Bool):Nat→List Spn
 | 0=>[]
 | m+1=>if f m then (if 0 < m∧f (m - 1)=true then (runsR f m).dropLast++[(((runsR f m).getLast?.getD (0,0)).1,(m:Int)+1)] else runsR f m++[((m:Int),(m:Int)+1)]) else runsR f m
theorem runs_ok (f:Nat→Bool):∀ m:Nat,SepA (-1) (runsR f m)∧(∀ x:Int,memS (runsR f m) x ↔ 0≤x∧x < m∧f x.toNat=true)∧(∀ t ∈ runsR f m,t.2≤m)∧((0 < m∧f (m - 1)=true) → ∃ (a:List Spn) (s:Spn),runsR f m=a++[s]∧s.2=(m:Int))∧((m=0∨f (m - 1)=false) → ∀ t ∈ runsR f m,t.2 < m)
 | 0=>⟨trivial,fun x=>⟨fun k=>absurd k (memS_nil x),fun k=>by omega⟩,fun t ht=>(by cases ht),fun h=>absurd h.1 (by omega),fun _ t ht=>(by cases ht)⟩
 | m+1=>by
   obtain ⟨i1,i2,i3,i4,i5⟩:=runs_ok f m
   have hcx:∀ x:Int,x < ((m+1:Nat):Int) ↔ x < m∨x=m:=fun x=>by omega
   by_cases hf:f m=true
   · by_cases hp:0 < m∧f (m - 1)=true
     · obtain ⟨a,s,e1,e2⟩:=i4 hp
       have e:runsR f (m+1)=a++[(s.1,(m:Int)+1)]:=by
        unfold runsR
        rw [if_pos hf,if_pos hp,e1,List.dropLast_concat,List.getLast?_concat];rfl
       rw [e]
       rw [e1] at i1 i2 i3
       obtain ⟨k1,k2,k3,k4⟩:=sep_init i1
       refine ⟨sep_snoc k1 k2 (by show s.1 < (m:Int)+1;omega) k4,fun x => ?_,fun t ht => ?_,fun _=>⟨a,_,rfl,by show (m:Int)+1=_;omega⟩,fun h => ?_⟩
       · have:=i2 x
         rw [memS_append,memS_cons] at this
         rw [memS_append,memS_cons]
         have n:=memS_nil x
         constructor
         · rintro (k | k | k)
           · have:=this.1 (.inl k)
             exact ⟨this.1,by omega,this.2.2⟩
           · by_cases c:x < s.2
             · have:=this.1 (.inr (.inl ⟨k.1,c⟩))
               exact ⟨this.1,by omega,this.2.2⟩
             · have hk:=k.2
               simp only at hk
               have hxm:x=m:=by omega
               subst hxm
               exact ⟨by omega,by omega,by simpa using hf⟩
           · exact absurd k n
         · rintro ⟨k1,k2,k3⟩
           rcases (hcx x).1 k2 with k | k
           · rcases this.2 ⟨k1,k,k3⟩ with q | q | q
             · exact .inl q
             · exact .inr (.inl ⟨q.1,by show x < (m:Int)+1;omega⟩)
             · exact absurd q n
           · exact .inr (.inl ⟨by show s.1≤x;omega,by show x < (m:Int)+1;omega⟩)
       · rcases List.mem_append.1 ht with ht | ht
         · have:=i3 t (by simp [ht]);omega
         · rw [List.mem_singleton.1 ht];show (m:Int)+1≤_;omega
       · rcases h with h | h
         · omega
         · simp only [Nat.add_sub_cancel] at h;rw [h] at hf;cases hf
     · have e:runsR f (m+1)=runsR f m++[((m:Int),(m:Int)+1)]:=by
        conv=>lhs;unfold runsR
        rw [if_pos hf,if_neg hp]
       have hlt:=i5 (by
        by_cases h0:m=0
        · exact .inl h0
        · right
          cases hc:f (m - 1) with
          | false=>rfl
          | true=>exact absurd ⟨by omega,hc⟩ hp)
       rw [e]
       refine ⟨sep_snoc i1 (by show (-1:Int) < m;omega) (by show (m:Int) < (m:Int)+1;omega) hlt,fun x => ?_,fun t ht => ?_,fun _=>⟨_,_,rfl,by show (m:Int)+1=_;omega⟩,fun h => ?_⟩
       · rw [memS_append,memS_cons,i2]
         have n:=memS_nil x
         constructor
         · rintro (k | k | k)
           · exact ⟨k.1,by omega,k.2.2⟩
           · simp only at k
             have hxm:x=m:=by omega
             subst hxm
             exact ⟨by omega,by omega,by simpa using hf⟩
           · exact absurd k n
         · rintro ⟨k1,k2,k3⟩
           rcases (hcx x).1 k2 with k | k
           · exact .inl ⟨k1,k,k3⟩
           · exact .inr (.inl ⟨by show (m:Int)≤x;omega,by show x < (m:Int)+1;omega⟩)
       · rcases List.mem_append.1 ht with ht | ht
         · have:=i3 t ht;omega
         · rw [List.mem_singleton.1 ht];show (m:Int)+1≤_;omega
       · rcases h with h | h
         · omega
         · simp only [Nat.add_sub_cancel] at h;rw [h] at hf;cases hf
   · have e:runsR f (m+1)=runsR f m:=by
      conv=>lhs;unfold runsR
      rw [if_neg hf]
     have hf':f m=false:=by simpa using hf
     rw [e]
     refine ⟨i1,fun x => ?_,fun t ht=>by have:=i3 t ht;omega,fun h => ?_,fun _ t ht=>by have:=i3 t ht;omega⟩
     · rw [i2]
       constructor
       · rintro ⟨k1,k2,k3⟩;exact ⟨k1,by omega,k3⟩
       · rintro ⟨k1,k2,k3⟩
         rcases (hcx x).1 k2 with k | k
         · exact ⟨k1,k,k3⟩
         · subst k
           rw [Int.toNat_natCast,hf'] at k3;cases k3
     · have:=h.2
       simp only [Nat.add_sub_cancel] at this
       rw [hf'] at this;cases this
/-! ### What leads to a line -/
section
variable (E:Nat→Bool→Pt) (N:Nat)
structure Cover (a:Pt) (s:List Nat) (L:List (Int × Int)):Prop where
 sound:∀ x d,(x,d) ∈ L → ∃ σ,okS E N a σ (s,x)∧lenS E a σ (s,x)≤d
 full:∀ σ m,okS E N a σ (s,m) → ∃ x d,(x,d) ∈ L∧d+dI x m≤lenS E a σ (s,m)
variable {E N}
theorem Cover.dist {a:Pt} {s:List Nat} {L:List (Int × Int)} (h:Cover E N a s L) {m d:Int} (hd:Dist E N a (s,m) d):(∃ x e,(x,e) ∈ L∧e+dI x m=d) ∧ ∀ x e,(x,e) ∈ L→d≤e+dI x m:=by
 have lower:∀ x e,(x,e) ∈ L→d≤e+dI x m:=by
  intro x e hx
  obtain ⟨σ,s1,s2⟩:=h.sound x e hx
  have s3:okS E N a σ (s,m):=okS_end E N (b:=(s,x)) (c:=(s,m)) rfl s1
  have:=hd.least σ s3
  have:=lenS_end E (s,x) (s,m) a σ
  simp only at this
  omega
 refine ⟨?_,lower⟩
 obtain ⟨σ,s1,s2⟩:=hd.way
 obtain ⟨x,e,h1,h2⟩:=h.full σ m s1
 have:=lower x e h1
 exact ⟨x,e,h1,by omega⟩
theorem Cover.within {a:Pt} {s:List Nat} {L:List (Int × Int)} (h:Cover E N a s L) (m most:Int):(∃ x d,(x,d) ∈ L∧d+dI x m≤most) ↔ ∃ d,Dist E N a (s,m) d∧d≤most:=by
 constructor
 · rintro ⟨x,d,h1,h2⟩
   obtain ⟨σ,s1,s2⟩:=h.sound x d h1
   obtain ⟨d',hd⟩:=dist_of E N _ σ (okS_end E N (b:=(s,x)) (c:=(s,m)) rfl s1) (Nat.lt_succ_self _)
   have:=(h.dist hd).2 x d h1
   exact ⟨d',hd,by omega⟩
 · rintro ⟨d,hd,h2⟩
   obtain ⟨x,e,h1,h3⟩:=(h.dist hd).1
   exact ⟨x,e,h1,by omega⟩
end
end Go.Sim

/-
From where lines are entered, by the program.
-/
-- INJ Leg.row_iff lgs_iff pts_iff ptr_iff
namespace Go.Sim
open Go Go.Proofs
set_option maxRecDepth 100000
set_option maxHeartbeats 64000000
variable {P:FuncId→Option (List AV→Option AV)}
/-! ### Best ways are there where there are ways -/
theorem bestO_spec {n:Net} (h:netP n=0) {a b:Pt} (ha:lnB n.lines a.1=true):match bestO n a b with
 | none=>∀ w,¬ isWay (endE n) n.sws.length a b w
 | some w=>Best (endE n) n.sws.length (findI n.lines) a b w:=by
 have hb:=waysL_best (E:=endE n) (N:=n.sws.length) (b:=b) (ix:=findI n.lines) (S:=fun s=>lnB n.lines s=true) (findI_inj h) (fun i k hi=>(ends_in h i k hi).1) (a:=a) ha
 have e:=bestO_of h ha hb
 rw [e] at hb
 exact hb
theorem lk_bestO {n:Net} (h:netP n=0) {a:Pt} (ha:lnB n.lines a.1=true) {L:Labs} (hL:Lab (endE n) n.sws.length (findI n.lines) a (lk L)) {i:Nat} {k:Bool} (hi:i < n.sws.length):lk L (endE n i k)=bestO n a (endE n i k):=by
 have hN:n.sws.length≤14:=by have:=net_sws h;omega
 have hS:∀ i k,i < n.sws.length→lnB n.lines (endE n i k).1=true:=fun i k hi=>(ends_in h i k hi).1
 refine bestO_of h ha ?_
 cases hl:lk L (endE n i k) with
 | none =>
   rintro w ⟨σ,s1,_⟩
   obtain ⟨w',w1,_⟩:=Lab.best (S:=fun s=>lnB n.lines s=true) (findI_inj h) hS hL hN ha hi s1
   rw [hl] at w1;cases w1
 | some w =>
   obtain ⟨σ,s1,_⟩:=hL.valid _ _ hl
   obtain ⟨w',w1,w2,_⟩:=Lab.best (S:=fun s=>lnB n.lines s=true) (findI_inj h) hS hL hN ha hi s1
   rw [hl] at w1;cases w1
   exact w2
/-! ### The places from which lines are gone along -/
abbrev Ent:Type:=Pt × Int
def entRow (e:Ent):List AV:=[.str e.1.1,i64 e.1.2,i64 e.2]
theorem entRow_len (e:Ent):(entRow e).length=3:=rfl
noncomputable def entAt (n:Net) (a:Pt) (i:Nat) (k:Bool):List Ent:=match bestO n a (endE n i k) with
 | some w=>[(endE n i (!k),wSum w)]
 | none=>[]
noncomputable def entTo (n:Net) (a:Pt):Nat→List Ent
 | 0=>[(a,0)]
 | i+1=>(entTo n a i++entAt n a i false)++entAt n a i true
noncomputable def entO (n:Net) (a:Pt):List Ent:=entTo n a n.sws.length
theorem entAt_len (n:Net) (a:Pt) (i:Nat) (k:Bool):(entAt n a i k).length≤1:=by unfold entAt;split<;>simp
theorem entTo_len (n:Net) (a:Pt):∀ i,(entTo n a i).length≤1+2 * i
 | 0=>by simp [entTo]
 | i+1=>by
   have:=entTo_len n a i
   have:=entAt_len n a i false
   have:=entAt_len n a i true
   simp only [entTo,List.length_append];omega
theorem entTo_ne (n:Net) (a:Pt):∀ i,entTo n a i ≠ []
 | 0=>by simp [entTo]
 | i+1=>by
   have:=entTo_ne n a i
   simp [entTo,this]
theorem ent_mem (n:Net) (a:Pt) (e:Ent):∀ {i:Nat},e ∈ entTo n a i ↔ e=(a,0) ∨ ∃ j k,j < i∧e ∈ entAt n a j k
 | 0=>by simp [entTo]
 | i+1=>by
   have ih:=ent_mem n a e (i:=i)
   simp only [entTo,List.mem_append,ih]
   constructor
   · rintro ((h | h) | h)
     · exact h.elim .inl fun ⟨j,k,h1,h2⟩=>.inr ⟨j,k,by omega,h2⟩
     · exact .inr ⟨i,false,by omega,h⟩
     · exact .inr ⟨i,true,by omega,h⟩
   · rintro (h | ⟨j,k,h1,h2⟩)
     · exact .inl (.inl (.inl h))
     · rcases Nat.lt_or_ge j i with hj | hj
       · exact .inl (.inl (.inr ⟨j,k,hj,h2⟩))
       · obtain rfl:j=i:=by omega
         cases k
         · exact .inl (.inr h2)
         · exact .inr h2
def lineOf (s:List Nat) (l:List Ent):List (Int × Int):=l.filterMap fun e=>if e.1.1=s then some (e.1.2,e.2) else none
theorem mem_lineOf {s:List Nat} {l:List Ent} {x d:Int}:(x,d) ∈ lineOf s l ↔ ((s,x),d) ∈ l:=by
 unfold lineOf
 rw [List.mem_filterMap]
 constructor
 · rintro ⟨⟨⟨t,y⟩,e⟩,h1,h2⟩
   split at h2
   · rename_i hs
     cases h2
     simp only at hs
     subst hs
     exact h1
   · cases h2
 · intro h
   exact ⟨((s,x),d),h,by simp⟩
theorem ent_cover {n:Net} (h:netP n=0) {a:Pt} (ha:lnB n.lines a.1=true) (s:List Nat):Cover (endE n) n.sws.length a s (lineOf s (entO n a)) where
 sound:=by
  intro x d hx
  rcases (ent_mem n a _).1 (mem_lineOf.1 hx) with he | ⟨j,k,hj,he⟩
  · obtain ⟨e1,e2⟩:=Prod.mk.inj he
    subst e2
    rw [e1]
    exact ⟨[],rfl,by rw [lenS_nil,dI_self];exact Int.le_refl _⟩
  · unfold entAt at he
    have hb:=bestO_spec h ha (b:=endE n j k)
    cases ho:bestO n a (endE n j k) with
    | none=>rw [ho] at he;cases he
    | some w =>
      rw [ho] at he hb
      obtain ⟨e1,e2⟩:=Prod.mk.inj (List.mem_singleton.1 he)
      obtain ⟨σ,s1,s2⟩:=hb.way
      refine ⟨σ++[(j,k)],(okS_snoc _ _ a σ (j,k) _).2 ⟨s1,hj,by rw [e1]⟩, ?_⟩
      have e0:lenS (endE n) a σ (endE n j k)=wSum (legsOf (endE n) a σ (endE n j k)):=rfl
      rw [lenS_snoc,e1,dI_self,e2,s2]
      show lenS (endE n) a σ (endE n j k)+0≤wSum _
      omega
 full:=by
  intro σ m hσ
  rcases List.eq_nil_or_concat σ with rfl | ⟨τ,st,rfl⟩
  · have hs:a.1=s:=hσ
    refine ⟨a.2,0,mem_lineOf.2 ((ent_mem n a _).2 (.inl ?_)), ?_⟩
    · rw [← hs]
    · rw [lenS_nil];show 0+dI a.2 m≤dI a.2 m;omega
  · rw [List.concat_eq_append] at *
    obtain ⟨h1,h2,h3⟩:=(okS_snoc _ _ a τ st _).1 hσ
    have hb:=bestO_spec h ha (b:=endE n st.1 st.2)
    cases ho:bestO n a (endE n st.1 st.2) with
    | none=>rw [ho] at hb;exact (hb _ ⟨τ,h1,rfl⟩).elim
    | some w =>
      rw [ho] at hb
      have hl:=wLe_sum _ (hb.least τ h1)
      refine ⟨(endE n st.1 (!st.2)).2,wSum w,mem_lineOf.2 ((ent_mem n a _).2 (.inr ⟨st.1,st.2,h2, ?_⟩)), ?_⟩
      · unfold entAt
        rw [ho]
        have h3:(endE n st.1 (!st.2)).1=s:=h3
        rw [← h3]
        exact List.mem_singleton.2 rfl
      · rw [lenS_snoc]
        show wSum w+dI (endE n st.1 (!st.2)).2 m≤wSum (legsOf (endE n) a τ (endE n st.1 st.2))+dI (endE n st.1 (!st.2)).2 m
        omega
/-! ### The walk -/
theorem app_exE {lo:Nat} {H:Heap} {rows:List (List AV)} {sz:Nat} {e:TypeId} {r:List AV} (h1:rows.length+1≤maxRows) (h2:pureRow r=true) (h3:0 < sz) (h4:rows.all (fun r=>r.length=sz)=true):appP lo H sz e (.ps .exact rows) [r]=some (.ps (.tok H.n) (rows++[r.map AV.strip0]),H.push (.row [] sz e)):=by
 unfold appP
 have h5:rows.length+[r].length≤maxRows:=by simpa using h1
 have h6:[r].all pureRow=true:=by simp [h2]
 simp only [h3,h4,h5,h6,decide_true,Bool.and_self,if_true]
 rfl
noncomputable def PPF116:FuncId→Option (List AV→Option AV):=addPrim 204 p204 (addPrim 203 p203 (addPrim 151 p151 (fun _=>none)))
theorem primsF116:PrimsOk NC PPF116:=primsOk_add (primsOk_add (primsOk_add (primsOk_none) (by kernel_rfl) (by kernel_rfl) pok151) (by kernel_rfl) (by kernel_rfl) pok203) (by kernel_rfl) (by kernel_rfl) pok204
theorem enF116_151:En PPF116 151 p151:=enter_prim (by rfl) (by kernel_rfl)
theorem enF116_203:En PPF116 203 p203:=enter_prim (by rfl) (by kernel_rfl)
theorem enF116_204:En PPF116 204 p204:=enter_prim (by rfl) (by kernel_rfl)
attribute [go_sem ↓] enF116_151 enF116_203 enF116_204
theorem c116 (n:Net) (a:Pt) (hp:n.Ok∧netP n=0∧lnB n.lines a.1=true∧inR a.2):∀ lo H,CallOk NC lo 116 [.agg n.cells,.agg (ptRow a)] H (.ps .unk ((entO n a).map entRow)) H:=by
 refine contract saneNC primsF116 (fn:=Tryz.f116) (by kernel_rfl) Tryz.func116 rfl rfl (by rfl) (by first | rfl | (split<;>first | rfl | (split<;>rfl))) ?_
 obtain ⟨hn,hz,hLa,hRa⟩:=hp
 have hsw:n.sws.length≤maxRows:=hn.sws
 have h8:=net_sws hz
 have hRE:∀ i k,i < n.sws.length→inR (endE n i k).2:=fun i k hi=>(ends_in hz i k hi).2
 obtain ⟨v1,H1,q1,⟨L,rfl,q2,q3,hLab,hLv,q4⟩⟩:=r185 (P:=PPF116) rfl rfl rfl rfl n hn hsw a hRa hRE 2 ((Heap.empty.push (.cells n.cells 40)).push (.cells (ptRow a) 45)) (by simp [empty_n])
 have g0:H1.get 0=.cells n.cells 40:=by rw [q4 0 (by simp [empty_n])];simp [Heap.get_push,empty_n]
 have hid:(((Heap.empty.push (.cells n.cells 40)).push (.cells (ptRow a) 45)).n+2)=4:=by simp [empty_n]
 rw [hid] at q1 q2 q3
 have hlk:∀ i k,i < n.sws.length→lk L (endE n i k)=bestO n a (endE n i k):=fun i k hi=>lk_bestO hz hLa hLab hi
 have hen0:entTo n a 0=[(a,0)]:=rfl
 have hlen:=entTo_len n a
 obtain ⟨a1,a2⟩:=a
 have g0':=g0
 simp only [Net.cells,ptRow] at q1 g0'
 simp only [go_sem,reduceIte,reduceEqDiff,reduceAdd,reduceMul,reduceSub,reduceLeDiff,reduceLT,Nat.reduceBEq,reduceCtorEq,Net.cells,ptRow,en185 (show PPF116 185=none from rfl),q1,ofVal_v,ofVal_H,g0']
 refine W_for (fun i T H M=>M=[]∧getT T 2=.ptr 0 0∧getT T 6=.map 4∧getT T 21=.ps .unk (n.sws.map Sw.row)∧getT T 22=i64 (n.sws.length:Nat)∧getT T 23=i64 i∧4 < H.n∧H.get 0=.cells n.cells 40∧H.get 4=.map (lmap L) ∧ ∃ t,getT T 5=.ps t ((entTo n (a1,a2) i).map entRow)∧(t=.exact ∨ ∃ j,t=.tok j∧4 < j∧j < H.n∧H.get j=.row [] 3 220)) n.sws.length ?_ ?_ ?_
 · simp only [go_sem,reduceIte,reduceEqDiff,reduceAdd,reduceMul,reduceSub,reduceLeDiff,reduceLT,Nat.reduceBEq,reduceCtorEq,List.length_map,hen0,entRow]
   exact ⟨q2,g0,q3,.exact,rfl,.inl rfl⟩
 · rintro i T H M hk ⟨rfl,t2,t6,t21,t22,t23,hn4,p0,p4,t,t5,hA⟩
   obtain ⟨sw,hsx⟩:∃ p,n.sws[i]? = some p:=⟨n.sws[i],by simp⟩
   have hr:=map_at (f:=Sw.row) hsx
   have hw:=wrap_succ hk hsw
   have hE:endE n i=fun k=>if k then (sw.other,endM n sw) else (sw.line,sw.metre):=by funext k;unfold endE;rw [hsx]
   have e151:=pe151 n sw hn
   have l0:=hlk i false hk
   have l1:=hlk i true hk
   have hl0:=entAt_len n (a1,a2) i false
   have hen:entTo n (a1,a2) (i+1)=(entTo n (a1,a2) i++entAt n (a1,a2) i false)++entAt n (a1,a2) i true:=rfl
   have he0:entAt n (a1,a2) i false=match bestO n (a1,a2) (endE n i false) with
    | some w=>[(endE n i true,wSum w)]
    | none=>[]:=rfl
   have he1:entAt n (a1,a2) i true=match bestO n (a1,a2) (endE n i true) with
    | some w=>[(endE n i false,wSum w)]
    | none=>[]:=rfl
   have hli:=hlen i
   rw [hen]
   rw [he0] at hl0 ⊢
   rw [he1]
   rw [← l0] at hl0 ⊢
   rw [← l1]
   clear hen he0 he1 l0 l1
   have f0:endE n i false=(sw.line,sw.metre):=by rw [hE];rfl
   have f1:endE n i true=(sw.other,endM n sw):=by rw [hE];rfl
   rw [f0,f1] at hl0 ⊢
   clear f0 f1 hE
   generalize endM n sw=EM at e151 hl0 ⊢
   obtain ⟨w1,w2,w3,w4,w5⟩:=sw
   generalize hrows:entTo n (a1,a2) i=rows at t5 hli ⊢
   have hra:=rows_all entRow_len rows
   have look0:∀ H',H'.get 4=.map (lmap L)→alookup NC.P H' 316 (.map 4) (.agg [.str w2,.int .i64 w3]) true=some (match lk L (w2,w3) with
    | some w=>.tup [rtC w,.bool true]
    | none=>.tup [.agg [.ps .nil [],.int .i64 0],.bool false]):=fun H' h=>lookL h (w2,w3)
   have look1:∀ H',H'.get 4=.map (lmap L)→alookup NC.P H' 316 (.map 4) (.agg [.str w4,.int .i64 EM]) true=some (match lk L (w4,EM) with
    | some w=>.tup [rtC w,.bool true]
    | none=>.tup [.agg [.ps .nil [],.int .i64 0],.bool false]):=fun H' h=>lookL h (w4,EM)
   have y0:(0=H.n)=False∧(0=H.n+1)=False∧(0=H.n+2)=False∧(0=H.n+3)=False∧(0=H.n+4)=False:=by simp only [eq_iff_iff,iff_false];omega
   have y4:(4=H.n)=False∧(4=H.n+1)=False∧(4=H.n+2)=False∧(4=H.n+3)=False∧(4=H.n+4)=False:=by simp only [eq_iff_iff,iff_false];omega
   have p0':=p0
   simp only [Sw.row,Net.cells,i64] at hr e151 p0'
   have hc1:∀ r:List AV,pureRow r=true→r.length=3→r.map AV.strip0=r → ∀ lo H' k,H'.get k=.row [] 3 220→lo≤k→rows ≠ []→appP lo H' 3 220 (.ps (.tok k) (rows.map entRow)) [r]=some (.ps (.tok H'.n) (rows.map entRow++[r]),(H'.set k .dead).push (.row [] 3 220)):=fun r h1 h2 h3 lo H' k h4 h5 h6=>by
    rw [app_next (by simp) (by simp;unfold maxRows;omega) (by simp [h1]) (by decide) hra h4 h5 (by simpa using h6)]
    simp [h3]
   have hc2:∀ r q:List AV,r.length=3→pureRow q=true→q.map AV.strip0=q → ∀ lo H' k,H'.get k=.row [] 3 220→lo≤k→appP lo H' 3 220 (.ps (.tok k) (rows.map entRow++[r])) [q]=some (.ps (.tok H'.n) (rows.map entRow++[r]++[q]),(H'.set k .dead).push (.row [] 3 220)):=fun r q h1 h2 h3 lo H' k h4 h5=>by
    rw [app_next (by simp) (by simp;unfold maxRows;omega) (by simp [h2]) (by decide) (by rw [List.all_append,hra];simp [h1]) h4 h5 (by simp)]
    simp [h3]
   have hc0:∀ r:List AV,pureRow r=true→r.map AV.strip0=r → ∀ lo H',appP lo H' 3 220 (.ps .exact (rows.map entRow)) [r]=some (.ps (.tok H'.n) (rows.map entRow++[r]),H'.push (.row [] 3 220)):=fun r h1 h3 lo H'=>by
    rw [app_exE (by simp;unfold maxRows;omega) h1 (by decide) hra,h3]
   have hrne:rows ≠ []:=by rw [← hrows];exact entTo_ne n (a1,a2) i
   have hap:=fun (l:List Ent)=>List.map_append (f:=entRow) (l₁:=rows) (l₂:=l)
   rcases hA with rfl | ⟨j,rfl,hj1,hj2,hj3⟩
   · skip
     cases hl0:lk L (w2,w3) with
     | none =>
       rw [hl0] at look0
       cases hl1:lk L (w4,EM) with
       | none =>
         rw [hl1] at look1
         simp only [] at look0 look1 ⊢
         simp only [go_sem,reduceIte,reduceEqDiff,reduceAdd,reduceMul,reduceSub,reduceLeDiff,reduceLT,Nat.reduceBEq,reduceCtorEq,t2,t6,t21,t22,t23,t5,List.length_map,hk,hr,hw,p0',p4,y0,y4,e151,ab259,look0,look1]
         exact ⟨by omega,rfl,.exact,rfl,.inl rfl⟩
       | some r1 =>
         rw [hl1] at look1
         have h1:=hc0 _ (show pureRow [AV.str w2,.int .i64 w3,.int .i64 (wSum r1)]=true from rfl) rfl
         simp only [rtC] at look0 look1 ⊢
         simp only [go_sem,reduceIte,reduceEqDiff,reduceAdd,reduceMul,reduceSub,reduceLeDiff,reduceLT,Nat.reduceBEq,reduceCtorEq,t2,t6,t21,t22,t23,t5,List.length_map,hk,hr,hw,p0',p4,y0,y4,e151,ab259,look0,look1,appO,hra,h1]
         refine ⟨by omega,rfl,_,by rw [List.map_append];rfl,.inr ⟨_,rfl,by omega,by omega, ?_⟩⟩
         (repeat rw [if_neg (by omega)])
         try rw [if_pos rfl]
     | some r0 =>
       rw [hl0] at look0
       have h0:=hc0 _ (show pureRow [AV.str w4,.int .i64 EM,.int .i64 (wSum r0)]=true from rfl) rfl
       cases hl1:lk L (w4,EM) with
       | none =>
         rw [hl1] at look1
         simp only [rtC] at look0 look1 ⊢
         simp only [go_sem,reduceIte,reduceEqDiff,reduceAdd,reduceMul,reduceSub,reduceLeDiff,reduceLT,Nat.reduceBEq,reduceCtorEq,t2,t6,t21,t22,t23,t5,List.length_map,hk,hr,hw,p0',p4,y0,y4,e151,ab259,look0,look1,appO,hra,h0]
         refine ⟨by omega,rfl,_,by rw [List.map_append];rfl,.inr ⟨_,rfl,by omega,by omega, ?_⟩⟩
         (repeat rw [if_neg (by omega)])
         try rw [if_pos rfl]
       | some r1 =>
         rw [hl1] at look1
         have h1:=hc2 [AV.str w4,.int .i64 EM,.int .i64 (wSum r0)] [AV.str w2,.int .i64 w3,.int .i64 (wSum r1)] rfl rfl rfl
         simp only [rtC] at look0 look1 ⊢
         simp only [go_sem,reduceIte,reduceEqDiff,reduceAdd,reduceMul,reduceSub,reduceLeDiff,reduceLT,Nat.reduceBEq,reduceCtorEq,t2,t6,t21,t22,t23,t5,List.length_map,hk,hr,hw,p0',p4,y0,y4,e151,ab259,look0,look1,appO,hra,h0,h1]
         refine ⟨by omega,rfl,_,by rw [List.map_append,List.map_append];rfl,.inr ⟨_,rfl,by omega,by omega, ?_⟩⟩
         (repeat rw [if_neg (by omega)])
         try rw [if_pos rfl]
   · skip
     have yj:(j=H.n)=False∧(j=H.n+1)=False∧(j=H.n+2)=False∧(j=H.n+3)=False∧(j=H.n+1+1)=False∧(j=H.n+1+1+1)=False∧(4=j)=False∧(0=j)=False∧(H.n=j)=False∧(H.n+1=j)=False∧(H.n+2=j)=False∧(H.n+3=j)=False∧(H.n+1+1=j)=False∧(H.n+1+1+1=j)=False∧(H.n+1+1+1+1=j)=False:=by simp only [eq_iff_iff,iff_false];omega
     cases hl0:lk L (w2,w3) with
     | none =>
       rw [hl0] at look0
       cases hl1:lk L (w4,EM) with
       | none =>
         rw [hl1] at look1
         simp only [] at look0 look1 ⊢
         simp only [go_sem,reduceIte,reduceEqDiff,reduceAdd,reduceMul,reduceSub,reduceLeDiff,reduceLT,Nat.reduceBEq,reduceCtorEq,t2,t6,t21,t22,t23,t5,List.length_map,hk,hr,hw,p0',p4,y0,y4,e151,ab259,look0,look1,yj,hj3,hrne,ne_eq,not_false_eq_true]
         refine ⟨by omega,rfl,.tok j,rfl,.inr ⟨j,rfl,hj1,by omega, ?_⟩⟩
         (repeat rw [if_neg (by omega)])
         try exact hj3
       | some r1 =>
         rw [hl1] at look1
         have h1:=hc1 _ (show pureRow [AV.str w2,.int .i64 w3,.int .i64 (wSum r1)]=true from rfl) rfl rfl
         simp only [rtC] at look0 look1 ⊢
         simp only [go_sem,reduceIte,reduceEqDiff,reduceAdd,reduceMul,reduceSub,reduceLeDiff,reduceLT,Nat.reduceBEq,reduceCtorEq,t2,t6,t21,t22,t23,t5,List.length_map,hk,hr,hw,p0',p4,y0,y4,e151,ab259,look0,look1,appO,hra,h1,yj,hj3,hrne,ne_eq,not_false_eq_true]
         refine ⟨by omega,rfl,_,by rw [List.map_append];rfl,.inr ⟨_,rfl,by omega,by omega, ?_⟩⟩
         (repeat rw [if_neg (by omega)])
         try rw [if_pos rfl]
     | some r0 =>
       rw [hl0] at look0
       have h0:=hc1 _ (show pureRow [AV.str w4,.int .i64 EM,.int .i64 (wSum r0)]=true from rfl) rfl rfl
       cases hl1:lk L (w4,EM) with
       | none =>
         rw [hl1] at look1
         simp only [rtC] at look0 look1 ⊢
         simp only [go_sem,reduceIte,reduceEqDiff,reduceAdd,reduceMul,reduceSub,reduceLeDiff,reduceLT,Nat.reduceBEq,reduceCtorEq,t2,t6,t21,t22,t23,t5,List.length_map,hk,hr,hw,p0',p4,y0,y4,e151,ab259,look0,look1,appO,hra,h0,yj,hj3,hrne,ne_eq,not_false_eq_true]
         refine ⟨by omega,rfl,_,by rw [List.map_append];rfl,.inr ⟨_,rfl,by omega,by omega, ?_⟩⟩
         (repeat rw [if_neg (by omega)])
         try rw [if_pos rfl]
       | some r1 =>
         rw [hl1] at look1
         have h1:=hc2 [AV.str w4,.int .i64 EM,.int .i64 (wSum r0)] [AV.str w2,.int .i64 w3,.int .i64 (wSum r1)] rfl rfl rfl
         simp only [rtC] at look0 look1 ⊢
         simp only [go_sem,reduceIte,reduceEqDiff,reduceAdd,reduceMul,reduceSub,reduceLeDiff,reduceLT,Nat.reduceBEq,reduceCtorEq,t2,t6,t21,t22,t23,t5,List.length_map,hk,hr,hw,p0',p4,y0,y4,e151,ab259,look0,look1,appO,hra,h0,h1,yj,hj3,hrne,ne_eq,not_false_eq_true]
         refine ⟨by omega,rfl,_,by rw [List.map_append,List.map_append];rfl,.inr ⟨_,rfl,by omega,by omega, ?_⟩⟩
         (repeat rw [if_neg (by omega)])
         try rw [if_pos rfl]
 · rintro T H M ⟨rfl,t2,t6,t21,t22,t23,hn4,p0,p4,t,t5,hA⟩
   have hlast:entO n (a1,a2)=entTo n (a1,a2) n.sws.length:=rfl
   rw [hlast]
   simp only [go_sem,reduceIte,reduceEqDiff,reduceAdd,reduceMul,reduceSub,reduceLeDiff,reduceLT,Nat.reduceBEq,reduceCtorEq,t2,t6,t21,t22,t23,t5,Nat.lt_irrefl]
noncomputable def p116:List AV→Option AV:=primOf (α:=(Net) × (Pt)) (fun x=>[.agg x.1.cells,.agg (ptRow x.2)]) (fun x=>x.1.Ok∧netP x.1=0∧lnB x.1.lines x.2.1=true∧inR x.2.2) (fun x=>.ps .unk ((entO x.1 x.2).map entRow))
theorem pok116:∀ args v,p116 args=some v → ∀ lo H,CallOk NC lo 116 args H v H:=by
 intro args v h
 obtain ⟨x,rfl,hp,rfl⟩:=primOf_inv h
 exact c116 x.1 x.2 hp
theorem pe116 (n:Net) (a:Pt) (hp:n.Ok∧netP n=0∧lnB n.lines a.1=true∧inR a.2):p116 [.agg n.cells,.agg (ptRow a)]=some (.ps .unk ((entO n a).map entRow)):=primOf_enc (α:=(Net) × (Pt)) (enc:=fun x=>[.agg x.1.cells,.agg (ptRow x.2)]) (pre:=fun x=>x.1.Ok∧netP x.1=0∧lnB x.1.lines x.2.1=true∧inR x.2.2) (spec:=fun x=>.ps .unk ((entO x.1 x.2).map entRow)) (by intro x y h;(simp only [List.cons.injEq,AV.agg.injEq,AV.str.injEq,AV.int.injEq,AV.ps.injEq,AV.bool.injEq,Net.cells_iff,Ln.row_iff,Pc.row_iff,Mv.row_iff,lns_iff,pcs_iff,mvs_iff,Leg.row_iff,lgs_iff,pts_iff,ptr_iff,true_and,and_true] at h;first | simpa only [Prod.ext_iff] using h | simpa only [Prod.ext_iff,and_assoc] using h)) (n,a) hp
end Go.Sim

/-
The sorting of spans.
-/
-- INJ spRow_iff sps_iff
namespace Go.Sim
open Go Go.Proofs
set_option maxRecDepth 100000
set_option maxHeartbeats 16000000
variable {P:FuncId→Option (List AV→Option AV)}
def spRow (s:Spn):List AV:=[i64 s.1,i64 s.2]
theorem spRow_len (s:Spn):(spRow s).length=2:=rfl
theorem spRow_inj (a b:Spn) (h:spRow a=spRow b):a=b:=by
 obtain ⟨a1,a2⟩:=a
 obtain ⟨b1,b2⟩:=b
 simp only [spRow,List.cons.injEq,AV.int.injEq,true_and,and_true] at h
 rw [h.1,h.2]
theorem spRow_iff (a b:Spn):spRow a=spRow b ↔ a=b:=⟨spRow_inj a b,fun h=>by rw [h]⟩
theorem sps_iff (a b:List Spn):a.map spRow=b.map spRow ↔ a=b:=⟨fun h=>map_inj spRow_inj h,fun h=>by rw [h]⟩
noncomputable def PPF118:FuncId→Option (List AV→Option AV):=addPrim 119 p119 (fun _=>none)
theorem primsF118:PrimsOk NC PPF118:=primsOk_add (primsOk_none) (by kernel_rfl) (by kernel_rfl) pok119
theorem enF118_119:En PPF118 119 p119:=enter_prim (by rfl) (by kernel_rfl)
attribute [go_sem ↓] enF118_119
theorem c118 (x y:Spn):∀ lo H,CallOk NC lo 118 [.agg (spRow x),.agg (spRow y)] H (i64 (cmpI x.1 y.1)) H:=by
 refine contract saneNC primsF118 (fn:=Tryz.f118) (by kernel_rfl) Tryz.func118 rfl rfl (by rfl) (by first | rfl | (split<;>first | rfl | (split<;>rfl))) ?_
 have e119:p119 [.int .i64 x.1,.int .i64 y.1]=some (.int .i64 (cmpI x.1 y.1)):=pe119 x.1 y.1
 obtain ⟨a,b⟩:=x
 obtain ⟨c,d⟩:=y
 simp only [go_sem,reduceIte,reduceEqDiff,reduceAdd,reduceMul,reduceSub,reduceLeDiff,reduceLT,Nat.reduceBEq,reduceCtorEq,spRow,e119]
noncomputable def p118:List AV→Option AV:=primOf (α:=(Spn) × (Spn)) (fun x=>[.agg (spRow x.1),.agg (spRow x.2)]) (fun x=>True) (fun x=>i64 (cmpI x.1.1 x.2.1))
theorem pok118:∀ args v,p118 args=some v → ∀ lo H,CallOk NC lo 118 args H v H:=by
 intro args v h
 obtain ⟨x,rfl,hp,rfl⟩:=primOf_inv h
 exact c118 x.1 x.2
theorem pe118 (x y:Spn):p118 [.agg (spRow x),.agg (spRow y)]=some (.int .i64 (cmpI x.1 y.1)):=primOf_enc (α:=(Spn) × (Spn)) (enc:=fun x=>[.agg (spRow x.1),.agg (spRow x.2)]) (pre:=fun x=>True) (spec:=fun x=>i64 (cmpI x.1.1 x.2.1)) (by intro x y h;(simp only [List.cons.injEq,AV.agg.injEq,AV.str.injEq,AV.int.injEq,AV.ps.injEq,AV.bool.injEq,Net.cells_iff,Ln.row_iff,Pc.row_iff,Mv.row_iff,lns_iff,pcs_iff,mvs_iff,spRow_iff,sps_iff,true_and,and_true] at h;first | simpa only [Prod.ext_iff] using h | simpa only [Prod.ext_iff,and_assoc] using h)) (x,y) trivial
theorem en230 {P:FuncId→Option (List AV→Option AV)} (hP:P 230=none) {lo:Nat} {args:List AV} {H:Heap} {K:AV→Heap→Prop}:VO (aenter (NC.withPrims P) (R (NC.withPrims P)) lo 230 args H) K=AO (R (NC.withPrims P) (.call lo 230 args H)) fun o=>K o.val o.s.H:=by
 refine enter_free rfl ?_ (by kernel_rfl) (by kernel_rfl) (by kernel_rfl)
 show (match NC.prim 230 with | some p=>some p | none=>P 230)=none
 rw [hP];kernel_rfl
theorem en186 {P:FuncId→Option (List AV→Option AV)} (hP:P 186=none) {lo:Nat} {args:List AV} {H:Heap} {K:AV→Heap→Prop}:VO (aenter (NC.withPrims P) (R (NC.withPrims P)) lo 186 args H) K=AO (R (NC.withPrims P) (.call lo 186 args H)) fun o=>K o.val o.s.H:=by
 refine enter_free rfl ?_ (by kernel_rfl) (by kernel_rfl) (by kernel_rfl)
 show (match NC.prim 186 with | some p=>some p | none=>P 186)=none
 rw [hP];kernel_rfl
theorem en117 {P:FuncId→Option (List AV→Option AV)} (hP:P 117=none) {lo:Nat} {args:List AV} {H:Heap} {K:AV→Heap→Prop}:VO (aenter (NC.withPrims P) (R (NC.withPrims P)) lo 117 args H) K=AO (R (NC.withPrims P) (.call lo 117 args H)) fun o=>K o.val o.s.H:=by
 refine enter_free rfl ?_ (by kernel_rfl) (by kernel_rfl) (by kernel_rfl)
 show (match NC.prim 117 with | some p=>some p | none=>P 117)=none
 rw [hP];kernel_rfl
theorem en118 (h:P 118=some p118) {lo:Nat} {rec:Rec} {args:List AV} {H:Heap} {K:AV→Heap→Prop}:VO (aenter (NC.withPrims P) rec lo 118 args H) K=AO (p118 args) fun v=>K v H:=enter_prim (by rfl) (known h (by kernel_rfl))
theorem e118 (a b:Spn):p118 [.agg (spRow a),.agg (spRow b)]=some (.int .i64 (cmpI a.1 b.1)):=pe118 a b
def spLt (a b:Spn):Bool:=decide (cmpI a.1 b.1 < 0)
def spF (l:List Spn):List AV:=(l.map spRow).flatten
theorem r230 (h118:P 118=some p118) (l:List Spn) (hl:l.length≤maxRows) (lo id:Nat) (H:Heap) (hid:lo≤id) (hn:id < H.n) (hs:H.get id=.row (spF l) 2 183) :
 ∃ v H',R (NC.withPrims P) (.call lo 230 [.rs id 0 l.length 2 none,.int .i64 0,.int .i64 (l.length:Nat),.fn 118 [] []] H)=some (.ofVal v H')∧v=aundef∧H'.get id=.row (spF (isort spLt l)) 2 183∧H'.n=H.n ∧ ∀ i,i ≠ id→H'.get i=H.get i:=by
 refine R_of_body (C:=NC.withPrims P) (f:=230) (lo:=lo) (args:=[.rs id 0 l.length 2 none,.int .i64 0,.int .i64 (l.length:Nat),.fn 118 [] []]) (H:=H) (fn:=Tryz.f230) (Q:=fun v H'=>v=aundef∧H'.get id=.row (spF (isort spLt l)) 2 183∧H'.n=H.n ∧ ∀ i,i ≠ id→H'.get i=H.get i) (by kernel_rfl) Tryz.func230 rfl rfl ?_
 rcases Nat.eq_zero_or_pos l.length with h0 | h0
 · have hl0:l=[]:=List.length_eq_zero_iff.1 h0
   subst hl0
   have i10:((1:Int) < 0)=False:=by simp
   have c00:((List.length ([]:List Spn):Nat):Int)=0:=rfl
   simp only [go_sem,reduceIte,reduceEqDiff,reduceAdd,reduceMul,reduceSub,reduceLeDiff,reduceLT,Nat.reduceBEq,reduceCtorEq,W_loop,wl01,i10,c00]
   exact ⟨rfl,hs,fun _ _=>trivial⟩
 have w1:wrapq .i64 (Int.add 0 1)=((0+1:Nat):Int):=rfl
 simp only [go_sem,reduceIte,reduceEqDiff,reduceAdd,reduceMul,reduceSub,reduceLeDiff,reduceLT,Nat.reduceBEq,reduceCtorEq,w1]
 refine W_for (fun k T H' M=>M=[]∧getT T 0=.rs id 0 l.length 2 none∧getT T 1=i64 0∧getT T 2=i64 (l.length:Nat)∧getT T 3=.fn 118 [] []∧getT T 8=i64 ((k+1:Nat):Int)∧H'.n=H.n∧(∀ i,i ≠ id→H'.get i=H.get i)∧H'.get id=.row (spF (isort spLt (l.take (k+1))++l.drop (k+1))) 2 183) (l.length - 1) ?_ ?_ ?_
 · have hi:isort spLt (l.take (0+1))++l.drop (0+1)=l:=by
    cases l with
    | nil=>rfl
    | cons a r=>rfl
   simp only [go_sem,reduceIte,reduceEqDiff,reduceAdd,reduceMul,reduceSub,reduceLeDiff,reduceLT,Nat.reduceBEq,reduceCtorEq]
   rw [hi]
   exact ⟨fun _ _=>trivial,hs⟩
 · rintro k T H1 M hk ⟨rfl,g0,g1,g2,g3,g8,hn1,ho1,hs1⟩
   have hi:k+1 < l.length:=by omega
   obtain ⟨x,hx⟩:∃ p,l[k+1]? = some p:=⟨l[k+1],by simp⟩
   have hw:=wrap_succ hi hl
   have hlen:(isort spLt (l.take (k+1))).length=k+1:=by rw [isort_length,List.length_take];omega
   have hdone:∀ pre suf,isort spLt (l.take (k+1))=pre++suf→(∀ y ∈ suf,spLt x y=true)→(pre=[] ∨ ∃ p y,pre=p++[y]∧spLt x y=false)→isort spLt (l.take (k+1+1))++l.drop (k+1+1)=pre++x::suf++l.drop (k+1+1):=by
    intro pre suf h1 h2 h3
    rw [take_snoc hx,isort_snoc,h1,ins_at spLt h2 h3]
   simp only [go_sem,reduceIte,reduceEqDiff,reduceAdd,reduceMul,reduceSub,reduceLeDiff,reduceLT,Nat.reduceBEq,reduceCtorEq,g0,g1,g2,g3,g8,hi]
   refine W_for (fun m T H' M=>M=[]∧getT T 0=.rs id 0 l.length 2 none∧getT T 1=i64 0∧getT T 2=i64 (l.length:Nat)∧getT T 3=.fn 118 [] []∧getT T 8=i64 ((k+1:Nat):Int)∧getT T 9=i64 ((k+1 - m:Nat):Int)∧H'.n=H.n∧(∀ i,i ≠ id→H'.get i=H.get i) ∧ ∃ pre suf,isort spLt (l.take (k+1))=pre++suf∧suf.length=m∧(∀ y ∈ suf,spLt x y=true)∧H'.get id=.row (spF (pre++x::suf++l.drop (k+1+1))) 2 183) (k+1) ?_ ?_ ?_
   · simp only [go_sem,reduceIte,reduceEqDiff,reduceAdd,reduceMul,reduceSub,reduceLeDiff,reduceLT,Nat.reduceBEq,reduceCtorEq,g0,g1,g2,g3,g8,Nat.sub_zero]
     refine ⟨hn1,ho1,isort spLt (l.take (k+1)),[],by simp,rfl,by simp, ?_⟩
     rw [hs1,drop_cons_at hx];simp
   · rintro m T H2 M hm ⟨rfl,i0,i1,i2,i3,i8,i9,hn2,ho2,pre,suf,hp,hsl,hlt,hs2⟩
     have hpl:pre.length=k+1 - m:=by
      have:=congrArg List.length hp
      rw [hlen,List.length_append] at this;omega
     obtain ⟨p,y,rfl⟩:∃ p y,pre=p++[y]:=by
      have hne:pre ≠ []:=by intro e;rw [e] at hpl;simp at hpl;omega
      exact ⟨pre.dropLast,pre.getLast hne,(List.dropLast_concat_getLast hne).symm⟩
     have hq:k+1 - m=p.length+1:=by simp at hpl;omega
     have hq2:k+1 - (m+1)=p.length:=by omega
     rw [hq] at i9
     have e1:(p++[y]++x::suf++l.drop (k+1+1))=p++y::x::(suf++l.drop (k+1+1)):=by simp
     rw [e1] at hs2
     have hev:Even 2 ((p++y::x::(suf++l.drop (k+1+1))).map spRow):=Even.map spRow_len _
     have rx:=map_at (f:=spRow) (mid_at1 p y x (suf++l.drop (k+1+1)))
     have ry:=map_at (f:=spRow) (mid_at p y (x::(suf++l.drop (k+1+1))))
     obtain ⟨a1,a2⟩:=fl_at hev rx
     obtain ⟨b1,b2⟩:=fl_at hev ry
     have o1:=fl_over (v:=(spRow y)) hev rx rfl
     have hev1:Even 2 (((p++y::x::(suf++l.drop (k+1+1))).map spRow).set (p.length+1) (spRow y)):=hev.set rfl
     have ry1:(((p++y::x::(suf++l.drop (k+1+1))).map spRow).set (p.length+1) (spRow y))[p.length]? = some (spRow y):=by
      rw [List.getElem?_set_ne (by omega)];exact ry
     have b3:=(fl_at hev1 ry1).1
     have o2:=fl_over (v:=(spRow x)) hev1 ry1 rfl
     rw [swap_rows] at o2
     have hsum:(p++y::x::(suf++l.drop (k+1+1))).length≤l.length:=by
      simp at hpl ⊢;omega
     have hj:p.length+1 < l.length:=by simp at hsum;omega
     have hj0:p.length < l.length:=by omega
     have hwp:wrapq .i64 (Int.sub ((p.length+1:Nat):Int) 1)=((p.length:Nat):Int):=by
      have:=wrap_pred (k:=p.length+1) (n:=l.length) (by omega) (by omega) hl
      simpa using this
     have hpos:((0:Int) < ((p.length+1:Nat):Int))=True:=by simp only [eq_iff_iff,iff_true];omega
     have ec:=e118 x y
     have hB:spLt x y=decide (cmpI x.1 y.1 < 0):=rfl
     have hnext:=hdone (p++[y]) suf hp hlt
     rw [show ((p++x::y::(suf++l.drop (k+1+1))).map spRow).flatten=spF (p++x::y::(suf++l.drop (k+1+1))) from rfl] at o2
     rw [show ((p++y::x::(suf++l.drop (k+1+1))).map spRow).flatten=spF (p++y::x::(suf++l.drop (k+1+1))) from rfl] at a1 a2 b1 b2 o1
     generalize (((p++y::x::(suf++l.drop (k+1+1))).map spRow).set (p.length+1) (spRow y)).flatten=F1 at o1 b3 o2
     generalize hF0:spF (p++y::x::(suf++l.drop (k+1+1)))=F at hs2 a1 a2 b1 b2 o1
     have a1':((p.length+1) * 2+2≤F.length)=True:=by simp [a1]
     have b1':(p.length * 2+2≤F.length)=True:=by simp [b1]
     have b3':(p.length * 2+2≤F1.length)=True:=by simp [b3]
     have hlo:(lo≤id)=True:=by simp [hid]
     have szr:=sz_183
     generalize hE:cmpI x.1 y.1=E at ec hB
     rcases Classical.propComplete (E < 0) with z | z
     · have hlx:spLt x y=true:=by rw [hB];simp [z]
       have hend:isort spLt (l.take (k+1))=p++y::suf:=by rw [hp];simp
       obtain ⟨x1,x2⟩:=x
       obtain ⟨y1,y2⟩:=y
       simp only [spRow] at a2 b2 o1 o2 ec
       simp only [over,List.length_cons,List.length_nil,reduceAdd,Nat.zero_add] at o1 o2
       simp only [go_sem,reduceIte,reduceEqDiff,reduceAdd,reduceMul,reduceSub,reduceLeDiff,reduceLT,Nat.reduceBEq,reduceCtorEq,i0,i1,i2,i3,i8,i9,hs2,hlo,en118 h118,ec,z,a1',a2,b1',b2,b3',o1,o2,hj,hj0,hwp,hpos,szr]
       refine ⟨by rw [hq2],hn2,fun i hi => ?_,p,_::suf,hend,by simp [hsl],fun w hw => ?_, ?_⟩
       · rw [if_neg hi,if_neg hi];exact ho2 i hi
       · rcases List.mem_cons.1 hw with rfl | hw
         · exact hlx
         · exact hlt w hw
       · simp
     · have hlx:spLt x y=false:=by rw [hB];simp [z]
       have hnx:=hnext (.inr ⟨p,y,rfl,hlx⟩)
       obtain ⟨x1,x2⟩:=x
       obtain ⟨y1,y2⟩:=y
       simp only [spRow] at a2 b2 ec
       simp only [go_sem,reduceIte,reduceEqDiff,reduceAdd,reduceMul,reduceSub,reduceLeDiff,reduceLT,Nat.reduceBEq,reduceCtorEq,i0,i1,i2,i3,i8,i9,hs2,hlo,en118 h118,ec,z,a1',a2,b1',b2,hj,hj0,hwp,hpos,szr,hw]
       refine ⟨hn2,ho2, ?_⟩
       rw [hnx,e1,hF0]
   · rintro T H2 M ⟨rfl,i0,i1,i2,i3,i8,i9,hn2,ho2,pre,suf,hp,hsl,hlt,hs2⟩
     have hpl:pre=[]:=by
      have:=congrArg List.length hp
      rw [hlen,List.length_append] at this
      exact List.length_eq_zero_iff.1 (by omega)
     subst hpl
     have hnx:=hdone [] suf hp hlt (.inl rfl)
     rw [Nat.sub_self] at i9
     have i00:((0:Int) < 0)=False:=by simp
     simp only [go_sem,reduceIte,reduceEqDiff,reduceAdd,reduceMul,reduceSub,reduceLeDiff,reduceLT,Nat.reduceBEq,reduceCtorEq,i0,i1,i2,i3,i8,i9,i00,hw]
     refine ⟨hn2,ho2, ?_⟩
     rw [hnx];exact hs2
 · rintro T H1 M ⟨rfl,g0,g1,g2,g3,g8,hn1,ho1,hs1⟩
   have hk:l.length - 1+1=l.length:=by omega
   rw [hk] at g8 hs1
   rw [List.take_length,List.drop_length,List.append_nil] at hs1
   simp only [go_sem,reduceIte,reduceEqDiff,reduceAdd,reduceMul,reduceSub,reduceLeDiff,reduceLT,Nat.reduceBEq,reduceCtorEq,g0,g1,g2,g3,g8,Nat.lt_irrefl]
   exact ⟨rfl,hs1,hn1,ho1⟩
theorem r186 (h118:P 118=some p118) (h230:P 230=none) (l:List Spn) (hl:l.length≤12) (lo id:Nat) (lim:Int) (H:Heap) (hid:lo≤id) (hn:id < H.n) (hs:H.get id=.row (spF l) 2 183) :
 ∃ v H',R (NC.withPrims P) (.call lo 186 [.rs id 0 l.length 2 none,.int .i64 0,.int .i64 (l.length:Nat),.int .i64 lim,.fn 118 [] []] H)=some (.ofVal v H')∧v=aundef∧H'.get id=.row (spF (isort spLt l)) 2 183∧H'.n=H.n ∧ ∀ i,i ≠ id→H'.get i=H.get i:=by
 obtain ⟨v,H1,h1,rfl,h2⟩:=r230 h118 l (by unfold maxRows;omega) lo id H hid hn hs
 refine R_of_body (C:=NC.withPrims P) (f:=186) (lo:=lo) (args:=[.rs id 0 l.length 2 none,.int .i64 0,.int .i64 (l.length:Nat),.int .i64 lim,.fn 118 [] []]) (H:=H) (fn:=Tryz.f186) (Q:=fun v H'=>v=aundef∧H'.get id=.row (spF (isort spLt l)) 2 183∧H'.n=H.n ∧ ∀ i,i ≠ id→H'.get i=H.get i) (by kernel_rfl) Tryz.func186 rfl rfl ?_
 have q1:((12:Int) < ((l.length:Nat):Int))=False:=by simp only [eq_iff_iff,iff_false];omega
 have q2:wrapq .i64 (Int.sub ((l.length:Nat):Int) 0)=((l.length:Nat):Int):=by
  have e:Int.sub ((l.length:Nat):Int) 0=((l.length:Nat):Int):=by show ((l.length:Nat):Int) - 0=_;omega
  rw [e];exact wrap_nat (by omega)
 simp only [go_sem,reduceIte,reduceEqDiff,reduceAdd,reduceMul,reduceSub,reduceLeDiff,reduceLT,Nat.reduceBEq,reduceCtorEq,W_loop,q1,q2,en230 h230,h1,ofVal_v,ofVal_H]
 exact ⟨rfl,h2⟩
theorem r117 (h118:P 118=some p118) (h187:P 187=some p187) (h230:P 230=none) (h186:P 186=none) (l:List Spn) (hl:l.length≤12) (lo id:Nat) (H:Heap) (hid:lo≤id) (hn:id < H.n) (hs:H.get id=.row (spF l) 2 183) :
 ∃ v H',R (NC.withPrims P) (.call lo 117 [.rs id 0 l.length 2 none,.fn 118 [] []] H)=some (.ofVal v H')∧v=aundef∧H'.get id=.row (spF (isort spLt l)) 2 183∧H'.n=H.n ∧ ∀ i,i ≠ id→H'.get i=H.get i:=by
 obtain ⟨v,H1,h1,rfl,h2⟩:=r186 h118 h230 l hl lo id (bitsN l.length) H hid hn hs
 have e187:=pe187 l.length hl
 have cu:=conv_uint hl
 refine R_of_body (C:=NC.withPrims P) (f:=117) (lo:=lo) (args:=[.rs id 0 l.length 2 none,.fn 118 [] []]) (H:=H) (fn:=Tryz.f117) (Q:=fun v H'=>v=aundef∧H'.get id=.row (spF (isort spLt l)) 2 183∧H'.n=H.n ∧ ∀ i,i ≠ id→H'.get i=H.get i) (by kernel_rfl) Tryz.func117 rfl rfl ?_
 simp only [go_sem,reduceIte,reduceEqDiff,reduceAdd,reduceMul,reduceSub,reduceLeDiff,reduceLT,Nat.reduceBEq,reduceCtorEq,cu,en187 h187,e187,en186 h186,h1,ofVal_v,ofVal_H]
 exact ⟨rfl,h2⟩
end Go.Sim

/-
What is reached, by the program.
-/
-- INJ Leg.row_iff lgs_iff pts_iff ptr_iff spRow_iff sps_iff
namespace Go.Sim
open Go Go.Proofs
set_option maxRecDepth 100000
set_option maxHeartbeats 64000000
variable {P:FuncId→Option (List AV→Option AV)}
/-! ### Slices that are written, made by append -/
theorem appR_nil {lo:Nat} {H:Heap} {sz:Nat} {e:TypeId} {r:List AV} (h1:r.all AV.one=true) (h2:0 < sz):appR lo H sz e (.ps .nil []) [r]=some (.rs H.n 0 1 sz none,H.push (.row r sz e)):=by
 unfold appR
 have h3:[r].all (fun r=>r.all AV.one)=true:=by simp [h1]
 have h4:(([]:List (List AV))++[r]).flatten=r:=by simp
 simp only [Tok.full,h3,h2,h4,List.length_nil,List.length_cons,Nat.zero_add,decide_true,List.all_nil,Bool.and_true,Bool.true_and,if_true]
 rfl
theorem appR_more {lo:Nat} {H:Heap} {sz id n:Nat} {e:TypeId} {rows:List (List AV)} {r:List AV} (hn:n=rows.length) (hev:Even sz rows) (hid:H.get id=.row rows.flatten sz e) (hlo:lo≤id) (hl:n+1≤maxRows) (h1:r.all AV.one=true) (h2:0 < sz):appR lo H sz e (.rs id 0 n sz none) [r]=some (.rs H.n 0 (n+1) sz none,(H.set id .dead).push (.row (rows++[r]).flatten sz e)):=by
 subst hn
 have hf:=fl_len hev
 unfold appR
 have h3:[r].all (fun r=>r.all AV.one)=true:=by simp [h1]
 have h4:0+rows.length * sz=rows.flatten.length:=by omega
 have h5:rows.flatten.drop 0++[r].flatten=(rows++[r]).flatten:=by simp
 have h6:rows.length+[r].length=rows.length+1:=rfl
 simp only [h3,h2,hid,h4,h5,h6,hl,hlo,decide_true,Bool.and_true,Bool.true_and,if_true,Option.isNone_none]
def RS2 (b:Nat) (H:Heap) (v:AV) (L:List Spn):Prop:=(L=[]∧v=.ps .nil [])∨(L ≠ [] ∧ ∃ id,v=.rs id 0 L.length 2 none∧b≤id∧id < H.n∧H.get id=.row (spF L) 2 183)
/-! ### Stretches -/
abbrev Str:Type:=List Nat × Spn
def strow (s:Str):List AV:=[.str s.1,i64 s.2.1,i64 s.2.2]
theorem strow_len (s:Str):(strow s).length=3:=rfl
def stF (l:List Str):List AV:=(l.map strow).flatten
theorem st_at {l:List Str} {k:Nat} {p:Str} (h:l[k]? = some p):∃ rest,(stF l).drop (k * 3)=.str p.1::i64 p.2.1::i64 p.2.2::rest∧(stF l).drop (k * 3+1)=i64 p.2.1::i64 p.2.2::rest∧(stF l).drop (k * 3+1+1)=i64 p.2.2::rest ∧
 (k * 3+3≤(stF l).length)=True∧(k * 3+1+2≤(stF l).length)=True∧(k * 3+1+1≤(stF l).length)=True∧(k * 3+1+1+1≤(stF l).length)=True ∧ ∀ x:Int,over (stF l) (k * 3+1+1) [i64 x]=stF (l.set k (p.1,p.2.1,x)):=by
 obtain ⟨a,b,h1,h2,h3⟩:=fl_split (Even.map strow_len l) (map_at (f:=strow) h)
 have h1:stF l=a++strow p++b:=h1
 have hl:(stF l).length=k * 3+3+b.length:=by rw [h1,List.length_append,List.length_append,h2,strow_len]
 have hd:∀ n,(stF l).drop (k * 3+n)=(strow p++b).drop n:=by
  intro n
  rw [h1,List.append_assoc,← h2,List.drop_append]
  simp
 refine ⟨b, ?_, ?_, ?_, ?_, ?_, ?_, ?_, ?_⟩
 · have:=hd 0;rw [Nat.add_zero] at this;rw [this];rfl
 · rw [hd 1];rfl
 · rw [Nat.add_assoc,hd 2];rfl
 · simp only [eq_iff_iff,iff_true];omega
 · simp only [eq_iff_iff,iff_true];omega
 · simp only [eq_iff_iff,iff_true];omega
 · simp only [eq_iff_iff,iff_true];omega
 · intro x
   have h4:stF (l.set k (p.1,p.2.1,x))=a++strow (p.1,p.2.1,x)++b:=by
    unfold stF
    rw [List.map_set,h3]
   have e5:(stF l).take (k * 3+1+1)=a++[.str p.1,i64 p.2.1]:=by
    rw [h1,List.append_assoc,Nat.add_assoc,← h2,List.take_append]
    simp [strow]
    exact List.take_of_length_le (by omega)
   have e6:(stF l).drop (k * 3+1+1+1)=b:=by
    rw [Nat.add_assoc,Nat.add_assoc,hd 3];rfl
   unfold over
   rw [h4,e5]
   show a++[.str p.1,i64 p.2.1]++[i64 x]++(stF l).drop (k * 3+1+1+1)=_
   rw [e6]
   simp [strow]
theorem RS3_mono {X Y:Nat→Prop} (hXY:∀ i,X i→Y i) {e:TypeId} {H:Heap} {v:AV} {L:List Str} (h:(L=[]∧v=.ps .nil [])∨(L ≠ [] ∧ ∃ id,v=.rs id 0 L.length 3 none∧X id∧id < H.n∧H.get id=.row (stF L) 3 e)):(L=[]∧v=.ps .nil [])∨(L ≠ [] ∧ ∃ id,v=.rs id 0 L.length 3 none∧Y id∧id < H.n∧H.get id=.row (stF L) 3 e):=by
 rcases h with h | ⟨h1,id,h2,h3,h4,h5⟩
 · exact .inl h
 · exact .inr ⟨h1,id,h2,hXY id h3,h4,h5⟩
def RS3 (X:Nat→Prop) (e:TypeId) (H:Heap) (v:AV) (L:List Str):Prop:=(L=[]∧v=.ps .nil [])∨(L ≠ [] ∧ ∃ id,v=.rs id 0 L.length 3 none∧X id∧id < H.n∧H.get id=.row (stF L) 3 e)
/-! ### What is computed -/
def leftW (most:Int) (e:Ent):Int:=wrapq .i64 (Int.sub most e.2)
def spanE (len most:Int) (s:List Nat) (e:Ent):List Spn:=if beqL e.1.1 s && !decide (leftW most e < 0) then [(maxI 0 (wrapq .i64 (Int.sub e.1.2 (leftW most e))),minI len (wrapq .i64 (Int.add (wrapq .i64 (Int.add e.1.2 (leftW most e))) 1)))] else []
def spansE (len most:Int) (s:List Nat) (es:List Ent):List Spn:=es.flatMap (spanE len most s)
def mergeE (len most:Int) (s:List Nat) (es:List Ent):List Spn:=(isort spLt (spansE len most s es)).foldl joinP []
def strsE (most:Int) (es:List Ent) (l:Ln):List Str:=(mergeE (sumW l.ps 0) most l.name es).map fun p=>(l.name,p)
def reachE (most:Int) (es:List Ent) (ls:List Ln):List Str:=ls.flatMap (strsE most es)
theorem flatMap_take {α β:Type} {f:α→List β} {l:List α} {k:Nat} {x:α} (h:l[k]? = some x):(l.take (k+1)).flatMap f=(l.take k).flatMap f++f x:=by
 rw [List.take_add_one,h,List.flatMap_append];simp
theorem spanE_len (len most:Int) (s:List Nat) (e:Ent):(spanE len most s e).length≤1:=by unfold spanE;split<;>simp
theorem spansE_len (len most:Int) (s:List Nat):∀ es:List Ent,(spansE len most s es).length≤es.length
 | []=>Nat.le_refl _
 | e::r=>by
   have:=spansE_len len most s r
   have:=spanE_len len most s e
   show (spanE len most s e++spansE len most s r).length≤_
   rw [List.length_append,List.length_cons];omega
theorem joinP_len (acc:List Spn) (s:Spn):(joinP acc s).length≤acc.length+1:=by
 rcases List.eq_nil_or_concat acc with rfl | ⟨a,l,rfl⟩
 · simp [joinP_nil]
 · rw [List.concat_eq_append,joinP_snoc]
   split<;>simp
theorem joins_len:∀ (l acc:List Spn),(l.foldl joinP acc).length≤acc.length+l.length
 | [],acc=>by simp
 | s::r,acc=>by
   have h1:=joins_len r (joinP acc s)
   have h2:=joinP_len acc s
   show (r.foldl joinP (joinP acc s)).length≤_
   rw [List.length_cons];omega
theorem mergeE_len (len most:Int) (s:List Nat) (es:List Ent):(mergeE len most s es).length≤es.length:=by
 have h1:=joins_len (isort spLt (spansE len most s es)) []
 have h2:=isort_length spLt (spansE len most s es)
 have h3:=spansE_len len most s es
 unfold mergeE
 simp only [List.length_nil,Nat.zero_add] at h1
 omega
theorem strsE_few (most:Int) {es:List Ent} (h:es.length≤9):∀ ls:List Ln,(reachE most es ls).length≤9 * ls.length
 | []=>by simp [reachE]
 | l::r=>by
   have h1:=strsE_few most h r
   have h2:=mergeE_len (sumW l.ps 0) most l.name es
   show (strsE most es l++reachE most es r).length≤_
   rw [List.length_append,List.length_cons]
   have h3:(strsE most es l).length=(mergeE (sumW l.ps 0) most l.name es).length:=by unfold strsE;rw [List.length_map]
   omega
/-! ### The walk -/
theorem sort_nil (h186:P 186=none) (h230:P 230=none) (h187:P 187=some p187) (lo:Nat) (H:Heap):R (NC.withPrims P) (.call lo 117 [.ps .unk [],.fn 118 [] []] H)=some (.ofVal aundef H):=by
 have i10:((1:Int) < 0)=False:=by simp
 have w00:wrapq .i64 (Int.sub 0 0)=0:=rfl
 have q12:((12:Int) < 0)=False:=by simp
 have e187:p187 [.int .u64 0]=some (.int .i64 (bitsN 0)):=pe187 0 (by decide)
 have cu:aconv NC.P 3 320 (.int .i64 0)=some (.int .u64 0):=by kernel_rfl
 obtain ⟨v,H',q1,q2,q3⟩:=R_of_body (C:=NC.withPrims P) (f:=230) (lo:=lo) (args:=[.ps .unk [],.int .i64 0,.int .i64 0,.fn 118 [] []]) (H:=H) (fn:=Tryz.f230) (Q:=fun v H'=>v=aundef∧H'=H) (by kernel_rfl) Tryz.func230 rfl rfl (by
  simp only [go_sem,reduceIte,reduceEqDiff,reduceAdd,reduceMul,reduceSub,reduceLeDiff,reduceLT,Nat.reduceBEq,reduceCtorEq,W_loop,wl01,i10]
  rfl)
 rw [q2,q3] at q1
 obtain ⟨v',H2,r1,r2,r3⟩:=R_of_body (C:=NC.withPrims P) (f:=186) (lo:=lo) (args:=[.ps .unk [],.int .i64 0,.int .i64 0,.int .i64 (bitsN 0),.fn 118 [] []]) (H:=H) (fn:=Tryz.f186) (Q:=fun v H'=>v=aundef∧H'=H) (by kernel_rfl) Tryz.func186 rfl rfl (by
  simp only [go_sem,reduceIte,reduceEqDiff,reduceAdd,reduceMul,reduceSub,reduceLeDiff,reduceLT,Nat.reduceBEq,reduceCtorEq,W_loop,w00,q12,en230 h230,q1,ofVal_v,ofVal_H]
  rfl)
 rw [r2,r3] at r1
 obtain ⟨v',H3,s1,s2,s3⟩:=R_of_body (C:=NC.withPrims P) (f:=117) (lo:=lo) (args:=[.ps .unk [],.fn 118 [] []]) (H:=H) (fn:=Tryz.f117) (Q:=fun v H'=>v=aundef∧H'=H) (by kernel_rfl) Tryz.func117 rfl rfl (by
  simp only [go_sem,reduceIte,reduceEqDiff,reduceAdd,reduceMul,reduceSub,reduceLeDiff,reduceLT,Nat.reduceBEq,reduceCtorEq,cu,en187 h187,e187,en186 h186,r1,ofVal_v,ofVal_H]
  rfl)
 rw [s1,s2,s3]
theorem sp_one (lo:Nat) (H:Heap) (p:Spn):appR lo H 2 183 (.ps .nil []) [[.int .i64 p.1,.int .i64 p.2]]=some (.rs H.n 0 1 2 none,H.push (.row (spF [p]) 2 183)):=by
 rw [appR_nil rfl (by decide)];rfl
theorem sp_more (L:List Spn) (hl:L.length+1≤maxRows) (lo:Nat) (H:Heap) (id:Nat) (h1:H.get id=.row (spF L) 2 183) (h2:lo≤id) (p:Spn):appR lo H 2 183 (.rs id 0 L.length 2 none) [[.int .i64 p.1,.int .i64 p.2]]=some (.rs H.n 0 (L.length+1) 2 none,(H.set id .dead).push (.row (spF (L++[p])) 2 183)):=by
 rw [appR_more (rows:=L.map spRow) (by simp) (Even.map spRow_len L) h1 h2 hl rfl (by decide)]
 have:L.map spRow++[[AV.int .i64 p.1,.int .i64 p.2]]=(L++[p]).map spRow:=by simp [spRow]
 rw [this];rfl
theorem st_one (e:TypeId) (lo:Nat) (H:Heap) (s:List Nat) (x y:Int):appR lo H 3 e (.ps .nil []) [[.str s,.int .i64 x,.int .i64 y]]=some (.rs H.n 0 1 3 none,H.push (.row (stF [(s,x,y)]) 3 e)):=by
 rw [appR_nil rfl (by decide)];rfl
theorem st_more (e:TypeId) (L:List Str) (hl:L.length+1≤maxRows) (lo:Nat) (H:Heap) (id:Nat) (h1:H.get id=.row (stF L) 3 e) (h2:lo≤id) (s:List Nat) (x y:Int):appR lo H 3 e (.rs id 0 L.length 3 none) [[.str s,.int .i64 x,.int .i64 y]]=some (.rs H.n 0 (L.length+1) 3 none,(H.set id .dead).push (.row (stF (L++[(s,x,y)])) 3 e)):=by
 rw [appR_more (rows:=L.map strow) (by simp) (Even.map strow_len L) h1 h2 hl rfl (by decide)]
 have:L.map strow++[[AV.str s,.int .i64 x,.int .i64 y]]=(L++[(s,x,y)]).map strow:=by simp [strow]
 rw [this];rfl
theorem ref32a:(NC.withPrims P).refApp 32 218=true:=by kernel_rfl
theorem ref32b:(NC.withPrims P).refApp 32 63=true:=by kernel_rfl
theorem en99 (h:P 99=some p99) {lo:Nat} {rec:Rec} {args:List AV} {H:Heap} {K:AV→Heap→Prop}:VO (aenter (NC.withPrims P) rec lo 99 args H) K=AO (p99 args) fun v=>K v H:=enter_prim (by rfl) (known h (by kernel_rfl))
end Go.Sim

/-
What is reached, by the program's walk.
-/
-- INJ Leg.row_iff lgs_iff pts_iff ptr_iff spRow_iff sps_iff
namespace Go.Sim
open Go Go.Proofs
set_option maxRecDepth 100000
set_option maxHeartbeats 64000000
variable {P:FuncId→Option (List AV→Option AV)}
theorem foldl_tkJ {l:List Spn} {k:Nat} {x:Spn} (h:l[k]? = some x):(l.take (k+1)).foldl joinP []=joinP ((l.take k).foldl joinP []) x:=by
 rw [List.take_add_one,h,List.foldl_append];rfl
theorem sp_at {l:List Spn} {k:Nat} {p:Spn} (h:l[k]? = some p):∃ rest,(spF l).drop (k * 2)=i64 p.1::i64 p.2::rest∧(k * 2+2≤(spF l).length)=True:=by
 obtain ⟨a,b,h1,h2,_⟩:=fl_split (Even.map spRow_len l) (map_at (f:=spRow) h)
 have h1:spF l=a++spRow p++b:=h1
 have hl:(spF l).length=k * 2+2+b.length:=by rw [h1,List.length_append,List.length_append,h2,spRow_len]
 refine ⟨b, ?_,by simp only [eq_iff_iff,iff_true];omega⟩
 rw [h1,List.append_assoc,← h2,List.drop_append]
 simp [spRow]
theorem RS2_old {b:Nat} {H H':Heap} {v:AV} {L:List Spn} (h:RS2 b H v L) (hn:H.n≤H'.n) (ho:∀ j,j < H.n→H'.get j=H.get j):RS2 b H' v L:=by
 rcases h with h | ⟨h1,id,h2,h3,h4,h5⟩
 · exact .inl h
 · exact .inr ⟨h1,id,h2,h3,by omega,by rw [ho id h4];exact h5⟩
theorem net_lines {n:Net} (h:netP n=0):n.lines.length≤8:=by
 have h1:=(netP_parts h).1
 unfold linesP at h1
 split at h1
 · cases h1
 · omega
noncomputable def reachErr (n:Net) (a:Pt) (most:Int):Int:=firstI [placesP n [a],rangeI most 0 100000000]
theorem r32 (h99 : P 99 = some p99) (h111 : P 111 = some p111) (h114 : P 114 = some p114) (h115 : P 115 = some p115) (h116 : P 116 = some p116) (h118 : P 118 = some p118) (h187 : P 187 = some p187) (h117 : P 117 = none) (h186 : P 186 = none) (h230 : P 230 = none) (n : Net) (hn : n.Ok) (h4 : netP n = 0 → n.sws.length ≤ 4) (a : Pt) (most : Int) (lo : Nat) (H : Heap) (hlo : lo ≤ H.n) :
 ∃ v H', R (NC.withPrims P) (.call lo 32 [.agg n.cells, .agg (ptRow a), .int .i64 most] H) = some (.ofVal v H') ∧ (H.n ≤ H'.n ∧ ∀ j, j < H.n → H'.get j = H.get j) ∧ if reachErr n a most = 0 then ∃ x, v = .tup [x, i64 0] ∧ RS3 (fun id => H.n ≤ id) 224 H' x (reachE most (entO n a) n.lines) else v = .tup [.ps .nil [], i64 (reachErr n a most)] := by
 refine R_of_body (C := NC.withPrims P) (f := 32) (lo := lo) (args := [.agg n.cells, .agg (ptRow a), .int .i64 most]) (H := H) (fn := Tryz.f32) (Q := fun v H' => (H.n ≤ H'.n ∧ ∀ j, j < H.n → H'.get j = H.get j) ∧ if reachErr n a most = 0 then ∃ x, v = .tup [x, i64 0] ∧ RS3 (fun id => H.n ≤ id) 224 H' x (reachE most (entO n a) n.lines) else v = .tup [.ps .nil [], i64 (reachErr n a most)]) (by kernel_rfl) Tryz.func32 rfl rfl ?_
 have en111 : ∀ {rec lo args H K}, VO (aenter (NC.withPrims P) rec lo 111 args H) K = AO (p111 args) fun v => K v H := enter_prim rfl (by show (match NC.prim 111 with | some p => some p | none => P 111) = _; rw [h111]; kernel_rfl)
 have en114 : ∀ {rec lo args H K}, VO (aenter (NC.withPrims P) rec lo 114 args H) K = AO (p114 args) fun v => K v H := enter_prim rfl (by show (match NC.prim 114 with | some p => some p | none => P 114) = _; rw [h114]; kernel_rfl)
 have en115 : ∀ {rec lo args H K}, VO (aenter (NC.withPrims P) rec lo 115 args H) K = AO (p115 args) fun v => K v H := enter_prim rfl (by show (match NC.prim 115 with | some p => some p | none => P 115) = _; rw [h115]; kernel_rfl)
 have en116 : ∀ {rec lo args H K}, VO (aenter (NC.withPrims P) rec lo 116 args H) K = AO (p116 args) fun v => K v H := enter_prim rfl (by show (match NC.prim 116 with | some p => some p | none => P 116) = _; rw [h116]; kernel_rfl)
 have e114 := pe114 n [a] ⟨hn, by unfold maxRows; simp⟩
 have e115 := e115 most 0 100000000
 have hRE : reachErr n a most = firstI [placesP n [a], rangeI most 0 100000000] := rfl
 rw [hRE]
 have y0 : (H.n = H.n + 1) = False := by simp
 rcases Classical.propComplete (firstI [placesP n [a], rangeI most 0 100000000] = 0) with z | z
 case inr =>
  obtain ⟨a1, a2⟩ := a
  simp only [Net.cells, i64, ptRow, List.map_cons, List.map_nil] at e114
  generalize placesP n [(a1, a2)] = E1 at e114 z ⊢
  generalize rangeI most 0 100000000 = E2 at e115 z ⊢
  simp only [go_sem, reduceIte, reduceEqDiff, reduceAdd, reduceMul, reduceSub, reduceLeDiff, reduceLT, Nat.reduceBEq, reduceCtorEq, Net.cells, ptRow, ↓en114, ↓en115, ↓en111, e114, e115, e111_2, z]
  refine ⟨by omega, fun j h => ?_⟩
  rw [if_neg (by omega), if_neg (by omega)]
 have hzz := first2 _ _ (of_eq_true z)
 have hpz := places_zero hzz.1
 have hA := place_in hpz.1 (hpz.2 a (by simp))
 have e116 := pe116 n a ⟨hn, hpz.1, hA.1, hA.2⟩
 have hel : (entO n a).length ≤ 9 := by
  have := entTo_len n a n.sws.length
  have := h4 hpz.1
  show (entTo n a n.sws.length).length ≤ 9
  omega
 generalize entO n a = es at e116 hel ⊢
 obtain ⟨a1, a2⟩ := a
 simp only [Net.cells, i64, ptRow, List.map_cons, List.map_nil] at e114 e116
 have hz0 := of_eq_true z
 rw [hzz.1] at e114
 rw [hzz.2] at e115
 have f00 : firstI [0, 0] = 0 := rfl
 clear hRE z hzz hA
 simp only [go_sem, reduceIte, reduceEqDiff, reduceAdd, reduceMul, reduceSub, reduceLeDiff, reduceLT, Nat.reduceBEq, reduceCtorEq, Net.cells, ptRow, ↓en114, ↓en115, ↓en111, ↓en116, e114, e115, e111_2, f00, e116]
 refine W_for (fun i T H' M => M = [] ∧ getT T 2 = i64 most ∧ getT T 9 = .ps .unk (es.map entRow) ∧ getT T 36 = .ps .unk (n.lines.map Ln.row) ∧ getT T 37 = i64 (n.lines.length : Nat) ∧ getT T 38 = i64 i ∧ H.n ≤ H'.n ∧ (∀ j, j < H.n → H'.get j = H.get j) ∧ ∃ x, getT T 10 = x ∧ RS3 (fun id => H.n ≤ id) 224 H' x (reachE most es (n.lines.take i))) n.lines.length ?_ ?_ ?_
 · simp only [go_sem, reduceIte, reduceEqDiff, reduceAdd, reduceMul, reduceSub, reduceLeDiff, reduceLT, Nat.reduceBEq, reduceCtorEq, List.length_map]
   refine ⟨by omega, fun j h => ?_, _, rfl, .inl ⟨rfl, rfl⟩⟩
   rw [if_neg (by omega), if_neg (by omega)]
 · rintro i T Hc M hi ⟨rfl, t2, t9, t36, t37, t38, hnc, ho, x, t10, hX⟩
   obtain ⟨l, hl⟩ : ∃ p, n.lines[i]? = some p := ⟨n.lines[i], by simp⟩
   have hr := map_at (f := Ln.row) hl
   have hw := wrap_succ hi hn.lines
   have hmem := List.mem_of_getElem? hl
   have hft := flatMap_take (f := strsE most es) hl
   have hRT : reachE most es (n.lines.take (i + 1)) = reachE most es (n.lines.take i) ++ strsE most es l := hft
   have hbl : (reachE most es (n.lines.take i)).length ≤ 9 * i := by
    have := strsE_few most hel (n.lines.take i)
    rw [List.length_take] at this
    show (reachE most es (n.lines.take i)).length ≤ 9 * i
    omega
   rw [hRT]
   generalize reachE most es (n.lines.take i) = base at hX hbl ⊢
   have hl8 := net_lines hpz.1
   have e99 := pe99 l (hn.line l hmem).2
   have hlr : l.row = [.str l.name, .ps .unk (l.ps.map Pc.row)] := rfl
   have hSE : strsE most es l = (mergeE (sumW l.ps 0) most l.name es).map fun p => (l.name, p) := rfl
   rw [hSE]
   simp only [hlr, i64] at hr e99
   have hloc : (lo ≤ Hc.n) = True := by simp only [eq_iff_iff, iff_true]; omega
   have hel' : es.length ≤ maxRows := by unfold maxRows; omega
   simp only [go_sem, reduceIte, reduceEqDiff, reduceAdd, reduceMul, reduceSub, reduceLeDiff, reduceLT, Nat.reduceBEq, reduceCtorEq, t2, t9, t36, t37, t38, t10, hi, hr, hloc]
   obtain ⟨c, hc⟩ : ∃ c, c = Hc.n := ⟨_, rfl⟩
   rw [← hc]
   obtain ⟨len, hlen⟩ : ∃ len, len = sumW l.ps 0 := ⟨_, rfl⟩
   rw [← hlen] at e99 ⊢
   refine W_for (fun j T H' M => M = [] ∧ getT T 2 = i64 most ∧ getT T 9 = .ps .unk (es.map entRow) ∧ getT T 10 = x ∧ getT T 12 = .ptr c 0 ∧ getT T 36 = .ps .unk (n.lines.map Ln.row) ∧ getT T 37 = i64 (n.lines.length : Nat) ∧ getT T 38 = i64 i ∧ getT T 42 = .ps .unk (es.map entRow) ∧ getT T 43 = i64 (es.length : Nat) ∧ getT T 44 = i64 j ∧ c < H'.n ∧ H'.get c = .cells [.str l.name, .ps .unk (l.ps.map Pc.row)] 196 ∧ (∀ q, q < c → H'.get q = Hc.get q) ∧ ∃ y, getT T 13 = y ∧ RS2 (c + 1) H' y (spansE len most l.name (es.take j))) es.length ?_ ?_ ?_
   · simp only [go_sem, reduceIte, reduceEqDiff, reduceAdd, reduceMul, reduceSub, reduceLeDiff, reduceLT, Nat.reduceBEq, reduceCtorEq, List.length_map, t2, t9, t36, t37, t38, t10]
     refine ⟨by omega, fun q h => ?_, _, rfl, .inl ⟨rfl, rfl⟩⟩
     rw [if_neg (by omega), if_neg (by omega)]
   · clear t2 t9 t36 t37 t38 t10
     rintro j T H2 M hj ⟨rfl, t2, t9, t10, t12, t36, t37, t38, t42, t43, t44, hn2, g0, hq, y, t13, hY⟩
     obtain ⟨e, he⟩ : ∃ p, es[j]? = some p := ⟨es[j], by simp⟩
     have hre := map_at (f := entRow) he
     have hwj := wrap_succ hj hel'
     have hft := flatMap_take (f := spanE len most l.name) he
     have hST : spansE len most l.name (es.take (j + 1)) = spansE len most l.name (es.take j) ++ spanE len most l.name e := hft
     have hsl := spansE_len len most l.name (es.take j)
     rw [List.length_take] at hsl
     rw [hST]
     clear hft hST
     generalize spansE len most l.name (es.take j) = L at hY hsl ⊢
     have hSP : spanE len most l.name e = if beqL e.1.1 l.name && !decide (leftW most e < 0) then [(maxI 0 (wrapq .i64 (Int.sub e.1.2 (leftW most e))), minI len (wrapq .i64 (Int.add (wrapq .i64 (Int.add e.1.2 (leftW most e))) 1)))] else [] := rfl
     rw [hSP]
     clear hSP
     have hLW : wrapq .i64 (Int.sub most e.2) = leftW most e := rfl
     generalize leftW most e = LW at hLW ⊢
     have y1 : (c = H2.n) = False := by simp only [eq_iff_iff, iff_false]; omega
     have hlo1 : (lo ≤ H2.n) = True := by simp only [eq_iff_iff, iff_true]; omega
     obtain ⟨⟨e1, e2⟩, e3⟩ := e
     simp only [entRow, i64] at hre
     simp only at hLW
     cases hB : beqL e1 l.name with
     | false =>
       simp only [go_sem, reduceIte, reduceEqDiff, reduceAdd, reduceMul, reduceSub, reduceLeDiff, reduceLT, Nat.reduceBEq, reduceCtorEq, t2, t9, t10, t12, t36, t37, t38, t42, t43, t44, t13, hj, hre, hwj, g0, y1, hlo1, hB, hLW]
       exact ⟨by omega, fun q h => by rw [if_neg (by omega), if_neg (by omega)]; exact hq q h, _, rfl, RS2_old hY (by simp) (fun j h => by rw [Heap.get_set, if_neg (by omega), Heap.get_push, if_neg (by omega)])⟩
     | true =>
     rcases Classical.propComplete (LW < 0) with z | z
     · simp only [go_sem, reduceIte, reduceEqDiff, reduceAdd, reduceMul, reduceSub, reduceLeDiff, reduceLT, Nat.reduceBEq, reduceCtorEq, t2, t9, t10, t12, t36, t37, t38, t42, t43, t44, t13, hj, hre, hwj, g0, y1, hlo1, hB, hLW, z]
       exact ⟨by omega, fun q h => by rw [if_neg (by omega), if_neg (by omega)]; exact hq q h, _, rfl, RS2_old hY (by simp) (fun j h => by rw [Heap.get_set, if_neg (by omega), Heap.get_push, if_neg (by omega)])⟩
     have hao := fun lo H => sp_one lo H (maxI 0 (wrapq .i64 (Int.sub e2 LW)), minI len (wrapq .i64 (Int.add (wrapq .i64 (Int.add e2 LW)) 1)))
     have ham := fun lo H id h1 h2 => sp_more L (by unfold maxRows; omega) lo H id h1 h2 (maxI 0 (wrapq .i64 (Int.sub e2 LW)), minI len (wrapq .i64 (Int.add (wrapq .i64 (Int.add e2 LW)) 1)))
     simp only at hao ham
     rcases hY with ⟨rfl, rfl⟩ | ⟨hne, id, rfl, hid1, hid2, hid3⟩
     · simp only [go_sem, reduceIte, reduceEqDiff, reduceAdd, reduceMul, reduceSub, reduceLeDiff, reduceLT, Nat.reduceBEq, reduceCtorEq, t2, t9, t10, t12, t36, t37, t38, t42, t43, t44, t13, hj, hre, hwj, g0, y1, hlo1, hB, hLW, z, ↓en99 h99, e99, appO, ref32a, hao]
       exact ⟨by omega, by rw [if_neg (by omega)], fun q h => by (repeat rw [if_neg (by omega)]); exact hq q h, _, rfl, .inr ⟨by simp, H2.n + 1, by simp, by omega, by simp, by rw [Heap.get_push, if_pos (by simp)]⟩⟩
     · have y2 : (c = id) = False ∧ (id = H2.n) = False ∧ (H2.n = id) = False ∧ (id = c) = False := by simp only [eq_iff_iff, iff_false]; omega
       have hlo2 : (lo ≤ id) = True := by simp only [eq_iff_iff, iff_true]; omega
       simp only [go_sem, reduceIte, reduceEqDiff, reduceAdd, reduceMul, reduceSub, reduceLeDiff, reduceLT, Nat.reduceBEq, reduceCtorEq, t2, t9, t10, t12, t36, t37, t38, t42, t43, t44, t13, hj, hre, hwj, g0, y1, y2, hlo1, hlo2, hB, hLW, z, ↓en99 h99, e99, appO, ref32a, hid3, ham]
       exact ⟨by omega, by rw [if_neg (by omega)], fun q h => by (repeat rw [if_neg (by omega)]); exact hq q h, _, rfl, .inr ⟨by simp, H2.n + 1, by simp, by omega, by simp, by rw [Heap.get_push, if_pos (by simp)]⟩⟩
   · clear t2 t9 t36 t37 t38 t10
     rintro T H2 M ⟨rfl, t2, t9, t10, t12, t36, t37, t38, t42, t43, t44, hn2, g0, hq, y, t13, hY⟩
     rw [List.take_length] at hY
     have hsl := spansE_len len most l.name es
     have hMG : mergeE len most l.name es = (isort spLt (spansE len most l.name es)).foldl joinP [] := rfl
     rw [hMG]
     clear hMG
     generalize spansE len most l.name es = SP at hY hsl ⊢
     have hX2 : RS3 (fun id => H.n ≤ id ∧ id < c) 224 H2 x base := by
      rcases hX with h | ⟨h1, id, h2, h3, h4, h5⟩
      · exact .inl h
      · exact .inr ⟨h1, id, h2, ⟨h3, by omega⟩, by omega, by rw [hq id (by omega)]; exact h5⟩
     have hal : ∀ H', alen NC.P H' 63 x = some (.int .i64 (base.length : Nat)) := fun H' => by
      rcases hX with ⟨rfl, rfl⟩ | ⟨_, id, rfl, _⟩
      · rfl
      · rfl
     clear hX
     rcases hY with ⟨rfl, rfl⟩ | ⟨hne, id2, rfl, hid1, hid2, hid3⟩
     · have hsn := fun lo H => sort_nil (P := P) h186 h230 h187 lo H
       have hX4 : RS3 (fun id => H.n ≤ id) 224 H2 x (base ++ ((isort spLt ([] : List Spn)).foldl joinP []).map fun p => (l.name, p)) := by
        rw [show base ++ ((isort spLt ([] : List Spn)).foldl joinP []).map (fun p => (l.name, p)) = base by simp [isort, isortRev]]
        exact RS3_mono (fun i h => h.1) hX2
       have hoH : ∀ q, q < H.n → H2.get q = H.get q := fun q h => by rw [hq q (by omega)]; exact ho q h
       have hb0 : (x = .ps .nil []) ∨ (∃ id, x = .rs id 0 base.length 3 none) := by
        rcases hX2 with ⟨_, h2⟩ | ⟨_, id0, h2, _⟩
        · exact .inl h2
        · exact .inr ⟨id0, h2⟩
       clear hX2
       have hXc := hX4
       rcases hb0 with rfl | ⟨id0, rfl⟩
       all_goals
        simp only [go_sem, reduceIte, reduceEqDiff, reduceAdd, reduceMul, reduceSub, reduceLeDiff, reduceLT, Nat.reduceBEq, reduceCtorEq, t2, t9, t10, t12, t36, t37, t38, t42, t43, t44, t13, Nat.lt_irrefl, en117 h117, hsn, ofVal_v, ofVal_H]
        refine W_for (fun k T H' M => M = [] ∧ H' = H2 ∧ getT T 2 = i64 most ∧ getT T 9 = .ps .unk (es.map entRow) ∧ getT T 36 = .ps .unk (n.lines.map Ln.row) ∧ getT T 37 = i64 (n.lines.length : Nat) ∧ getT T 38 = i64 i ∧ getT T 87 = i64 0 ∧ getT T 88 = i64 k ∧ ∃ x, getT T 10 = x ∧ RS3 (fun id => H.n ≤ id) 224 H2 x (base ++ ((isort spLt ([] : List Spn)).foldl joinP []).map fun p => (l.name, p))) 0 ?_ ?_ ?_
        · simp only [go_sem, reduceIte, reduceEqDiff, reduceAdd, reduceMul, reduceSub, reduceLeDiff, reduceLT, Nat.reduceBEq, reduceCtorEq, t2, t9, t10, t12, t36, t37, t38]
          exact ⟨_, rfl, hXc⟩
        · intro k T H4 M hk
          exact absurd hk (Nat.not_lt_zero _)
        · rintro T H4 M ⟨rfl, rfl, t2, t9, t36, t37, t38, t87, t88, x', t10, hX⟩
          have i00 : ((0 : Int) < 0) = False := by simp
          simp only [go_sem, reduceIte, reduceEqDiff, reduceAdd, reduceMul, reduceSub, reduceLeDiff, reduceLT, Nat.reduceBEq, reduceCtorEq, t2, t9, t10, t36, t37, t38, t87, t88, i00, hw]
          trace_state
          exact ⟨by omega, hoH, _, rfl, hX⟩
     · obtain ⟨v, H3, s1, rfl, s2, s3, s4⟩ := r117 (P := P) h118 h187 h230 h186 SP (by omega) lo id2 H2 (by omega) hid2 hid3
       have hX4 : RS3 (fun id => H.n ≤ id ∧ id ≠ id2 ∧ id ≠ c) 224 H3 x base := by
        rcases hX2 with h | ⟨h1, id, h2, h3, h4, h5⟩
        · exact .inl h
        · exact .inr ⟨h1, id, h2, ⟨h3.1, by omega, by omega⟩, by omega, by rw [s4 id (by omega)]; exact h5⟩
       have hgc : H3.get c = .cells [.str l.name, .ps .unk (l.ps.map Pc.row)] 196 := by rw [s4 c (by omega)]; exact g0
       have hoH : ∀ q, q < H.n → H3.get q = H.get q := fun q h => by rw [s4 q (by omega), hq q (by omega)]; exact ho q h
       have hSl : (isort spLt SP).length = SP.length := isort_length spLt SP
       have hS9 : SP.length ≤ 9 := by omega
       clear hq hid3 s4 g0 hsl
       obtain ⟨S, hS⟩ : ∃ S, S = isort spLt SP := ⟨_, rfl⟩
       rw [← hS] at s2 hSl ⊢
       have hXc := hX4
       have hb0 : (base = [] ∧ x = .ps .nil [] ∧ ((base.length : Nat) : Int) = 0) ∨ ((∃ id, x = .rs id 0 base.length 3 none) ∧ True) := by
        rcases hX2 with ⟨h1, h2⟩ | ⟨_, id0, h2, _⟩
        · exact .inl ⟨h1, h2, by rw [h1]; rfl⟩
        · exact .inr ⟨⟨id0, h2⟩, trivial⟩
       clear hX2
       rcases hb0 with ⟨_, rfl, hbl0⟩ | ⟨⟨id0, rfl⟩, hbl0⟩
       all_goals
        simp only [go_sem, reduceIte, reduceEqDiff, reduceAdd, reduceMul, reduceSub, reduceLeDiff, reduceLT, Nat.reduceBEq, reduceCtorEq, t2, t9, t10, t12, t36, t37, t38, t42, t43, t44, t13, Nat.lt_irrefl, en117 h117, s1, ofVal_v, ofVal_H]
        refine W_for (fun k T H' M => M = [] ∧ getT T 2 = i64 most ∧ getT T 9 = .ps .unk (es.map entRow) ∧ getT T 12 = .ptr c 0 ∧ getT T 36 = .ps .unk (n.lines.map Ln.row) ∧ getT T 37 = i64 (n.lines.length : Nat) ∧ getT T 38 = i64 i ∧ getT T 17 = i64 (base.length : Nat) ∧ getT T 86 = .rs id2 0 SP.length 2 none ∧ getT T 87 = i64 (SP.length : Nat) ∧ getT T 88 = i64 k ∧ c < H'.n ∧ id2 < H'.n ∧ H'.get c = .cells [.str l.name, .ps .unk (l.ps.map Pc.row)] 196 ∧ H'.get id2 = .row (spF S) 2 183 ∧ (∀ q, q < H.n → H'.get q = H.get q) ∧ ∃ x, getT T 10 = x ∧ RS3 (fun id => H.n ≤ id ∧ id ≠ id2 ∧ id ≠ c) 224 H' x (base ++ ((S.take k).foldl joinP []).map fun p => (l.name, p))) SP.length ?_ ?_ ?_
        · simp only [go_sem, reduceIte, reduceEqDiff, reduceAdd, reduceMul, reduceSub, reduceLeDiff, reduceLT, Nat.reduceBEq, reduceCtorEq, t2, t9, t10, t12, t36, t37, t38, hbl0]
          exact ⟨by omega, by omega, hgc, s2, hoH, _, rfl, by simpa using hXc⟩
        · clear hXc hX4 hal hgc hoH s1 s2 s3 t2 t9 t10 t12 t36 t37 t38 t42 t43 t44 t13 hS
          rintro k T H4 M hk ⟨rfl, t2, t9, t12, t36, t37, t38, t17, t86, t87, t88, hn4, hi4, gc, gS, ho4, x', t10, hX⟩
          obtain ⟨p, hp⟩ : ∃ p, S[k]? = some p := ⟨S[k]'(by omega), by simp⟩
          have hwk := wrap_succ hk (show SP.length ≤ maxRows by unfold maxRows; omega)
          have hft := foldl_tkJ hp
          have hacc := joins_len (S.take k) []
          rw [List.length_take, List.length_nil] at hacc
          rw [hft]
          clear hft
          generalize (S.take k).foldl joinP [] = acc at hX hacc ⊢
          obtain ⟨rest, sd, sl2⟩ := sp_at hp
          have y1 : (c = H4.n) = False ∧ (id2 = H4.n) = False ∧ (H4.n = c) = False ∧ (H4.n = id2) = False := by simp only [eq_iff_iff, iff_false]; omega
          have hlo1 : (lo ≤ H4.n) = True := by simp only [eq_iff_iff, iff_true]; omega
          obtain ⟨p1, p2⟩ := p
          simp only [i64] at sd
          rcases List.eq_nil_or_concat acc with rfl | ⟨ac, q, rfl⟩
          · rw [joinP_nil]
            have hlt : (wrapq .i64 (Int.sub (base.length : Int) 1) < (base.length : Int)) = True := by
             have e : Int.sub (base.length : Int) 1 = (base.length : Int) - 1 := rfl
             rw [e, wrap_small (by omega) (by omega)]
             simp only [eq_iff_iff, iff_true]; omega
            simp only [List.map_nil, List.append_nil, List.map_cons] at hX ⊢
            have hao := fun lo H => st_one 224 lo H l.name p1 p2
            have ham := fun lo H id h1 h2 => st_more 224 base (by unfold maxRows; omega) lo H id h1 h2 l.name p1 p2
            rcases hX with ⟨hb0, rfl⟩ | ⟨hbne, id3, rfl, ⟨x1, x2, x3⟩, x4, x5⟩
            · have hlt0 : (wrapq .i64 (Int.sub 0 1) < (base.length : Int)) = True := by
               have e : wrapq .i64 (Int.sub 0 1) = -1 := rfl
               rw [e]; simp only [eq_iff_iff, iff_true]; omega
              simp only [go_sem, reduceIte, reduceEqDiff, reduceAdd, reduceMul, reduceSub, reduceLeDiff, reduceLT, Nat.reduceBEq, reduceCtorEq, t2, t9, t10, t12, t36, t37, t38, t17, t86, t87, t88, hk, gc, gS, sd, sl2, y1, hlo1, hlt0, hwk, appO, ref32b, hao]
              rw [hb0]
              exact ⟨by omega, by omega, by rw [if_neg (by omega)], by rw [if_neg (by omega)], fun q h => by (repeat rw [if_neg (by omega)]); exact ho4 q h, _, rfl, .inr ⟨by simp, H4.n + 1, by simp, ⟨by omega, by omega, by omega⟩, by simp, by rw [Heap.get_push, if_pos (by simp)]; rfl⟩⟩
            · have y2 : (id3 = H4.n) = False ∧ (H4.n = id3) = False ∧ (c = id3) = False ∧ (id2 = id3) = False := by simp only [eq_iff_iff, iff_false]; omega
              have hlo2 : (lo ≤ id3) = True := by simp only [eq_iff_iff, iff_true]; omega
              simp only [go_sem, reduceIte, reduceEqDiff, reduceAdd, reduceMul, reduceSub, reduceLeDiff, reduceLT, Nat.reduceBEq, reduceCtorEq, t2, t9, t10, t12, t36, t37, t38, t17, t86, t87, t88, hk, gc, gS, sd, sl2, y1, y2, hlo1, hlo2, hlt, hwk, appO, ref32b, x5, ham]
              exact ⟨by omega, by omega, by rw [if_neg (by omega)], by rw [if_neg (by omega)], fun q h => by (repeat rw [if_neg (by omega)]); exact ho4 q h, _, rfl, .inr ⟨by simp, H4.n + 1, by simp, ⟨by omega, by omega, by omega⟩, by simp, by rw [Heap.get_push, if_pos (by simp)]⟩⟩
          · rw [List.concat_eq_append] at hX hacc ⊢
            rw [joinP_snoc]
            have eL : base ++ (ac ++ [q]).map (fun p => (l.name, p)) = (base ++ ac.map fun p => (l.name, p)) ++ [(l.name, q)] := by simp
            have hLl : (base ++ ac.map fun p => (l.name, p)).length = base.length + ac.length := by simp
            have eL1 : base ++ (ac ++ [(q.1, if q.2 < p2 then p2 else q.2)]).map (fun p => (l.name, p)) = (base ++ ac.map fun p => (l.name, p)) ++ [(l.name, q.1, if q.2 < p2 then p2 else q.2)] := by simp
            have eL2 : base ++ (ac ++ [q] ++ [(p1, p2)]).map (fun p => (l.name, p)) = (base ++ ac.map fun p => (l.name, p)) ++ [(l.name, q)] ++ [(l.name, p1, p2)] := by simp
            rw [eL] at hX
            generalize (base ++ ac.map fun p => (l.name, p)) = Lp at hX hLl eL1 eL2
            rcases hX with ⟨hb0, _⟩ | ⟨_, id3, rfl, ⟨x1, x2, x3⟩, x4, x5⟩
            · simp at hb0
            have hat : (Lp ++ [(l.name, q)])[Lp.length]? = some (l.name, q) := by simp
            obtain ⟨rest3, d0, d1, d2, l3, l2, l1, l0, hov⟩ := st_at hat
            have hlen : (Lp ++ [(l.name, q)]).length = Lp.length + 1 := by simp
            rw [hlen] at t10
            have hLm : Lp.length + 2 ≤ maxRows := by
             simp at hacc
             unfold maxRows; omega
            have hidx : wrapq .i64 (Int.sub ((Lp.length + 1 : Nat) : Int) 1) = ((Lp.length : Nat) : Int) := by
             have := wrap_pred (k := Lp.length + 1) (n := Lp.length + 1) (by omega) (Nat.le_refl _) (by omega)
             simpa using this
            have hge : (Lp.length < base.length) = False := by simp only [eq_iff_iff, iff_false]; omega
            have y2 : (id3 = H4.n) = False ∧ (H4.n = id3) = False ∧ (c = id3) = False ∧ (id2 = id3) = False := by simp only [eq_iff_iff, iff_false]; omega
            have hlo2 : (lo ≤ id3) = True := by simp only [eq_iff_iff, iff_true]; omega
            obtain ⟨q1, q2⟩ := q
            simp only [i64] at d2
            simp only at eL1 eL2 hov
            rcases Classical.propComplete (q2 < p1) with z | z
            · rw [if_neg (by have := of_eq_true z; simp only; omega), eL2]
              have ham := fun lo H id h1 h2 => st_more 224 (Lp ++ [(l.name, q1, q2)]) (by rw [hlen]; omega) lo H id h1 h2 l.name p1 p2
              rw [hlen] at ham
              simp only [go_sem, reduceIte, reduceEqDiff, reduceAdd, reduceMul, reduceSub, reduceLeDiff, reduceLT, Nat.reduceBEq, reduceCtorEq, t2, t9, t10, t12, t36, t37, t38, t17, t86, t87, t88, hk, gc, gS, sd, sl2, y1, y2, hlo1, hlo2, hidx, Int.ofNat_lt, hge, hwk, appO, ref32b, x5, d2, l0, z, ham]
              exact ⟨by omega, by omega, by rw [if_neg (by omega)], by rw [if_neg (by omega)], fun q h => by (repeat rw [if_neg (by omega)]); exact ho4 q h, _, rfl, .inr ⟨by simp, H4.n + 1, by simp, ⟨by omega, by omega, by omega⟩, by simp, by rw [Heap.get_push, if_pos (by simp)]⟩⟩
            · have hz : ¬ (q2 < p1) := fun h => by rw [eq_true h] at z; simp at z
              rw [if_pos (by show p1 ≤ q2; omega), eL1]
              have hov' := hov (if q2 < p2 then p2 else q2)
              rw [show (Lp ++ [(l.name, q1, q2)]).set Lp.length (l.name, q1, if q2 < p2 then p2 else q2) = Lp ++ [(l.name, q1, if q2 < p2 then p2 else q2)] by simp] at hov'
              have hmx : maxI q2 p2 = if q2 < p2 then p2 else q2 := rfl
              rw [← hmx] at hov' ⊢
              simp only [over, i64, List.length_cons, List.length_nil, reduceAdd, Nat.zero_add] at hov'
              simp only [go_sem, reduceIte, reduceEqDiff, reduceAdd, reduceMul, reduceSub, reduceLeDiff, reduceLT, Nat.reduceBEq, reduceCtorEq, t2, t9, t10, t12, t36, t37, t38, t17, t86, t87, t88, hk, gc, gS, sd, sl2, y1, y2, hlo1, hlo2, hidx, Int.ofNat_lt, hge, hwk, appO, ref32b, x5, d2, l0, z, hov']
              exact ⟨by omega, by omega, fun q h => by (repeat rw [if_neg (by omega)]); exact ho4 q h, _, rfl, .inr ⟨by simp, id3, by simp, ⟨x1, x2, x3⟩, by simp; omega, by rw [Heap.get_set, if_pos rfl]⟩⟩
        · rintro T H4 M ⟨rfl, t2, t9, t12, t36, t37, t38, t17, t86, t87, t88, hn4, hi4, gc, gS, ho4, x', t10, hX⟩
          rw [← hSl, List.take_length] at hX
          simp only [go_sem, reduceIte, reduceEqDiff, reduceAdd, reduceMul, reduceSub, reduceLeDiff, reduceLT, Nat.reduceBEq, reduceCtorEq, t2, t9, t10, t12, t36, t37, t38, t17, t86, t87, t88, Nat.lt_irrefl, hw]
          exact ⟨by omega, ho4, _, rfl, RS3_mono (fun i h => h.1) hX⟩
 · rintro T Hc M ⟨rfl, t2, t9, t36, t37, t38, hnc, ho, x, t10, hX⟩
   rw [List.take_length] at hX
   simp only [go_sem, reduceIte, reduceEqDiff, reduceAdd, reduceMul, reduceSub, reduceLeDiff, reduceLT, Nat.reduceBEq, reduceCtorEq, t2, t9, t36, t37, t38, t10, Nat.lt_irrefl]
   refine ⟨⟨hnc, ho⟩, ?_⟩
   rw [if_pos hz0]
   exact ⟨x, rfl, hX⟩
end Go.Sim

/-
Ways: the reference's order is the order of ways.
-/
namespace Go.Sim
open Go Go.Proofs
set_option maxRecDepth 100000
set_option maxHeartbeats 4000000
theorem absR_len {l:Leg} (h1:inR l.fr) (h2:inR l.to):absR (wrapq .i64 (Int.sub l.to l.fr))=l.len∧0≤l.len∧l.len≤800000:=by
 obtain ⟨a1,a2⟩:=h1
 obtain ⟨b1,b2⟩:=h2
 have e2:Int.sub l.to l.fr=l.to - l.fr:=rfl
 unfold absR
 rw [e2,wrap_small (x:=l.to - l.fr) (by omega) (by omega)]
 have e1:Int.sub 0 (l.to - l.fr)=0 - (l.to - l.fr):=rfl
 have e3:wrapq .i64 (Int.sub 0 (l.to - l.fr))=0 - (l.to - l.fr):=by rw [e1];exact wrap_small (by omega) (by omega)
 rw [e3]
 unfold Leg.len maxI dI
 (repeat' split)<;>omega
theorem sumR_eq:∀ {w:List Leg} {s:Int},(∀ l ∈ w,inR l.fr∧inR l.to)→0≤s→s+800000 * w.length≤1000000000→sumR w s=s+wSum w
 | [],s,_,_,_=>by simp [sumR,wSum]
 | l::r,s,h,h0,h8=>by
   obtain ⟨h1,h2⟩:=h l (by simp)
   obtain ⟨e1,e2,e3⟩:=absR_len h1 h2
   have hc:((l::r).length:Int)=(r.length:Int)+1:=by simp
   rw [hc] at h8
   have e:wrapq .i64 (Int.add s l.len)=s+l.len:=wrapq_i64 (by show _≤s+l.len;omega) (by show s+l.len≤_;omega)
   show sumR r (wrapq .i64 (Int.add s (absR (wrapq .i64 (Int.sub l.to l.fr)))))=s+(l.len+wSum r)
   rw [e1,e,sumR_eq (fun q hq=>h q (by simp [hq])) (by omega) (by omega)]
   omega
theorem lexR_eq {n:Net} {S:List Nat→Prop} (inj:∀ a b,S a→S b→findI n.lines a=findI n.lines b→a=b):∀ {a b:List Leg},knownL S a→knownL S b→lexR n a b=lexLt (findI n.lines) a b
 | [],_,_,_=>by unfold lexR lexLt;rfl
 | _::_,[],_,_=>by unfold lexR lexLt;rfl
 | x::r,y::t,ha,hb=>by
   have ih:=lexR_eq inj (a:=r) (b:=t) (fun l hl=>ha l (by simp [hl])) (fun l hl=>hb l (by simp [hl]))
   have hx:=ha x (by simp)
   have hy:=hb y (by simp)
   show (if beqL x.line y.line=true then (if x.fr=y.fr then (if x.to=y.to then lexR n r t else decide (x.to < y.to)) else decide (x.fr < y.fr)) else decide (findI n.lines x.line < findI n.lines y.line))=(legLt (findI n.lines) x y || (legSame (findI n.lines) x y && lexLt (findI n.lines) r t))
   rw [ih]
   unfold legLt legSame
   by_cases h1:x.line=y.line
   · rw [if_pos ((beqL_iff _ _).2 h1),h1]
     by_cases h2:x.fr=y.fr
     · rw [if_pos h2,h2]
       by_cases h3:x.to=y.to
       · rw [if_pos h3,h3];simp
       · rw [if_neg h3];simp [h3]
     · rw [if_neg h2];simp [h2]
   · have hne:¬ (findI n.lines x.line=findI n.lines y.line):=fun q=>h1 (inj _ _ hx hy q)
     rw [if_neg fun q=>h1 ((beqL_iff _ _).1 q)]
     simp [hne]
theorem lessR_eq {n:Net} {S:List Nat→Prop} (inj:∀ a b,S a→S b→findI n.lines a=findI n.lines b→a=b) {a b:List Leg} (ka:knownL S a) (kb:knownL S b) (ha:∀ l ∈ a,inR l.fr∧inR l.to) (hb:∀ l ∈ b,inR l.fr∧inR l.to) (la:a.length≤100) (lb:b.length≤100):lessR n a b=wLt (findI n.lines) a b:=by
 unfold lessR wLt
 rw [sumR_eq ha (by omega) (by omega),sumR_eq hb (by omega) (by omega),lexR_eq inj ka kb]
 simp only [Int.zero_add]
 by_cases h1:wSum a=wSum b
 · rw [if_pos h1,h1]
   by_cases h2:a.length=b.length
   · rw [if_pos h2,h2];simp
   · rw [if_neg h2];simp [h2]
 · rw [if_neg h1];simp [h1]
end Go.Sim

/-
Ways: the reference's least way is the best one.
-/
namespace Go.Sim
open Go Go.Proofs
set_option maxRecDepth 100000
set_option maxHeartbeats 4000000
theorem waysL_len (E:Nat→Bool→Pt) (N:Nat) (b:Pt):∀ (n:Nat) (w:List Leg) (a:Pt) (used:List Bool) (v:List Leg),v ∈ waysL E N b n w a used→v.length≤w.length+n
 | 0,_,_,_,_,h=>by cases h
 | n+1,w,a,used,v,h=>by
   unfold waysL at h
   rcases List.mem_append.1 h with h | h
   · split at h
     · rw [List.mem_singleton.1 h];simp
     · cases h
   · obtain ⟨i,_,h⟩:=List.mem_flatMap.1 h
     obtain ⟨k,_,h⟩:=List.mem_flatMap.1 h
     split at h
     · cases h
     · have:=waysL_len E N b n _ _ _ _ h
       simp only [List.length_append,List.length_cons,List.length_nil] at this
       omega
def takeR (n:Net) (s:Option (List Leg)) (w:List Leg):Option (List Leg):=match s with
 | none=>some w
 | some v=>if lessR n w v=true then some w else some v
theorem foldR_eq {n:Net} {G:List Leg→Prop} (hG:∀ a b,G a→G b→lessR n a b=wLt (findI n.lines) a b):∀ (l:List (List Leg)) (s:Option (List Leg)),(∀ v ∈ l,G v)→(∀ v,s=some v→G v)→l.foldl (takeR n) s=l.foldl (takeW (findI n.lines)) s
 | [],_,_,_=>rfl
 | x::r,s,h,hs=>by
   have hx:=h x (by simp)
   have e:takeR n s x=takeW (findI n.lines) s x:=by
    cases s with
    | none=>rfl
    | some v =>
      show (if lessR n x v=true then some x else some v)=if wLt (findI n.lines) x v=true then some x else some v
      rw [hG x v hx (hs v rfl)]
   show r.foldl (takeR n) (takeR n s x)=r.foldl (takeW (findI n.lines)) (takeW (findI n.lines) s x)
   rw [e]
   refine foldR_eq hG r _ (fun v hv=>h v (by simp [hv])) fun v hv => ?_
   cases s with
   | none=>cases hv;exact hx
   | some u =>
     unfold takeW at hv
     simp only [] at hv
     split at hv
     · cases hv;exact hx
     · cases hv;exact hs _ rfl
theorem waysR_best {n:Net} (h:netP n=0) {a b:Pt} (ha:lnB n.lines a.1=true) (hRa:inR a.2) (hRb:inR b.2):(waysL (endE n) n.sws.length b (n.sws.length+1) [] a (List.replicate n.sws.length false)).foldl (takeR n) none=bestO n a b:=by
 have h8:=net_sws h
 rw [foldR_eq (G:=fun v=>knownL (fun s=>lnB n.lines s=true) v∧(∀ l ∈ v,inR l.fr∧inR l.to)∧v.length≤100) (fun x y hx hy=>lessR_eq (findI_inj h) hx.1 hy.1 hx.2.1 hy.2.1 hx.2.2 hy.2.2) _ none ?_ (fun v hv=>by cases hv)]
 · exact bestO_of h ha (waysL_best (S:=fun s=>lnB n.lines s=true) (findI_inj h) (fun i k hi=>(ends_in h i k hi).1) ha)
 · intro v hv
   have hl:=waysL_len _ _ _ _ _ _ _ _ hv
   obtain ⟨σ,s1,s2⟩:=waysL_sound _ _ _ _ _ _ _ _ hv
   rw [List.nil_append] at s2
   refine ⟨?_, ?_,by simp at hl;omega⟩
   · rw [s2];exact legsOf_knownL (fun i k hi=>(ends_in h i k hi).1) ha s1
   · rw [s2];exact legsOf_in (fun i k hi=>(ends_in h i k hi).2) hRa hRb s1
end Go.Sim

/-
Ways: all ways, by the reference's walk.
-/
-- INJ Leg.row_iff lgs_iff
namespace Go.Sim
open Go Go.Proofs
set_option maxRecDepth 100000
set_option maxHeartbeats 16000000
variable {P:FuncId→Option (List AV→Option AV)}
theorem en147 {P:FuncId→Option (List AV→Option AV)} (hP:P 147=none) {lo:Nat} {args:List AV} {H:Heap} {K:AV→Heap→Prop}:VO (aenter (NC.withPrims P) (R (NC.withPrims P)) lo 147 args H) K=AO (R (NC.withPrims P) (.call H.n 147 args H)) fun o=>o.val.strip.pure=true∧K o.val.strip H:=by
 refine enter_pure rfl ?_ (by kernel_rfl) (by kernel_rfl) (by kernel_rfl)
 show (match NC.prim 147 with | some p=>some p | none=>P 147)=none
 rw [hP];kernel_rfl
def wayRow (w:List Leg):List AV:=[.ps .unk (w.map Leg.row)]
theorem wayRow_len (w:List Leg):(wayRow w).length=1:=rfl
/-! ### How many ways -/
theorem flatMap_few {α β:Type} {f:α→List β} {c:Nat}:∀ {l:List α},(∀ x ∈ l,(f x).length≤c)→(l.flatMap f).length≤l.length * c
 | [],_=>by simp
 | x::r,h=>by
   have h1:=h x (by simp)
   have h2:=flatMap_few (l:=r) (f:=f) (c:=c) fun y hy=>h y (by simp [hy])
   rw [List.flatMap_cons,List.length_append,List.length_cons,Nat.succ_mul];omega
section
variable (E:Nat→Bool→Pt) (N:Nat) (b:Pt) (m:Nat) (w:List Leg) (a:Pt) (used:List Bool)
def wayFor (i:Nat) (k:Bool):List (List Leg):=if used.getD i true=true∨(E i k).1 ≠ a.1 then [] else waysL E N b m (w++[⟨a.1,a.2,(E i k).2⟩]) (E i (!k)) (used.set i true)
def wayHere:List (List Leg):=if a.1=b.1 then [w++[⟨a.1,a.2,b.2⟩]] else []
def waysTo (i:Nat):List (List Leg):=wayHere b w a++(List.range i).flatMap fun i=>[false,true].flatMap fun k=>wayFor E N b m w a used i k
def waysK (i:Nat):Nat→List (List Leg)
 | 0=>waysTo E N b m w a used i
 | 1=>waysTo E N b m w a used i++wayFor E N b m w a used i false
 | _=>(waysTo E N b m w a used i++wayFor E N b m w a used i false)++wayFor E N b m w a used i true
theorem waysL_succ:waysL E N b (m+1) w a used=waysTo E N b m w a used N:=rfl
theorem waysTo_zero:waysTo E N b m w a used 0=wayHere b w a:=by simp [waysTo]
theorem waysTo_succ (i:Nat):waysTo E N b m w a used (i+1)=waysK E N b m w a used i 2:=by
 unfold waysTo waysK waysTo
 rw [List.range_succ,List.flatMap_append]
 simp
end
theorem waysL_few {E:Nat→Bool→Pt} {N:Nat} {b:Pt} (hN:N≤4):∀ (n:Nat) (w:List Leg) (a:Pt) (used:List Bool),(waysL E N b n w a used).length≤9 ^ n
 | 0,_,_,_=>by simp [waysL]
 | n+1,w,a,used=>by
   rw [waysL_succ]
   unfold waysTo
   rw [List.length_append]
   have h1:(wayHere b w a).length≤1:=by unfold wayHere;split<;>simp
   have hk:∀ i k,(wayFor E N b n w a used i k).length≤9 ^ n:=fun i k=>by
    unfold wayFor
    split
    · simp
    · exact waysL_few hN n _ _ _
   have h2:=flatMap_few (l:=List.range N) (c:=2 * 9 ^ n) (f:=fun i=>[false,true].flatMap fun k=>wayFor E N b n w a used i k) (fun i _=>flatMap_few (l:=[false,true]) (c:=9 ^ n) (fun k _=>hk i k))
   rw [List.length_range] at h2
   have h3:N * (2 * 9 ^ n)≤4 * (2 * 9 ^ n):=Nat.mul_le_mul_right _ hN
   have h4:0 < 9 ^ n:=Nat.pow_pos (by decide)
   rw [Nat.pow_succ];omega
theorem waysTo_few {E:Nat→Bool→Pt} {N:Nat} {b:Pt} (hN:N≤4) (m:Nat) (w:List Leg) (a:Pt) (used:List Bool) {i:Nat} (hi:i≤4):(waysTo E N b m w a used i).length≤9 ^ (m+1):=by
 unfold waysTo
 rw [List.length_append]
 have h1:(wayHere b w a).length≤1:=by unfold wayHere;split<;>simp
 have hk:∀ i k,(wayFor E N b m w a used i k).length≤9 ^ m:=fun i k=>by
  unfold wayFor
  split
  · simp
  · exact waysL_few hN m _ _ _
 have h2:=flatMap_few (l:=List.range i) (c:=2 * 9 ^ m) (f:=fun i=>[false,true].flatMap fun k=>wayFor E N b m w a used i k) (fun i _=>flatMap_few (l:=[false,true]) (c:=9 ^ m) (fun k _=>hk i k))
 rw [List.length_range] at h2
 have h3:i * (2 * 9 ^ m)≤4 * (2 * 9 ^ m):=Nat.mul_le_mul_right _ hi
 have h4:0 < 9 ^ m:=Nat.pow_pos (by decide)
 rw [Nat.pow_succ];omega
theorem waysK_few {E:Nat→Bool→Pt} {N:Nat} {b:Pt} (hN:N≤4) {m:Nat} (hm:m≤4) (w:List Leg) (a:Pt) (used:List Bool) {i k:Nat} (hi:i < 4):(waysK E N b m w a used i k).length≤59049:=by
 have h1:=waysTo_few (E:=E) (b:=b) hN m w a used (i:=i+1) (by omega)
 rw [waysTo_succ] at h1
 have h2:9 ^ (m+1)≤59049:=Nat.le_trans (Nat.pow_le_pow_right (by decide) (Nat.succ_le_succ hm)) (by decide)
 have h3:(waysK E N b m w a used i 2).length=(waysTo E N b m w a used i).length+(wayFor E N b m w a used i false).length+(wayFor E N b m w a used i true).length:=by simp [waysK];omega
 match k with
 | 0=>show (waysTo E N b m w a used i).length≤_;omega
 | 1=>show (waysTo E N b m w a used i++wayFor E N b m w a used i false).length≤_;rw [List.length_append];omega
 | k+2=>show (waysK E N b m w a used i 2).length≤_;omega
/-! ### Appending -/
theorem app_bs {b:Nat} {H:Heap} {t:Tok} {rows:List (List AV)} {sz lo:Nat} {e:TypeId} (h:AppB b H t rows sz e) (hb:b≤H.n) (hlo:lo≤b) {rx:List (List AV)} (h1:rows.length+rx.length≤maxRows) (h2:rx.all pureRow=true) (h3:0 < sz) (h4:rows.all (fun r=>r.length=sz)=true) :
 ∃ t' H',appP lo H sz e (.ps t rows) rx=some (.ps t' (rows++rx.map (List.map AV.strip0)),H')∧AppB b H' t' (rows++rx.map (List.map AV.strip0)) sz e∧H.n≤H'.n∧Old b H H'∧(∀ i c u,i < H.n→H.get i=.cells c u→H'.get i=.cells c u):=by
 cases rx with
 | nil=>exact ⟨t,H,by simp [appP],by simpa using h,Nat.le_refl _,⟨hb,fun _ _=>rfl⟩,fun _ _ _ _ h=>h⟩
 | cons x r =>
   have hne:rows++(x::r).map (List.map AV.strip0) ≠ []:=by simp
   rcases h with ⟨rfl,rfl⟩ | ⟨j,rfl,h6,hj,h7,h8⟩
   · refine ⟨.tok H.n,H.push (.row [] sz e),app_first (by simp) (by simpa using h1) h2 h3,.inr ⟨H.n,rfl,hne,hb,by simp,by rw [Heap.get_push,if_pos rfl]⟩,by simp,⟨by simp;omega,fun i hi=>by rw [Heap.get_push,if_neg (by omega)]⟩,fun i c u hi hc => ?_⟩
     rw [Heap.get_push,if_neg (by omega)];exact hc
   · refine ⟨.tok H.n,(H.set j .dead).push (.row [] sz e),app_next (by simp) h1 h2 h3 h4 h8 (by omega) h6,.inr ⟨H.n,rfl,hne,hb,by simp,by rw [Heap.get_push,if_pos (by simp)]⟩,by simp,⟨by simp;omega,fun i hi=>by rw [Heap.get_push,if_neg (by simp;omega),Heap.get_set,if_neg (by omega)]⟩,fun i c u hi hc => ?_⟩
     rw [Heap.get_push,if_neg (by simp;omega),Heap.get_set,if_neg (fun he=>by rw [he,h8] at hc;cases hc)];exact hc
/-! ### Slices of bools -/
def blR (x:Bool):List AV:=[.bool x]
theorem blR_len (x:Bool):(blR x).length=1:=rfl
def blF (l:List Bool):List AV:=(l.map blR).flatten
theorem blF_len (l:List Bool):(blF l).length=l.length * 1:=by unfold blF;rw [fl_len (Even.map blR_len l),List.length_map]
theorem bl_at {l:List Bool} {k:Nat} {p:Bool} (h:l[k]? = some p):∃ rest,(blF l).drop (k * 1)=.bool p::rest∧(k * 1+1≤(blF l).length)=True:=by
 obtain ⟨a,b,h1,h2,_⟩:=fl_split (Even.map blR_len l) (map_at (f:=blR) h)
 have h1:blF l=a++blR p++b:=h1
 have hl:(blF l).length=k * 1+1+b.length:=by rw [h1,List.length_append,List.length_append,h2];rfl
 refine ⟨b, ?_,by simp only [eq_iff_iff,iff_true];omega⟩
 rw [h1,List.append_assoc,← h2,List.drop_append]
 simp [blR]
theorem bl_over {l:List Bool} {k:Nat} {p:Bool} (h:l[k]? = some p) (q:Bool):over (blF l) (k * 1) [.bool q]=blF (l.set k q):=by
 unfold blF
 rw [fl_over (Even.map blR_len l) (map_at (f:=blR) h) (v:=[.bool q]) rfl,List.map_set]
 rfl
theorem bl_chunks (l:List Bool):chunks 1 l.length (blF l)=some (l.map blR):=by
 have:=chunks_flat (Even.map blR_len l)
 rw [List.length_map] at this
 exact this
theorem bl_take (l:List Bool):(blF l).take (l.length * 1)=blF l:=by rw [← blF_len,List.take_length]
theorem app_used {lo:Nat} {H:Heap} {u:List Bool} (h0:u ≠ []) (hl:u.length≤maxRows):appR lo H 1 4 (.ps .exact []) (u.map blR)=some (.rs H.n 0 u.length 1 none,H.push (.row (blF u) 1 4)):=by
 cases u with
 | nil=>exact absurd rfl h0
 | cons x r =>
   unfold appR
   have h1:((x::r).map blR).all (fun r=>r.all AV.one)=true:=by
    rw [List.all_eq_true]
    intro y hy
    obtain ⟨z,_,rfl⟩:=List.mem_map.1 hy
    rfl
   have h3:([]:List (List AV)).length+((x::r).map blR).length=(x::r).length:=by simp
   have h5:((x::r).map blR).flatten=blF (x::r):=rfl
   simp only [List.map_cons] at h1 h3 h5 ⊢
   simp only [Tok.full,h1,h3,h5,hl,decide_true,List.all_nil,Bool.and_true,if_true,List.nil_append,Bool.true_and,Nat.zero_lt_one]
/-! ### Legs -/
theorem leg_pure:∀ w:List Leg,(w.map Leg.row).all pureRow=true:=by
 intro w
 rw [List.all_eq_true]
 intro y hy
 obtain ⟨z,_,rfl⟩:=List.mem_map.1 hy
 rfl
theorem leg_strip:∀ w:List Leg,(w.map Leg.row).map (List.map AV.strip0)=w.map Leg.row
 | []=>rfl
 | _::r=>congrArg _ (leg_strip r)
theorem way_pure:∀ l:List (List Leg),(l.map wayRow).all pureRow=true:=by
 intro w
 rw [List.all_eq_true]
 intro y hy
 obtain ⟨z,_,rfl⟩:=List.mem_map.1 hy
 rfl
theorem way_strip:∀ l:List (List Leg),(l.map wayRow).map (List.map AV.strip0)=l.map wayRow
 | []=>rfl
 | _::r=>congrArg _ (way_strip r)
theorem app_exR {lo:Nat} {H:Heap} {sz:Nat} {e:TypeId} {rx:List (List AV)} (h0:rx ≠ []) (h1:rx.length≤maxRows) (h2:rx.all pureRow=true) (h3:0 < sz) :
 appP lo H sz e (.ps .exact []) rx=some (.ps (.tok H.n) (rx.map (List.map AV.strip0)),H.push (.row [] sz e)):=by
 cases rx with
 | nil=>exact absurd rfl h0
 | cons a r =>
   unfold appP
   simp only [List.length_nil,Nat.zero_add,h1,h2,h3,decide_true,Bool.true_and,Bool.and_true,List.all_nil,if_true,List.nil_append]
theorem app_copy {lo:Nat} {H:Heap} {w:List Leg} (h0:w ≠ []) (hl:w.length≤maxRows):appP lo H 3 141 (.ps .exact []) (w.map Leg.row)=some (.ps (.tok H.n) (w.map Leg.row),H.push (.row [] 3 141)):=by
 rw [app_exR (by simpa using h0) (by simpa using hl) (leg_pure w) (by decide),leg_strip]
theorem app_one {lo:Nat} {H:Heap} (l:Leg):appP lo H 3 141 (.ps .exact []) [l.row]=some (.ps (.tok H.n) [l.row],H.push (.row [] 3 141)):=app_copy (w:=[l]) (by simp) (by unfold maxRows;simp)
theorem app_more {lo:Nat} {H:Heap} {w:List Leg} {k:Nat} (h0:w ≠ []) (hl:w.length+1≤maxRows) (hk:H.get k=.row [] 3 141) (hlo:lo≤k) (l:Leg):appP lo H 3 141 (.ps (.tok k) (w.map Leg.row)) [l.row]=some (.ps (.tok H.n) ((w++[l]).map Leg.row),(H.set k .dead).push (.row [] 3 141)):=by
 rw [app_next (rx:=[l.row]) (by simp) (by simpa using hl) (leg_pure [l]) (by decide) (rows_all Leg.row_len w) hk hlo (by simpa using h0)]
 simp [Leg.row,AV.strip0]
theorem ref147u:(NC.withPrims P).refApp 147 254=true:=by kernel_rfl
theorem ref147l:(NC.withPrims P).refApp 147 138=false:=by kernel_rfl
theorem ref147w:(NC.withPrims P).refApp 147 252=false:=by kernel_rfl
theorem en207 (h:P 207=some p207) {lo:Nat} {rec:Rec} {args:List AV} {H:Heap} {K:AV→Heap→Prop}:VO (aenter (NC.withPrims P) rec lo 207 args H) K=AO (p207 args) fun v=>K v H:=enter_prim (by rfl) (known h (by kernel_rfl))
theorem under_rsx (n id off k sz:Nat) (cap:Option Nat):(AV.rs id off k sz cap).under n=Nat.blt id n:=by simp [AV.under]
theorem under_tokx (n k:Nat) (rows:List (List AV)):(AV.ps (.tok k) rows).under n=Nat.blt k n:=by simp [AV.under]
theorem count_set {used:List Bool} {i:Nat} (h:used[i]? = some false):(used.set i true).count false+1=used.count false:=by
 induction used generalizing i with
 | nil=>cases h
 | cons x r ih =>
   cases i with
   | zero =>
     obtain rfl:x=false:=by simpa using h
     simp
   | succ i =>
     have:=ih (i:=i) (by simpa using h)
     simp only [List.set_cons_succ,List.count_cons]
     omega
theorem AppB.old {b:Nat} {H H':Heap} {t:Tok} {rows:List (List AV)} {sz:Nat} {e:TypeId} (h:AppB b H t rows sz e) (hn:H.n≤H'.n) (ho:∀ j,j < H.n→H'.get j=H.get j):AppB b H' t rows sz e:=by
 rcases h with h | ⟨j,h1,h2,h3,h4,h5⟩
 · exact .inl h
 · exact .inr ⟨j,h1,h2,h3,by omega,by rw [ho j h4];exact h5⟩
theorem r147 (h207 : P 207 = some p207) (h147 : P 147 = none) (n : Net) (hn : n.fits) (hlk : ∀ s ∈ n.sws, s.last = true → ∃ i, findL n.lines s.other = some i) (hsw : n.sws.length ≤ 4) (b : Pt) : ∀ (m : Nat), m ≤ 5 → ∀ (w : List Leg) (a : Pt) (used : List Bool) (c : Option Nat) (lo id : Nat) (H : Heap), used.length = n.sws.length → w.length + m ≤ 100 → used.count false < m → lo ≤ H.n → id < H.n → (H.get id = .cells (blF used) 4 ∨ H.get id = .row (blF used) 1 4) →
 ∃ v H', R (NC.withPrims P) (.call lo 147 [.agg n.cells, .ps .unk (w.map Leg.row), .agg [.str a.1, .int .i64 a.2], .agg [.str b.1, .int .i64 b.2], .rs id 0 used.length 1 c] H) = some (.ofVal v H') ∧ v.strip = .ps .unk ((waysL (endE n) n.sws.length b m w a used).map wayRow)
 | 0, _, _, _, _, _, _, _, _, _, _, h, _, _, _ => absurd h (Nat.not_lt_zero _)
 | m + 1, hm5, w, a, used, c, lo, id, H, hu, hl, hc, hlo, hid, hg => by
   refine R_of_body (C := NC.withPrims P) (f := 147) (lo := lo) (args := [.agg n.cells, .ps .unk (w.map Leg.row), .agg [.str a.1, .int .i64 a.2], .agg [.str b.1, .int .i64 b.2], .rs id 0 used.length 1 c]) (H := H) (fn := Tryz.f147) (Q := fun v H' => v.strip = .ps .unk ((waysL (endE n) n.sws.length b (m + 1) w a used).map wayRow)) (by kernel_rfl) Tryz.func147 rfl rfl ?_
   have ih := r147 h207 h147 n hn hlk hsw b m (by omega)
   have hwl : w.length + 1 ≤ maxRows := by unfold maxRows; omega
   have hrw := rows_all Leg.row_len w
   rw [W_assoc, W_assoc]
   refine W_cut (fun T Ha M => M = [] ∧ getT T 1 = .ps .unk (w.map Leg.row) ∧ getT T 4 = .rs id 0 used.length 1 c ∧ getT T 5 = .ptr H.n 0 ∧ getT T 7 = .ptr (H.n + 1) 0 ∧ getT T 8 = .ptr (H.n + 2) 0 ∧ Ha.get H.n = .cells n.cells 26 ∧ Ha.get (H.n + 1) = .cells [.str a.1, .int .i64 a.2] 28 ∧ Ha.get (H.n + 2) = .cells [.str b.1, .int .i64 b.2] 28 ∧ H.n + 2 < Ha.n ∧ (∀ j, j < H.n → Ha.get j = H.get j) ∧ ∃ t, getT T 11 = .ps t ((wayHere b w a).map wayRow) ∧ AppB (H.n + 3) Ha t ((wayHere b w a).map wayRow) 1 138) ?_ ?_
   · have hlo3 : (lo ≤ H.n + 1 + 1 + 1) = True := by simp only [eq_iff_iff, iff_true]; omega
     cases hB : beqL a.1 b.1 with
     | false =>
       have hne : ¬ (a.1 = b.1) := fun e => by rw [e, beqL_self] at hB; cases hB
       have hw0 : wayHere b w a = [] := if_neg hne
       rw [hw0]
       simp only [go_sem, reduceIte, reduceEqDiff, reduceAdd, reduceMul, reduceSub, reduceLeDiff, reduceLT, Nat.reduceBEq, reduceCtorEq, hB, hlo3, Net.cells]
       refine ⟨fun j h => ?_, .nil, rfl, .inl ⟨rfl, rfl⟩⟩
       rw [if_neg (by omega), if_neg (by omega), if_neg (by omega)]
     | true =>
       have heq : a.1 = b.1 := (beqL_iff _ _).1 hB
       have hw0 : wayHere b w a = [w ++ [⟨a.1, a.2, b.2⟩]] := if_pos heq
       rw [hw0]
       have a2 : ∀ lo H r, appP lo H 1 138 (.ps .nil []) [[.ps .unk r]] = some (.ps (.tok H.n) [[.ps .unk r]], H.push (.row [] 1 138)) := fun lo H r =>
        app_first (by simp) (by show 1 ≤ 1073741824; decide) rfl (by decide)
       rcases Classical.em (w = []) with rfl | hw
       · have a1 := fun lo H => app_one (lo := lo) (H := H) ⟨a.1, a.2, b.2⟩
         simp only [Leg.row] at a1
         have a0 : ∀ lo H, appP lo H 3 141 (.ps .exact []) [] = some (.ps .exact [], H) := fun _ _ => rfl
         simp only [go_sem, reduceIte, reduceEqDiff, reduceAdd, reduceMul, reduceSub, reduceLeDiff, reduceLT, Nat.reduceBEq, reduceCtorEq, hB, hlo3, Net.cells, appO, ref147l, ref147w, a0, a1, a2]
         refine ⟨fun j h => ?_, _, rfl, .inr ⟨_, rfl, by simp, by omega, by simp, by rw [Heap.get_push, if_pos (by simp)]⟩⟩
         repeat rw [if_neg (by omega)]
       · have a0 := fun lo H => app_copy (lo := lo) (H := H) hw (by omega)
         have a1 := fun lo H k hk h2 => app_more (lo := lo) (H := H) (k := k) hw hwl hk h2 ⟨a.1, a.2, b.2⟩
         simp only [Leg.row] at a1
         have s5 : (H.n = H.n + 1 + 1 + 1 + 1 + 1) = False := by simp only [eq_iff_iff, iff_false]; omega
         have s51 : (H.n + 1 = H.n + 1 + 1 + 1 + 1 + 1) = False := by simp only [eq_iff_iff, iff_false]; omega
         have s52 : (H.n + 2 = H.n + 1 + 1 + 1 + 1 + 1) = False := by simp only [eq_iff_iff, iff_false]; omega
         have s53 : (H.n + 1 + 1 = H.n + 1 + 1 + 1 + 1 + 1) = False := by simp only [eq_iff_iff, iff_false]; omega
         simp only [go_sem, reduceIte, reduceEqDiff, reduceAdd, reduceMul, reduceSub, reduceLeDiff, reduceLT, Nat.reduceBEq, reduceCtorEq, hB, hlo3, Net.cells, appO, ref147l, ref147w, hrw, a0, a1, a2, s5, s51, s52, s53]
         refine ⟨fun j h => ?_, _, rfl, .inr ⟨_, rfl, by simp, by omega, by simp, by rw [Heap.get_push, if_pos (by simp)]⟩⟩
         repeat rw [if_neg (by omega)]
   rintro T Ha M ⟨rfl, t1, t4, t5, t7, t8, g0, g1, g2, hna, ho, t, t11, hA⟩
   have hNf : n.sws.length ≤ maxRows := by unfold maxRows; omega
   simp only [go_sem, reduceIte, reduceEqDiff, reduceAdd, reduceMul, reduceSub, reduceLeDiff, reduceLT, Nat.reduceBEq, reduceCtorEq, t1, t4, t5, t7, t8, t11]
   refine W_for (fun i T H' M => M = [] ∧ getT T 1 = .ps .unk (w.map Leg.row) ∧ getT T 4 = .rs id 0 used.length 1 c ∧ getT T 5 = .ptr H.n 0 ∧ getT T 7 = .ptr (H.n + 1) 0 ∧ getT T 8 = .ptr (H.n + 2) 0 ∧ getT T 12 = i64 (i : Nat) ∧ H'.get H.n = .cells n.cells 26 ∧ H'.get (H.n + 1) = .cells [.str a.1, .int .i64 a.2] 28 ∧ H'.get (H.n + 2) = .cells [.str b.1, .int .i64 b.2] 28 ∧ H.n + 2 < H'.n ∧ (∀ j, j < H.n → H'.get j = H.get j) ∧ ∃ t, getT T 11 = .ps t ((waysTo (endE n) n.sws.length b m w a used i).map wayRow) ∧ AppB (H.n + 3) H' t ((waysTo (endE n) n.sws.length b m w a used i).map wayRow) 1 138) n.sws.length ?_ ?_ ?_
   · simp only [go_sem, reduceIte, reduceEqDiff, reduceAdd, reduceMul, reduceSub, reduceLeDiff, reduceLT, Nat.reduceBEq, reduceCtorEq, t1, t4, t5, t7, t8, t11, waysTo_zero]
     exact ⟨g0, g1, g2, hna, ho, t, rfl, hA⟩
   · rintro i T H1 M hk ⟨rfl, t1, t4, t5, t7, t8, t12, g0, g1, g2, hn1, ho, t, t11, hA⟩
     obtain ⟨s, hs⟩ : ∃ p, n.sws[i]? = some p := ⟨n.sws[i], by simp⟩
     have hr := map_at (f := Sw.row) hs
     have hw12 := wrap_succ hk hNf
     have e207 := pe207 n s ⟨hn, hlk s (List.mem_of_getElem? hs)⟩
     have hE : endE n i = fun k => if k then (s.other, endM n s) else (s.line, s.metre) := by funext k; unfold endE; rw [hs]
     obtain ⟨u, hus⟩ : ∃ u, used[i]? = some u := ⟨used[i], by simp⟩
     rw [waysTo_succ]
     generalize endM n s = EM at e207 hE
     obtain ⟨w1, w2, w3, w4, w5⟩ := s
     simp only at hE
     have g0' := g0
     simp only [Sw.row, Net.cells, i64] at hr e207 g0'
     have hlo1 : (lo ≤ H1.n) = True := by simp only [eq_iff_iff, iff_true]; omega
     have y1 : (H.n = H1.n) = False ∧ (H.n + 1 = H1.n) = False ∧ (H.n + 2 = H1.n) = False := by simp only [eq_iff_iff, iff_false]; omega
     simp only [go_sem, reduceIte, reduceEqDiff, reduceAdd, reduceMul, reduceSub, reduceLeDiff, reduceLT, Nat.reduceBEq, reduceCtorEq, t1, t4, t5, t7, t8, t12, t11, List.length_map, Int.ofNat_lt, hk, hr, g0', hlo1, en207 h207, e207]
     refine W_for (fun k T H2 M => M = [] ∧ getT T 1 = .ps .unk (w.map Leg.row) ∧ getT T 4 = .rs id 0 used.length 1 c ∧ getT T 5 = .ptr H.n 0 ∧ getT T 7 = .ptr (H.n + 1) 0 ∧ getT T 8 = .ptr (H.n + 2) 0 ∧ getT T 12 = i64 (i : Nat) ∧ getT T 13 = .ptr H1.n 0 ∧ getT T 14 = i64 (k : Nat) ∧ H2.get H.n = .cells n.cells 26 ∧ H2.get (H.n + 1) = .cells [.str a.1, .int .i64 a.2] 28 ∧ H2.get (H.n + 2) = .cells [.str b.1, .int .i64 b.2] 28 ∧ H2.get H1.n = .cells [.str w2, .int .i64 w3, .str w4, .int .i64 EM] 137 ∧ H1.n < H2.n ∧ (∀ j, j < H.n → H2.get j = H.get j) ∧ ∃ t, getT T 11 = .ps t ((waysK (endE n) n.sws.length b m w a used i k).map wayRow) ∧ AppB (H.n + 3) H2 t ((waysK (endE n) n.sws.length b m w a used i k).map wayRow) 1 138) 2 ?_ ?_ ?_
     · simp only [go_sem, reduceIte, reduceEqDiff, reduceAdd, reduceMul, reduceSub, reduceLeDiff, reduceLT, Nat.reduceBEq, reduceCtorEq, t1, t4, t5, t7, t8, t12, t11, y1, g0, g1, g2]
       refine ⟨fun j h => ?_, t, rfl, hA.new _ _⟩
       rw [if_neg (by omega), if_neg (by omega)]
       exact ho j h
     · rintro k T H2 M hk2 ⟨rfl, t1, t4, t5, t7, t8, t12, t13, t14, g0, g1, g2, g3, hn2, ho, t, t11, hA⟩
       have hNe : used ≠ [] := by intro e; rw [e] at hus; cases hus
       obtain ⟨rest, ud, ul⟩ := bl_at hus
       have uo := bl_over hus true
       have ut := bl_take used
       have uc := bl_chunks used
       have ul1 : (used.length * 1 ≤ (blF used).length) = True := by rw [blF_len]; simp
       have hul : used.length ≤ maxRows := by unfold maxRows; omega
       have ea := fun lo H => app_used (lo := lo) (H := H) hNe hul
       have hg2 : H2.get id = .cells (blF used) 4 ∨ H2.get id = .row (blF used) 1 4 := by rw [ho id hid]; exact hg
       have hiu : (i < used.length) = True := by simp only [eq_iff_iff, iff_true]; omega
       simp only [over, List.length_cons, List.length_nil, reduceAdd, Nat.zero_add] at uo
       have d0 : (H.n = H2.n) = False ∧ (H.n = H2.n + 1) = False ∧ (H.n = H2.n + 1 + 1) = False := by simp only [eq_iff_iff, iff_false]; omega
       have d1 : (H.n + 1 = H2.n) = False ∧ (H.n + 1 = H2.n + 1) = False ∧ (H.n + 1 = H2.n + 1 + 1) = False := by simp only [eq_iff_iff, iff_false]; omega
       have d2 : (H.n + 2 = H2.n) = False ∧ (H.n + 2 = H2.n + 1) = False ∧ (H.n + 2 = H2.n + 1 + 1) = False := by simp only [eq_iff_iff, iff_false]; omega
       have d3 : (H1.n = H2.n) = False ∧ (H1.n = H2.n + 1) = False ∧ (H1.n = H2.n + 1 + 1) = False := by simp only [eq_iff_iff, iff_false]; omega
       have hlo2 : (lo ≤ H2.n) = True := by simp only [eq_iff_iff, iff_true]; omega
       have hlo3 : (lo ≤ H2.n + 1) = True := by simp only [eq_iff_iff, iff_true]; omega
       have hlo4 : (lo ≤ H2.n + 1 + 1) = True := by simp only [eq_iff_iff, iff_true]; omega
       have g0' := g0
       simp only [Net.cells] at g0'
       have hwk := waysK_few (E := endE n) (b := b) hsw (m := m) (by omega) w a used (i := i) (k := 2) (by omega)
       clear g0 hw12 e207 hr y1 hlo1
       rcases (show k = 0 ∨ k = 1 by omega) with rfl | rfl
       · rcases hg2 with hblk | hblk
         all_goals
          have hpt : endE n i false = (w2, w3) := by rw [hE]; rfl
          have hqt : endE n i (!false) = (w4, EM) := by rw [hE]; rfl
          have hnext : waysK (endE n) n.sws.length b m w a used i (0 + 1) = waysK (endE n) n.sws.length b m w a used i 0 ++ wayFor (endE n) n.sws.length b m w a used i false := rfl
          have hwfl : (waysK (endE n) n.sws.length b m w a used i 0).length + (wayFor (endE n) n.sws.length b m w a used i false).length ≤ 59049 := by
           have := waysK_few (E := endE n) (b := b) hsw (m := m) (by omega) w a used (i := i) (k := 0 + 1) (by omega)
           rw [hnext, List.length_append] at this; exact this
          have hWF : wayFor (endE n) n.sws.length b m w a used i false = if used.getD i true = true ∨ w2 ≠ a.1 then [] else waysL (endE n) n.sws.length b m (w ++ [⟨a.1, a.2, w3⟩]) (w4, EM) (used.set i true) := by
           unfold wayFor
           rw [hpt, hqt]
          have hug : used.getD i true = u := by rw [List.getD_eq_getElem?_getD, hus]; rfl
          rw [hug] at hWF
          have w14 : wrapq .i64 (Int.add 0 1) = ((0 + 1 : Nat) : Int) := rfl
          have w1k : wrapq .i64 (Int.sub 1 0) = 1 := rfl
          rw [hnext]
          obtain ⟨W0, hW0e⟩ : ∃ W0, W0 = waysK (endE n) n.sws.length b m w a used i 0 := ⟨_, rfl⟩
          have t11' : getT T 11 = .ps t (W0.map wayRow) := by rw [hW0e]; exact t11
          have hA' : AppB (H.n + 3) H2 t (W0.map wayRow) 1 138 := by rw [hW0e]; exact hA
          rw [← hW0e] at hwfl ⊢
          clear hW0e t11 hA
          cases u with
          | true =>
            have hW0 : wayFor (endE n) n.sws.length b m w a used i false = [] := by rw [hWF]; exact if_pos (.inl rfl)
            rw [hW0, List.append_nil]
            simp only [go_sem, reduceIte, reduceEqDiff, reduceAdd, reduceMul, reduceSub, reduceLeDiff, reduceLT, Nat.reduceBEq, reduceCtorEq, t1, t4, t5, t7, t8, t12, t13, t14, t11', i02, i12, cast1, wl01, wl12, hiu, hblk, ud, ul, w14]
            exact ⟨g0', g1, g2, g3, hn2, ho, t, rfl, hA'⟩
          | false =>
          cases hB : beqL w2 a.1 with
          | false =>
            have hne : w2 ≠ a.1 := fun e => by rw [e, beqL_self] at hB; cases hB
            have hW0 : wayFor (endE n) n.sws.length b m w a used i false = [] := by rw [hWF]; exact if_pos (.inr hne)
            rw [hW0, List.append_nil]
            simp only [go_sem, reduceIte, reduceEqDiff, reduceAdd, reduceMul, reduceSub, reduceLeDiff, reduceLT, Nat.reduceBEq, reduceCtorEq, t1, t4, t5, t7, t8, t12, t13, t14, t11', i02, i12, cast1, wl01, wl12, hiu, hblk, ud, ul, w14, g1, g3, hB]
            exact ⟨g0', g2, hn2, ho, t, rfl, hA'⟩
          | true =>
            have heq : w2 = a.1 := (beqL_iff _ _).1 hB
            have hW1 : wayFor (endE n) n.sws.length b m w a used i false = waysL (endE n) n.sws.length b m (w ++ [⟨a.1, a.2, w3⟩]) (w4, EM) (used.set i true) := by rw [hWF]; exact if_neg (fun q => q.elim (fun q => by cases q) (fun q => q heq))
            have hcnt : (used.set i true).count false < m := by
             have := count_set hus
             omega
            have e147 : ∀ {lo' : Nat} {H' : Heap} {K : AV → Heap → Prop}, (H2.n < H'.n) → H'.get H2.n = .row (blF (used.set i true)) 1 4 → VO (aenter (NC.withPrims P) (R (NC.withPrims P)) lo' 147 [.agg n.cells, .ps .unk ((w ++ [(⟨a.1, a.2, w3⟩ : Leg)]).map Leg.row), .agg [.str w4, .int .i64 EM], .agg [.str b.1, .int .i64 b.2], .rs H2.n 0 used.length 1 none] H') K = K (.ps .unk ((wayFor (endE n) n.sws.length b m w a used i false).map wayRow)) H' := by
             intro lo' H' K hx1 hx2
             obtain ⟨v, H3, q1, q2⟩ := ih (w ++ [(⟨a.1, a.2, w3⟩ : Leg)]) (w4, EM) (used.set i true) none H'.n H2.n H' (by rw [List.length_set]; exact hu) (by rw [List.length_append]; simp; omega) hcnt (Nat.le_refl _) hx1 (.inr hx2)
             rw [List.length_set] at q1
             rw [en147 h147, q1, AO_some, ofVal_v, q2, hW1]
             simp only [eq_iff_iff, and_iff_right_iff_imp]
             intro _; rfl
            clear hW1 hWF hcnt
            generalize wayFor (endE n) n.sws.length b m w a used i false = WF at e147 hwfl ⊢
            have hrf := rows_all wayRow_len WF
            have hrl : (W0.map wayRow).length + (WF.map wayRow).length ≤ maxRows := by rw [List.length_map, List.length_map]; unfold maxRows; omega
            have n2 : (H2.n < H2.n + 1 + 1) = True := by simp only [eq_iff_iff, iff_true]; omega
            have n3 : (H2.n < H2.n + 1 + 1 + 1) = True := by simp only [eq_iff_iff, iff_true]; omega
            simp only [Net.cells] at e147
            rcases Classical.em (w = []) with rfl | hw
            · have a0 : ∀ lo H, appP lo H 3 141 (.ps .exact []) [] = some (.ps .exact [], H) := fun _ _ => rfl
              have a1 := fun lo H => app_one (lo := lo) (H := H) ⟨a.1, a.2, w3⟩
              simp only [List.nil_append, List.map_cons, List.map_nil] at e147
              simp only [Leg.row, i64] at a1 e147
              have hold : ∀ j, j < H2.n → (((H2.push (.row (blF used) 1 4)).set H2.n (.row (blF (used.set i true)) 1 4)).push (.row [] 3 141)).get j = H2.get j := fun j h => by rw [Heap.get_push, if_neg (by simp; omega), Heap.get_set, if_neg (by omega), Heap.get_push, if_neg (by omega)]
              obtain ⟨t', H3, ha, hA3, hn3, hO3, hc3⟩ := app_bs (lo := lo) (rx := WF.map wayRow) (hA'.old (H' := ((H2.push (.row (blF used) 1 4)).set H2.n (.row (blF (used.set i true)) 1 4)).push (.row [] 3 141)) (by simp; omega) hold) (by simp; omega) (by omega) hrl (way_pure WF) (by decide) (rows_all wayRow_len W0)
              rw [way_strip] at ha hA3
              generalize h12 : Code.region 12 _ _ = c12
              generalize h13 : Code.region 13 _ _ = c13
              generalize h14 : Code.region 14 _ _ = c14
              generalize h15 : Code.region 15 _ _ = c15
              simp only [go_sem, reduceIte, reduceEqDiff, reduceAdd, reduceMul, reduceSub, reduceLeDiff, reduceLT, Nat.reduceBEq, reduceCtorEq, t1, t4, t5, t7, t8, t12, t13, t14, t11', cast1, hiu, i02, i12, wl01, wl12, hblk, ud, ul, w14, g1, g3, hB]
              rw [← h12]
              simp only [go_sem, reduceIte, reduceEqDiff, reduceAdd, reduceMul, reduceSub, reduceLeDiff, reduceLT, Nat.reduceBEq, reduceCtorEq, t1, t4, t5, t7, t8, t12, t13, t14, t11', cast1, hiu, hblk, ul1, ut, uc, appO, ref147u, ea]
              rw [← h13]
              simp only [go_sem, reduceIte, reduceEqDiff, reduceAdd, reduceMul, reduceSub, reduceLeDiff, reduceLT, Nat.reduceBEq, reduceCtorEq, t1, t4, t5, t7, t8, t12, t13, t14, t11', cast1, hiu, ud, ul, uo, hlo2]
              rw [← h14]
              simp only [go_sem, reduceIte, reduceEqDiff, reduceAdd, reduceMul, reduceSub, reduceLeDiff, reduceLT, Nat.reduceBEq, reduceCtorEq, t1, t4, t5, t7, t8, t12, t13, t14, t11', cast1, hiu, g1, g3, appO, ref147l, hlo2, hlo3, hlo4, d0, d1, d2, d3, a0, a1]
              rw [← h15]
              simp only [go_sem, reduceIte, reduceEqDiff, reduceAdd, reduceMul, reduceSub, reduceLeDiff, reduceLT, Nat.reduceBEq, reduceCtorEq, t1, t4, t5, t7, t8, t12, t13, t14, t11', cast1, hiu, g0', g1, g2, g3, w1k, appO, ref147w, hlo2, hlo3, hlo4, d0, d1, d2, d3, under_rsx, under_tokx, e147, n2, n3, hrf, ha, w14]
              have hn3' : H2.n < H3.n := by simp at hn3; omega
              refine ⟨hc3 _ _ _ (by simp; omega) ((hold _ (by omega)).trans g0'), hc3 _ _ _ (by simp; omega) ((hold _ (by omega)).trans g1), hc3 _ _ _ (by simp; omega) ((hold _ (by omega)).trans g2), hc3 _ _ _ (by simp; omega) ((hold _ (by omega)).trans g3), by omega, fun j h => (hO3.2 j (by omega)).trans ((hold j (by omega)).trans (ho j h)), t', by rw [List.map_append], by rw [List.map_append]; exact hA3⟩
            · have a0 := fun lo H => app_copy (lo := lo) (H := H) hw (by omega)
              have a1 := fun lo H k hk h2 => app_more (lo := lo) (H := H) (k := k) hw hwl hk h2 ⟨a.1, a.2, w3⟩
              simp only [Leg.row, i64] at a1
              have hold : ∀ j, j < H2.n → (((((H2.push (.row (blF used) 1 4)).set H2.n (.row (blF (used.set i true)) 1 4)).push (.row [] 3 141)).set (H2.n + 1) .dead).push (.row [] 3 141)).get j = H2.get j := fun j h => by rw [Heap.get_push, if_neg (by simp; omega), Heap.get_set, if_neg (by omega), Heap.get_push, if_neg (by simp; omega), Heap.get_set, if_neg (by omega), Heap.get_push, if_neg (by omega)]
              obtain ⟨t', H3, ha, hA3, hn3, hO3, hc3⟩ := app_bs (lo := lo) (rx := WF.map wayRow) (hA'.old (H' := ((((H2.push (.row (blF used) 1 4)).set H2.n (.row (blF (used.set i true)) 1 4)).push (.row [] 3 141)).set (H2.n + 1) .dead).push (.row [] 3 141)) (by simp; omega) hold) (by simp; omega) (by omega) hrl (way_pure WF) (by decide) (rows_all wayRow_len W0)
              rw [way_strip] at ha hA3
              generalize h12 : Code.region 12 _ _ = c12
              generalize h13 : Code.region 13 _ _ = c13
              generalize h14 : Code.region 14 _ _ = c14
              generalize h15 : Code.region 15 _ _ = c15
              simp only [go_sem, reduceIte, reduceEqDiff, reduceAdd, reduceMul, reduceSub, reduceLeDiff, reduceLT, Nat.reduceBEq, reduceCtorEq, t1, t4, t5, t7, t8, t12, t13, t14, t11', cast1, hiu, i02, i12, wl01, wl12, hblk, ud, ul, w14, g1, g3, hB]
              rw [← h12]
              simp only [go_sem, reduceIte, reduceEqDiff, reduceAdd, reduceMul, reduceSub, reduceLeDiff, reduceLT, Nat.reduceBEq, reduceCtorEq, t1, t4, t5, t7, t8, t12, t13, t14, t11', cast1, hiu, hblk, ul1, ut, uc, appO, ref147u, ea]
              rw [← h13]
              simp only [go_sem, reduceIte, reduceEqDiff, reduceAdd, reduceMul, reduceSub, reduceLeDiff, reduceLT, Nat.reduceBEq, reduceCtorEq, t1, t4, t5, t7, t8, t12, t13, t14, t11', cast1, hiu, ud, ul, uo, hlo2]
              rw [← h14]
              simp only [go_sem, reduceIte, reduceEqDiff, reduceAdd, reduceMul, reduceSub, reduceLeDiff, reduceLT, Nat.reduceBEq, reduceCtorEq, t1, t4, t5, t7, t8, t12, t13, t14, t11', cast1, hiu, g1, g3, appO, ref147l, hlo2, hlo3, hlo4, d0, d1, d2, d3, hrw, a0, a1]
              rw [← h15]
              simp only [go_sem, reduceIte, reduceEqDiff, reduceAdd, reduceMul, reduceSub, reduceLeDiff, reduceLT, Nat.reduceBEq, reduceCtorEq, t1, t4, t5, t7, t8, t12, t13, t14, t11', cast1, hiu, g0', g1, g2, g3, w1k, appO, ref147w, hlo2, hlo3, hlo4, d0, d1, d2, d3, under_rsx, under_tokx, e147, n3, hrf, ha, w14]
              have hn3' : H2.n < H3.n := by simp at hn3; omega
              refine ⟨hc3 _ _ _ (by simp; omega) ((hold _ (by omega)).trans g0'), hc3 _ _ _ (by simp; omega) ((hold _ (by omega)).trans g1), hc3 _ _ _ (by simp; omega) ((hold _ (by omega)).trans g2), hc3 _ _ _ (by simp; omega) ((hold _ (by omega)).trans g3), by omega, fun j h => (hO3.2 j (by omega)).trans ((hold j (by omega)).trans (ho j h)), t', by rw [List.map_append], by rw [List.map_append]; exact hA3⟩
       · rcases hg2 with hblk | hblk
         all_goals
          have hpt : endE n i true = (w4, EM) := by rw [hE]; rfl
          have hqt : endE n i (!true) = (w2, w3) := by rw [hE]; rfl
          have hnext : waysK (endE n) n.sws.length b m w a used i (1 + 1) = waysK (endE n) n.sws.length b m w a used i 1 ++ wayFor (endE n) n.sws.length b m w a used i true := rfl
          have hwfl : (waysK (endE n) n.sws.length b m w a used i 1).length + (wayFor (endE n) n.sws.length b m w a used i true).length ≤ 59049 := by
           have := waysK_few (E := endE n) (b := b) hsw (m := m) (by omega) w a used (i := i) (k := 1 + 1) (by omega)
           rw [hnext, List.length_append] at this; exact this
          have hWF : wayFor (endE n) n.sws.length b m w a used i true = if used.getD i true = true ∨ w4 ≠ a.1 then [] else waysL (endE n) n.sws.length b m (w ++ [⟨a.1, a.2, EM⟩]) (w2, w3) (used.set i true) := by
           unfold wayFor
           rw [hpt, hqt]
          have hug : used.getD i true = u := by rw [List.getD_eq_getElem?_getD, hus]; rfl
          rw [hug] at hWF
          have w14 : wrapq .i64 (Int.add 1 1) = ((1 + 1 : Nat) : Int) := rfl
          have w1k : wrapq .i64 (Int.sub 1 1) = 0 := rfl
          rw [hnext]
          obtain ⟨W0, hW0e⟩ : ∃ W0, W0 = waysK (endE n) n.sws.length b m w a used i 1 := ⟨_, rfl⟩
          have t11' : getT T 11 = .ps t (W0.map wayRow) := by rw [hW0e]; exact t11
          have hA' : AppB (H.n + 3) H2 t (W0.map wayRow) 1 138 := by rw [hW0e]; exact hA
          rw [← hW0e] at hwfl ⊢
          clear hW0e t11 hA
          cases u with
          | true =>
            have hW0 : wayFor (endE n) n.sws.length b m w a used i true = [] := by rw [hWF]; exact if_pos (.inl rfl)
            rw [hW0, List.append_nil]
            simp only [go_sem, reduceIte, reduceEqDiff, reduceAdd, reduceMul, reduceSub, reduceLeDiff, reduceLT, Nat.reduceBEq, reduceCtorEq, t1, t4, t5, t7, t8, t12, t13, t14, t11', i02, i12, cast1, wl01, wl12, hiu, hblk, ud, ul, w14]
            exact ⟨g0', g1, g2, g3, hn2, ho, t, rfl, hA'⟩
          | false =>
          cases hB : beqL w4 a.1 with
          | false =>
            have hne : w4 ≠ a.1 := fun e => by rw [e, beqL_self] at hB; cases hB
            have hW0 : wayFor (endE n) n.sws.length b m w a used i true = [] := by rw [hWF]; exact if_pos (.inr hne)
            rw [hW0, List.append_nil]
            simp only [go_sem, reduceIte, reduceEqDiff, reduceAdd, reduceMul, reduceSub, reduceLeDiff, reduceLT, Nat.reduceBEq, reduceCtorEq, t1, t4, t5, t7, t8, t12, t13, t14, t11', i02, i12, cast1, wl01, wl12, hiu, hblk, ud, ul, w14, g1, g3, hB]
            exact ⟨g0', g2, hn2, ho, t, rfl, hA'⟩
          | true =>
            have heq : w4 = a.1 := (beqL_iff _ _).1 hB
            have hW1 : wayFor (endE n) n.sws.length b m w a used i true = waysL (endE n) n.sws.length b m (w ++ [⟨a.1, a.2, EM⟩]) (w2, w3) (used.set i true) := by rw [hWF]; exact if_neg (fun q => q.elim (fun q => by cases q) (fun q => q heq))
            have hcnt : (used.set i true).count false < m := by
             have := count_set hus
             omega
            have e147 : ∀ {lo' : Nat} {H' : Heap} {K : AV → Heap → Prop}, (H2.n < H'.n) → H'.get H2.n = .row (blF (used.set i true)) 1 4 → VO (aenter (NC.withPrims P) (R (NC.withPrims P)) lo' 147 [.agg n.cells, .ps .unk ((w ++ [(⟨a.1, a.2, EM⟩ : Leg)]).map Leg.row), .agg [.str w2, .int .i64 w3], .agg [.str b.1, .int .i64 b.2], .rs H2.n 0 used.length 1 none] H') K = K (.ps .unk ((wayFor (endE n) n.sws.length b m w a used i true).map wayRow)) H' := by
             intro lo' H' K hx1 hx2
             obtain ⟨v, H3, q1, q2⟩ := ih (w ++ [(⟨a.1, a.2, EM⟩ : Leg)]) (w2, w3) (used.set i true) none H'.n H2.n H' (by rw [List.length_set]; exact hu) (by rw [List.length_append]; simp; omega) hcnt (Nat.le_refl _) hx1 (.inr hx2)
             rw [List.length_set] at q1
             rw [en147 h147, q1, AO_some, ofVal_v, q2, hW1]
             simp only [eq_iff_iff, and_iff_right_iff_imp]
             intro _; rfl
            clear hW1 hWF hcnt
            generalize wayFor (endE n) n.sws.length b m w a used i true = WF at e147 hwfl ⊢
            have hrf := rows_all wayRow_len WF
            have hrl : (W0.map wayRow).length + (WF.map wayRow).length ≤ maxRows := by rw [List.length_map, List.length_map]; unfold maxRows; omega
            have n2 : (H2.n < H2.n + 1 + 1) = True := by simp only [eq_iff_iff, iff_true]; omega
            have n3 : (H2.n < H2.n + 1 + 1 + 1) = True := by simp only [eq_iff_iff, iff_true]; omega
            simp only [Net.cells] at e147
            rcases Classical.em (w = []) with rfl | hw
            · have a0 : ∀ lo H, appP lo H 3 141 (.ps .exact []) [] = some (.ps .exact [], H) := fun _ _ => rfl
              have a1 := fun lo H => app_one (lo := lo) (H := H) ⟨a.1, a.2, EM⟩
              simp only [List.nil_append, List.map_cons, List.map_nil] at e147
              simp only [Leg.row, i64] at a1 e147
              have hold : ∀ j, j < H2.n → (((H2.push (.row (blF used) 1 4)).set H2.n (.row (blF (used.set i true)) 1 4)).push (.row [] 3 141)).get j = H2.get j := fun j h => by rw [Heap.get_push, if_neg (by simp; omega), Heap.get_set, if_neg (by omega), Heap.get_push, if_neg (by omega)]
              obtain ⟨t', H3, ha, hA3, hn3, hO3, hc3⟩ := app_bs (lo := lo) (rx := WF.map wayRow) (hA'.old (H' := ((H2.push (.row (blF used) 1 4)).set H2.n (.row (blF (used.set i true)) 1 4)).push (.row [] 3 141)) (by simp; omega) hold) (by simp; omega) (by omega) hrl (way_pure WF) (by decide) (rows_all wayRow_len W0)
              rw [way_strip] at ha hA3
              generalize h12 : Code.region 12 _ _ = c12
              generalize h13 : Code.region 13 _ _ = c13
              generalize h14 : Code.region 14 _ _ = c14
              generalize h15 : Code.region 15 _ _ = c15
              simp only [go_sem, reduceIte, reduceEqDiff, reduceAdd, reduceMul, reduceSub, reduceLeDiff, reduceLT, Nat.reduceBEq, reduceCtorEq, t1, t4, t5, t7, t8, t12, t13, t14, t11', cast1, hiu, i02, i12, wl01, wl12, hblk, ud, ul, w14, g1, g3, hB]
              rw [← h12]
              simp only [go_sem, reduceIte, reduceEqDiff, reduceAdd, reduceMul, reduceSub, reduceLeDiff, reduceLT, Nat.reduceBEq, reduceCtorEq, t1, t4, t5, t7, t8, t12, t13, t14, t11', cast1, hiu, hblk, ul1, ut, uc, appO, ref147u, ea]
              rw [← h13]
              simp only [go_sem, reduceIte, reduceEqDiff, reduceAdd, reduceMul, reduceSub, reduceLeDiff, reduceLT, Nat.reduceBEq, reduceCtorEq, t1, t4, t5, t7, t8, t12, t13, t14, t11', cast1, hiu, ud, ul, uo, hlo2]
              rw [← h14]
              simp only [go_sem, reduceIte, reduceEqDiff, reduceAdd, reduceMul, reduceSub, reduceLeDiff, reduceLT, Nat.reduceBEq, reduceCtorEq, t1, t4, t5, t7, t8, t12, t13, t14, t11', cast1, hiu, g1, g3, appO, ref147l, hlo2, hlo3, hlo4, d0, d1, d2, d3, a0, a1]
              rw [← h15]
              simp only [go_sem, reduceIte, reduceEqDiff, reduceAdd, reduceMul, reduceSub, reduceLeDiff, reduceLT, Nat.reduceBEq, reduceCtorEq, t1, t4, t5, t7, t8, t12, t13, t14, t11', cast1, hiu, g0', g1, g2, g3, w1k, appO, ref147w, hlo2, hlo3, hlo4, d0, d1, d2, d3, under_rsx, under_tokx, e147, n2, n3, hrf, ha, w14]
              have hn3' : H2.n < H3.n := by simp at hn3; omega
              refine ⟨hc3 _ _ _ (by simp; omega) ((hold _ (by omega)).trans g0'), hc3 _ _ _ (by simp; omega) ((hold _ (by omega)).trans g1), hc3 _ _ _ (by simp; omega) ((hold _ (by omega)).trans g2), hc3 _ _ _ (by simp; omega) ((hold _ (by omega)).trans g3), by omega, fun j h => (hO3.2 j (by omega)).trans ((hold j (by omega)).trans (ho j h)), t', by rw [List.map_append], by rw [List.map_append]; exact hA3⟩
            · have a0 := fun lo H => app_copy (lo := lo) (H := H) hw (by omega)
              have a1 := fun lo H k hk h2 => app_more (lo := lo) (H := H) (k := k) hw hwl hk h2 ⟨a.1, a.2, EM⟩
              simp only [Leg.row, i64] at a1
              have hold : ∀ j, j < H2.n → (((((H2.push (.row (blF used) 1 4)).set H2.n (.row (blF (used.set i true)) 1 4)).push (.row [] 3 141)).set (H2.n + 1) .dead).push (.row [] 3 141)).get j = H2.get j := fun j h => by rw [Heap.get_push, if_neg (by simp; omega), Heap.get_set, if_neg (by omega), Heap.get_push, if_neg (by simp; omega), Heap.get_set, if_neg (by omega), Heap.get_push, if_neg (by omega)]
              obtain ⟨t', H3, ha, hA3, hn3, hO3, hc3⟩ := app_bs (lo := lo) (rx := WF.map wayRow) (hA'.old (H' := ((((H2.push (.row (blF used) 1 4)).set H2.n (.row (blF (used.set i true)) 1 4)).push (.row [] 3 141)).set (H2.n + 1) .dead).push (.row [] 3 141)) (by simp; omega) hold) (by simp; omega) (by omega) hrl (way_pure WF) (by decide) (rows_all wayRow_len W0)
              rw [way_strip] at ha hA3
              generalize h12 : Code.region 12 _ _ = c12
              generalize h13 : Code.region 13 _ _ = c13
              generalize h14 : Code.region 14 _ _ = c14
              generalize h15 : Code.region 15 _ _ = c15
              simp only [go_sem, reduceIte, reduceEqDiff, reduceAdd, reduceMul, reduceSub, reduceLeDiff, reduceLT, Nat.reduceBEq, reduceCtorEq, t1, t4, t5, t7, t8, t12, t13, t14, t11', cast1, hiu, i02, i12, wl01, wl12, hblk, ud, ul, w14, g1, g3, hB]
              rw [← h12]
              simp only [go_sem, reduceIte, reduceEqDiff, reduceAdd, reduceMul, reduceSub, reduceLeDiff, reduceLT, Nat.reduceBEq, reduceCtorEq, t1, t4, t5, t7, t8, t12, t13, t14, t11', cast1, hiu, hblk, ul1, ut, uc, appO, ref147u, ea]
              rw [← h13]
              simp only [go_sem, reduceIte, reduceEqDiff, reduceAdd, reduceMul, reduceSub, reduceLeDiff, reduceLT, Nat.reduceBEq, reduceCtorEq, t1, t4, t5, t7, t8, t12, t13, t14, t11', cast1, hiu, ud, ul, uo, hlo2]
              rw [← h14]
              simp only [go_sem, reduceIte, reduceEqDiff, reduceAdd, reduceMul, reduceSub, reduceLeDiff, reduceLT, Nat.reduceBEq, reduceCtorEq, t1, t4, t5, t7, t8, t12, t13, t14, t11', cast1, hiu, g1, g3, appO, ref147l, hlo2, hlo3, hlo4, d0, d1, d2, d3, hrw, a0, a1]
              rw [← h15]
              simp only [go_sem, reduceIte, reduceEqDiff, reduceAdd, reduceMul, reduceSub, reduceLeDiff, reduceLT, Nat.reduceBEq, reduceCtorEq, t1, t4, t5, t7, t8, t12, t13, t14, t11', cast1, hiu, g0', g1, g2, g3, w1k, appO, ref147w, hlo2, hlo3, hlo4, d0, d1, d2, d3, under_rsx, under_tokx, e147, n3, hrf, ha, w14]
              have hn3' : H2.n < H3.n := by simp at hn3; omega
              refine ⟨hc3 _ _ _ (by simp; omega) ((hold _ (by omega)).trans g0'), hc3 _ _ _ (by simp; omega) ((hold _ (by omega)).trans g1), hc3 _ _ _ (by simp; omega) ((hold _ (by omega)).trans g2), hc3 _ _ _ (by simp; omega) ((hold _ (by omega)).trans g3), by omega, fun j h => (hO3.2 j (by omega)).trans ((hold j (by omega)).trans (ho j h)), t', by rw [List.map_append], by rw [List.map_append]; exact hA3⟩
     · rintro T H2 M ⟨rfl, t1, t4, t5, t7, t8, t12, t13, t14, g0, g1, g2, g3, hn2, ho, t, t11, hA⟩
       simp only [go_sem, reduceIte, reduceEqDiff, reduceAdd, reduceMul, reduceSub, reduceLeDiff, reduceLT, Nat.reduceBEq, reduceCtorEq, t1, t4, t5, t7, t8, t12, t13, t14, t11, hw12, cast2, i22, g0, g1, g2]
       exact ⟨by omega, ho, t, rfl, hA⟩
   · rintro T H2 M ⟨rfl, t1, t4, t5, t7, t8, t12, g0, g1, g2, hn1, ho, t, t11, hA⟩
     have g0' := g0
     simp only [Net.cells] at g0'
     simp only [go_sem, reduceIte, reduceEqDiff, reduceAdd, reduceMul, reduceSub, reduceLeDiff, reduceLT, Nat.reduceBEq, reduceCtorEq, t1, t4, t5, t7, t8, t12, t11, g0', List.length_map, Int.ofNat_lt, Nat.lt_irrefl, waysL_succ]
end Go.Sim

/-
Ways: the least way, by the reference.
-/
-- INJ Leg.row_iff lgs_iff pts_iff ptr_iff
namespace Go.Sim
open Go Go.Proofs
set_option maxRecDepth 100000
set_option maxHeartbeats 16000000
variable {P:FuncId→Option (List AV→Option AV)}
theorem op_makeSlice {C:Cfg} {rec:Rec} {fid lo:Nat} {T:TT AV} {H:Heap} {K:AV→Heap→Prop} {d:Option Tmp} {t:TypeId} {p:String} {af:Array Edge} {gd:Option (Nat × Bool)} (t':TypeId) (l c:Operand) :
 VO (aop C rec fid lo ⟨d,.makeSlice t' l c,t,p,af,gd⟩ T H) K=AO (evalO C T l) fun x=>AO (evalO C T c) fun y=>VO (amakeSlice C.P H t' x y) K:=by
 simp only [aop]
 cases evalO C T l with
 | none=>rfl
 | some x=>cases evalO C T c<;>rfl
theorem mk254 (H:Heap) {N:Nat} (h:N≤maxRows):amakeSlice NC.P H 254 (.int .i64 (N:Nat)) (.int .i64 (N:Nat))=some (.rs H.n 0 N 1 (some N),H.push (.cells (blF (List.replicate N false)) 4)):=by
 have e1:elemOf NC.P 254=some 4:=by kernel_rfl
 have e2:szOf NC.P 4=some 1:=by kernel_rfl
 have e3:bytesOf NC.P 4=some 1:=by kernel_rfl
 have e4:zeroOf NC.P 4=some (.bool false):=by kernel_rfl
 have hb:1 * N≤140737488355328:=by unfold maxRows at h;omega
 have hf:(List.replicate N (AV.bool false).cells).flatten=blF (List.replicate N false):=by
  unfold blF
  rw [List.map_replicate];rfl
 unfold amakeSlice
 rw [e1]
 simp only [e2,e3,e4]
 have hb':N≤140737488355328:=by omega
 rw [hf,if_pos (by simp [hb',h,AV.cells])]
def wayRv (n:Net) (o:Option (List Leg)):List AV:=match o with
 | none=>[.ps .unk [],i64 0,i64 18]
 | some w=>[.ps .unk (w.map Leg.row),i64 (sumR w 0),i64 0]
theorem wayRv_pure (n:Net) (o:Option (List Leg)):(AV.tup (wayRv n o)).pure=true:=by cases o<;>rfl
theorem lks {n:Net} (h:netP n=0):∀ s ∈ n.sws,s.last=true → ∃ i,findL n.lines s.other=some i:=fun s hs _=>by
 obtain ⟨i,l,h1,_⟩:=lnB_some (sw_zero h s hs).2.2.1
 exact ⟨i,h1⟩
theorem bestO_in {n:Net} (h:netP n=0) {a b:Pt} (hRa:inR a.2) (hRb:inR b.2) {w:List Leg} (hw:bestO n a b=some w):∃ σ,okS (endE n) n.sws.length a σ b∧w=legsOf (endE n) a σ b∧(∀ l ∈ w,inR l.fr∧inR l.to):=by
 unfold bestO at hw
 split at hw
 · rename_i hex
   cases hw
   obtain ⟨σ,s1,s2⟩:=hex.choose_spec.way
   exact ⟨σ,s1,s2,by rw [s2];exact legsOf_in (fun i k hi=>(ends_in h i k hi).2) hRa hRb s1⟩
 · cases hw
theorem bestO_best {n:Net} {a b:Pt} {w:List Leg} (hw:bestO n a b=some w):Best (endE n) n.sws.length (findI n.lines) a b w:=by
 unfold bestO at hw
 split at hw
 · rename_i hex
   cases hw
   exact hex.choose_spec
 · cases hw
theorem bestO_len {n:Net} {a b:Pt} {w:List Leg} (hw:bestO n a b=some w):w.length≤n.sws.length+1:=by
 have hb:=bestO_best hw
 obtain ⟨σ,s1,rfl⟩:=hb.way
 obtain ⟨τ,t1,t2,t3⟩:=cut_all (endE n) n.sws.length σ.length (Nat.le_refl _) s1
 have hl:=simple_few t1 t2
 rw [legsOf_length]
 rcases t3 with rfl | ⟨t3,t4⟩
 · omega
 · have hq:=wLt_short (findI n.lines) (a:=legsOf (endE n) a τ b) (b:=legsOf (endE n) a σ b) t4 (by rw [legsOf_length,legsOf_length];omega)
   exact (wLe_no (findI n.lines) (hb.least τ t1) hq).elim
def FineN (n:Net):Prop:=netP n=0∧n.fits∧n.sws.length≤4
noncomputable def PPF75:FuncId→Option (List AV→Option AV):=addPrim 207 p207 (addPrim 148 p148 (addPrim 77 p77 (fun _=>none)))
theorem primsF75:PrimsOk NC PPF75:=primsOk_add (primsOk_add (primsOk_add (primsOk_none) (by kernel_rfl) (by kernel_rfl) pok77) (by kernel_rfl) (by kernel_rfl) pok148) (by kernel_rfl) (by kernel_rfl) pok207
theorem enF75_77:En PPF75 77 p77:=enter_prim (by rfl) (by kernel_rfl)
theorem enF75_148:En PPF75 148 p148:=enter_prim (by rfl) (by kernel_rfl)
theorem enF75_207:En PPF75 207 p207:=enter_prim (by rfl) (by kernel_rfl)
attribute [go_sem ↓] enF75_77 enF75_148 enF75_207
theorem c75 (n:Net) (a b:Pt) (hp:FineN n∧lnB n.lines a.1=true∧inR a.2∧inR b.2):∀ lo H,CallOk NC lo 75 [.agg n.cells,.agg (ptRow a),.agg (ptRow b)] H (.tup (wayRv n (bestO n a b))) H:=by
 refine contract saneNC primsF75 (fn:=Tryz.f75) (by kernel_rfl) Tryz.func75 rfl rfl (by rfl) (wayRv_pure n _) ?_
 obtain ⟨⟨hz,hfit,h4⟩,hLa,hRa,hRb⟩:=hp
 have hN:n.sws.length≤maxRows:=by unfold maxRows;omega
 have hbest:=waysR_best hz hLa hRa hRb
 have hml:=waysL_len (endE n) n.sws.length b (n.sws.length+1) [] a (List.replicate n.sws.length false)
 have hfew:=waysL_few (E:=endE n) (N:=n.sws.length) (b:=b) h4 (n.sws.length+1) [] a (List.replicate n.sws.length false)
 have hpw:9 ^ (n.sws.length+1)≤59049:=Nat.le_trans (Nat.pow_le_pow_right (by decide) (Nat.succ_le_succ h4)) (by decide)
 have hmk:=fun H=>mk254 H hN
 have e147:∀ {lo':Nat} {H':Heap} {K:AV→Heap→Prop},3 < H'.n→H'.get 3=.cells (blF (List.replicate n.sws.length false)) 4→VO (aenter (NC.withPrims PPF75) (R (NC.withPrims PPF75)) lo' 147 [.agg n.cells,.ps .unk [],.agg [.str a.1,.int .i64 a.2],.agg [.str b.1,.int .i64 b.2],.rs 3 0 n.sws.length 1 (some n.sws.length)] H') K=K (.ps .unk ((waysL (endE n) n.sws.length b (n.sws.length+1) [] a (List.replicate n.sws.length false)).map wayRow)) H':=by
  intro lo' H' K hx1 hx2
  obtain ⟨v,H3,q1,q2⟩:=r147 (P:=PPF75) rfl rfl n hfit (lks hz) h4 b (n.sws.length+1) (by omega) [] a (List.replicate n.sws.length false) (some n.sws.length) H'.n 3 H' (by simp) (by simp;omega) (by rw [List.count_replicate_self];omega) (Nat.le_refl _) hx1 (.inl hx2)
  rw [List.length_replicate,List.map_nil] at q1
  rw [en147 rfl,q1,AO_some,ofVal_v,q2]
  simp only [eq_iff_iff,and_iff_right_iff_imp]
  intro _;rfl
 generalize waysL (endE n) n.sws.length b (n.sws.length+1) [] a (List.replicate n.sws.length false)=A at hbest hml hfew e147
 rw [← hbest]
 clear hbest
 have hml':∀ x ∈ A,x.length≤100:=fun x hx=>by have:=hml x hx;simp at this;omega
 have hAl:A.length≤maxRows:=by unfold maxRows;omega
 obtain ⟨a1,a2⟩:=a
 obtain ⟨b1,b2⟩:=b
 simp only [Net.cells] at e147
 cases A with
 | nil =>
   simp only [List.map_nil] at e147
   simp only [go_sem,reduceIte,reduceEqDiff,reduceAdd,reduceMul,reduceSub,reduceLeDiff,reduceLT,Nat.reduceBEq,reduceCtorEq,↓op_makeSlice,under_rsx,Net.cells,ptRow,List.length_map,hmk,e147]
   rfl
 | cons x r =>
   have hx:=hml' x (by simp)
   simp only [List.map_cons] at e147
   have hne:(((r.length+1:Nat):Int)=0)=False:=by simp only [eq_iff_iff,iff_false];omega
   simp only [go_sem,reduceIte,reduceEqDiff,reduceAdd,reduceMul,reduceSub,reduceLeDiff,reduceLT,Nat.reduceBEq,reduceCtorEq,↓op_makeSlice,under_rsx,Net.cells,ptRow,List.length_map,hmk,e147,hne,wayRow,show (0 < r.length+1)=True from eq_true (Nat.succ_pos _)]
   refine W_for (fun k T H M=>M=[]∧getT T 3=.ptr 0 0∧getT T 9=.ps .unk ((x::r).map wayRow)∧getT T 11=i64 ((k+1:Nat):Int)∧H.get 0=.cells n.cells 26 ∧ ∃ v,v.length≤100∧getT T 10=.ps .unk (v.map Leg.row)∧(x::r).foldl (takeR n) none=(r.drop k).foldl (takeR n) (some v)) r.length ?_ ?_ ?_
   · simp only [go_sem,reduceIte,reduceEqDiff,reduceAdd,reduceMul,reduceSub,reduceLeDiff,reduceLT,Nat.reduceBEq,reduceCtorEq,Net.cells]
     exact ⟨rfl,rfl,x,hx,rfl,rfl⟩
   · rintro k T H M hk ⟨rfl,g3,g9,g11,h0,v,hvl,g10,hfo⟩
     obtain ⟨y,hy⟩:∃ p,r[k]? = some p:=⟨r[k],by simp⟩
     have hy1:(x::r)[k+1]? = some y:=by simpa using hy
     have hr:=map_at (f:=wayRow) hy
     have hyl:=hml' y (List.mem_of_getElem? hy1)
     have hw:=wrap_succ (k:=k+1) (n:=(x::r).length) (by simp;omega) hAl
     have hk1:(k+1 < r.length+1)=True:=by simp only [eq_iff_iff,iff_true];omega
     rw [drop_at hy] at hfo
     have e148:=pe148 n y v ⟨hfit.1,by unfold maxRows;omega,by unfold maxRows;omega⟩
     have hfo':(x::r).foldl (takeR n) none=(r.drop (k+1)).foldl (takeR n) (if lessR n y v=true then some y else some v):=hfo
     have h0':=h0
     simp only [Net.cells,wayRow] at e148 h0' hr
     cases hB:lessR n y v with
     | true =>
       rw [hB] at e148 hfo'
       simp only [go_sem,reduceIte,reduceEqDiff,reduceAdd,reduceMul,reduceSub,reduceLeDiff,reduceLT,Nat.reduceBEq,reduceCtorEq,g3,g9,g10,g11,h0',List.length_map,List.length_cons,Int.ofNat_lt,hk1,hr,hw,e148]
       exact ⟨rfl,_,hyl,rfl,hfo'⟩
     | false =>
       rw [hB] at e148 hfo'
       simp only [go_sem,reduceIte,reduceEqDiff,reduceAdd,reduceMul,reduceSub,reduceLeDiff,reduceLT,Nat.reduceBEq,reduceCtorEq,g3,g9,g10,g11,h0',List.length_map,List.length_cons,Int.ofNat_lt,hk1,hr,hw,e148]
       exact ⟨rfl,_,hvl,rfl,hfo'⟩
   · rintro T H M ⟨rfl,g3,g9,g11,h0,v,hvl,g10,hfo⟩
     have e77:=pe77 v (by unfold maxRows;omega)
     rw [List.drop_length] at hfo
     have hfo':(x::r).foldl (takeR n) none=some v:=hfo
     try simp only [i64] at e77
     rw [hfo']
     simp only [go_sem,reduceIte,reduceEqDiff,reduceAdd,reduceMul,reduceSub,reduceLeDiff,reduceLT,Nat.reduceBEq,reduceCtorEq,g3,g9,g10,g11,List.length_map,List.length_cons,Int.ofNat_lt,Nat.lt_irrefl,e77,wayRv]
noncomputable def p75:List AV→Option AV:=primOf (α:=(Net) × (Pt) × (Pt)) (fun x=>[.agg x.1.cells,.agg (ptRow x.2.1),.agg (ptRow x.2.2)]) (fun x=>FineN x.1∧lnB x.1.lines x.2.1.1=true∧inR x.2.1.2∧inR x.2.2.2) (fun x=>.tup (wayRv x.1 (bestO x.1 x.2.1 x.2.2)))
theorem pok75:∀ args v,p75 args=some v → ∀ lo H,CallOk NC lo 75 args H v H:=by
 intro args v h
 obtain ⟨x,rfl,hp,rfl⟩:=primOf_inv h
 exact c75 x.1 x.2.1 x.2.2 hp
theorem pe75 (n:Net) (a b:Pt) (hp:FineN n∧lnB n.lines a.1=true∧inR a.2∧inR b.2):p75 [.agg n.cells,.agg (ptRow a),.agg (ptRow b)]=some (.tup (wayRv n (bestO n a b))):=primOf_enc (α:=(Net) × (Pt) × (Pt)) (enc:=fun x=>[.agg x.1.cells,.agg (ptRow x.2.1),.agg (ptRow x.2.2)]) (pre:=fun x=>FineN x.1∧lnB x.1.lines x.2.1.1=true∧inR x.2.1.2∧inR x.2.2.2) (spec:=fun x=>.tup (wayRv x.1 (bestO x.1 x.2.1 x.2.2))) (by intro x y h;(simp only [List.cons.injEq,AV.agg.injEq,AV.str.injEq,AV.int.injEq,AV.ps.injEq,AV.bool.injEq,Net.cells_iff,Ln.row_iff,Pc.row_iff,Mv.row_iff,lns_iff,pcs_iff,mvs_iff,Leg.row_iff,lgs_iff,pts_iff,ptr_iff,true_and,and_true] at h;first | simpa only [Prod.ext_iff] using h | simpa only [Prod.ext_iff,and_assoc] using h)) (n,a,b) hp
end Go.Sim
