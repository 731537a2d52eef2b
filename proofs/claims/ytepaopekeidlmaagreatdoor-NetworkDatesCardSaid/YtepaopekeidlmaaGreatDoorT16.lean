/-
The parts NetD5, NetM6, NetD6 of one proof, joined: each begins with a remark that says what it shows.
-/
import Derived.Test.YtepaopekeidlmaaGreatDoorT15
set_option linter.unusedSimpArgs false
set_option linter.unusedVariables false

/-
Histories: the reference's Since; the law's own helpers.
-/
-- INJ Sv.row_iff svs_iff
namespace Go.Sim
open Go Go.Proofs
set_option maxRecDepth 100000
set_option maxHeartbeats 8000000
theorem netAt_eq {h : List Sv} {k : Nat} {s : Sv} (hs : h[k]? = some s) : netAt h k = s.net := by unfold netAt; rw [hs]
theorem mapAt_eq {h : List Sv} {k : Nat} {s : Sv} (hs : h[k]? = some s) : mapAt h k = s.map := by unfold mapAt; rw [hs]
theorem prevN_eq {h : List Sv} {k : Nat} {s : Sv} (hs : h[k]? = some s) : prevN h (k + 1) = s.net := by unfold prevN; simp only [hs]
noncomputable def PPF68 : FuncId → Option (List AV → Option AV) := addPrim 28 p28 (addPrim 141 p141 (addPrim 47 p47 (addPrim 25 p25 (addPrim 67 p67 (fun _ => none)))))
theorem primsF68 : PrimsOk NC PPF68 := primsOk_add (primsOk_add (primsOk_add (primsOk_add (primsOk_add (primsOk_none) (by kernel_rfl) (by kernel_rfl) pok67) (by kernel_rfl) (by kernel_rfl) pok25) (by kernel_rfl) (by kernel_rfl) pok47) (by kernel_rfl) (by kernel_rfl) pok141) (by kernel_rfl) (by kernel_rfl) pok28
theorem enF68_67 {rec : Rec} {lo : Nat} {args : List AV} {H : Heap} {K : AV → Heap → Prop} : VO (aenter (NC.withPrims PPF68) rec lo 67 args H) K = AO (p67 args) fun v => K v H := enter_prim (by rfl) (by kernel_rfl)
theorem enF68_25 {rec : Rec} {lo : Nat} {args : List AV} {H : Heap} {K : AV → Heap → Prop} : VO (aenter (NC.withPrims PPF68) rec lo 25 args H) K = AO (p25 args) fun v => K v H := enter_prim (by rfl) (by kernel_rfl)
theorem enF68_47 {rec : Rec} {lo : Nat} {args : List AV} {H : Heap} {K : AV → Heap → Prop} : VO (aenter (NC.withPrims PPF68) rec lo 47 args H) K = AO (p47 args) fun v => K v H := enter_prim (by rfl) (by kernel_rfl)
theorem enF68_141 {rec : Rec} {lo : Nat} {args : List AV} {H : Heap} {K : AV → Heap → Prop} : VO (aenter (NC.withPrims PPF68) rec lo 141 args H) K = AO (p141 args) fun v => K v H := enter_prim (by rfl) (by kernel_rfl)
theorem enF68_28 {rec : Rec} {lo : Nat} {args : List AV} {H : Heap} {K : AV → Heap → Prop} : VO (aenter (NC.withPrims PPF68) rec lo 28 args H) K = AO (p28 args) fun v => K v H := enter_prim (by rfl) (by kernel_rfl)
attribute [go_sem ↓] enF68_67 enF68_25 enF68_47 enF68_141 enF68_28
theorem c68 (h : List Sv) (d : Int) (s : List Nat) (pc po o : Int) (hp : HistOk h ∧ histR h = 0) : ∀ lo H, CallOk NC lo 68 [.ps .unk (h.map Sv.row), i64 d, .agg [.str s, i64 pc, i64 po], i64 o] H (.tup (sinceI h d s pc po o)) H := by
  refine contract saneNC primsF68 (fn := Tryz.f68) (by kernel_rfl) Tryz.func68 rfl rfl (by rfl) (sinceI_pure h d s pc po o) ?_
  obtain ⟨hp, hz⟩ := hp
  have e1 := pe67 h d hp.few
  have e2 := pe67 h o hp.few
  unfold sinceI
  rcases Classical.propComplete ((onQ h d).2 = 0) with z1 | z1
  case inr => simp only [go_sem, reduceIte, Nat.reduceEqDiff, Nat.reduceAdd, Nat.reduceMul, Nat.reduceSub, Nat.reduceLeDiff, Nat.reduceLT, Nat.reduceBEq, reduceCtorEq, e1, z1, noAddr]
  obtain ⟨a, sa, ha, hal, hsa⟩ := onQ_good (of_eq_true z1)
  simp only [ha] at e1
  rw [ha, Int.toNat_natCast, netAt_eq hsa]
  have hra := map_at (f := Sv.row) hsa
  have hna := hist_surv hz hsa
  have e25 := pe25 (sa.net, s, pc, po) (hp.net sa (List.mem_of_getElem? hsa)).fits
  simp only [← placed_same hna.1, placedQ_eq] at e25
  have hin0 : (placedQ sa.net s pc po).2 = 0 → inNet (netAt h a) (placedQ sa.net s pc po).1 := fun hq => by rw [netAt_eq hsa]; exact placed_in hna.1 hq
  generalize placedQ sa.net s pc po = P0 at e25 hin0 ⊢
  obtain ⟨⟨t, q⟩, ee⟩ := P0
  simp only at hin0
  clear hna
  obtain ⟨da, ⟨na1, na2, na3⟩, ma⟩ := sa
  simp only [Sv.row, Net.cells, List.cons_append, List.nil_append, i64] at hra e25
  rcases Classical.propComplete (ee = 0) with z2 | z2
  case inr => simp only [go_sem, reduceIte, Nat.reduceEqDiff, Nat.reduceAdd, Nat.reduceMul, Nat.reduceSub, Nat.reduceLeDiff, Nat.reduceLT, Nat.reduceBEq, reduceCtorEq, List.length_map, e1, e25, hal, hra, z1, z2, noAddr]
  rcases Classical.propComplete ((onQ h o).2 = 0) with z3 | z3
  case inr => simp only [go_sem, reduceIte, Nat.reduceEqDiff, Nat.reduceAdd, Nat.reduceMul, Nat.reduceSub, Nat.reduceLeDiff, Nat.reduceLT, Nat.reduceBEq, reduceCtorEq, List.length_map, e1, e2, e25, hal, hra, z1, z2, z3, noAddr]
  have hin1 := hin0 (of_eq_true z2)
  obtain ⟨b, sb, hb, hbl, hsb⟩ := onQ_good (of_eq_true z3)
  simp only [hb] at e2
  rw [hb, Int.toNat_natCast, netAt_eq hsb]
  have hrb := map_at (f := Sv.row) hsb
  have hnb2 := (hp.net sb (List.mem_of_getElem? hsb)).fits
  have hnb := hist_surv hz hsb
  have e28 : ∀ p : Pl, inNet (netAt h b) p → p28 [.agg sb.net.cells, .agg [.str p.1, .int .i64 p.2]] = some (addrP sb.net p) := fun p hpn => by
    rw [netAt_eq hsb] at hpn
    rw [addr_in hnb.1 hpn]
    obtain ⟨i, l, hf, _⟩ := hpn
    exact pe28 (sb.net, p.1, p.2) ⟨hnb2, i, hf⟩
  clear hnb hnb2
  unfold addrP at e28
  unfold addrP
  obtain ⟨db, ⟨nb1, nb2, nb3⟩, mb⟩ := sb
  simp only [Sv.row, Net.cells, List.cons_append, List.nil_append, i64] at hrb e28
  simp only [go_sem, reduceIte, Nat.reduceEqDiff, Nat.reduceAdd, Nat.reduceMul, Nat.reduceSub, Nat.reduceLeDiff, Nat.reduceLT, Nat.reduceBEq, reduceCtorEq, List.length_map, e1, e2, e25, hal, hra, z1, z2, z3]
  have hl := hp.few
  by_cases hab : a < b
  · have hgo : goP h a b (t, q) = goUp h (b - a) a (t, q) := by unfold goP; rw [if_pos hab]
    rw [hgo]
    generalize hR : goUp h (b - a) a (t, q) = R
    refine W_for (fun k T H M => M = [] ∧ getT T 0 = .ps .unk (h.map Sv.row) ∧ getT T 10 = i64 ((a + k : Nat) : Int) ∧ getT T 14 = i64 b ∧ getT T 12 = .ptr 2 0 ∧ getT T 8 = .ptr 1 0 ∧ H.get 1 = .cells [.str [], i64 0, i64 0] 30 ∧ 2 < H.n ∧ ∃ p : Pl, H.get 2 = .cells [.str p.1, i64 p.2] 28 ∧ R = goUp h (b - a - k) (a + k) p ∧ inNet (netAt h (a + k)) p) (b - a) ?_ ?_ ?_
    · simp only [go_sem, reduceIte, Nat.reduceEqDiff, Nat.reduceAdd, Nat.reduceMul, Nat.reduceSub, Nat.reduceLeDiff, Nat.reduceLT, Nat.reduceBEq, reduceCtorEq]
      exact ⟨(t, q), rfl, hR.symm, hin1⟩
    · rintro k T H M hk ⟨rfl, g0, g11, g14, g13, g8, h1, hn, p, h2, hf, hin⟩
      have hak : a + k + 1 < h.length := by omega
      obtain ⟨s1, hs1⟩ : ∃ p, h[a + k + 1]? = some p := ⟨h[a + k + 1], by simp⟩
      obtain ⟨s0, hs0⟩ : ∃ p, h[a + k]? = some p := ⟨h[a + k]'(by omega), by simp⟩
      have hv1 := hist_surv hz hs1
      have hv0 := hist_surv hz hs0
      have hr1 := map_at (f := Sv.row) hs1
      have hne : (((a + k : Nat) : Int) = (b : Int)) = False := by simp; omega
      have hlt : (((a + k : Nat) : Int) < (b : Int)) = True := by simp; omega
      have hw : wrapq .i64 (Int.add ((a + k : Nat) : Int) 1) = ((a + k + 1 : Nat) : Int) := wrap_nat (n := a + k + 1) (by unfold maxRows at hl; omega)
      rw [netAt_eq hs0] at hin
      have hrg := in_range hv0.1 hin
      have hfit := hv1.2.2 (by omega)
      rw [prevN_eq hs0] at hfit
      have e47 := pe47 s1.map p.1 p.2 (hp.map s1 (List.mem_of_getElem? hs1)).few
      rw [← car_same hv1.2.1 p.1 hrg.1 hrg.2] at e47
      have hst : b - a - k = (b - a - (k + 1)) + 1 := by omega
      rw [hst] at hf
      unfold goUp at hf
      rw [mapAt_eq hs1] at hf
      have hnext : ∀ p', carO s1.map p = some p' → inNet (netAt h (a + k + 1)) p' := fun p' hc => by
        rw [netAt_eq hs1]; exact car_in hv1.2.1 hfit hc
      have b1 : (1 = H.n) = False := by simp; omega
      have b2 : (2 = H.n) = False := by simp; omega
      have hak' : (a + k + 1 < h.length) = True := by simp; omega
      clear hv1 hfit
      obtain ⟨d1, ⟨n1, n2, n3⟩, m1⟩ := s1
      simp only [Sv.row, Net.cells, List.cons_append, List.nil_append, i64] at hr1 e47 hf hnext
      cases hc : carO m1 p with
      | none =>
        rw [carP_none hc, noPlace] at e47
        rw [hc] at hf
        simp only at hf
        simp only [go_sem, reduceIte, Nat.reduceEqDiff, Nat.reduceAdd, Nat.reduceMul, Nat.reduceSub, Nat.reduceLeDiff, Nat.reduceLT, Nat.reduceBEq, reduceCtorEq, List.length_map, g0, g11, g14, g13, g8, h1, h2, b1, b2, hne, hlt, hw, hak', hr1, e47]
        rw [hf]
        simp only [z1, z2, z3, if_true]
        rfl
      | some p' =>
        rw [carP_some hc] at e47
        rw [hc] at hf
        simp only at hf
        have hnx := hnext p' hc
        simp only [go_sem, reduceIte, Nat.reduceEqDiff, Nat.reduceAdd, Nat.reduceMul, Nat.reduceSub, Nat.reduceLeDiff, Nat.reduceLT, Nat.reduceBEq, reduceCtorEq, List.length_map, g0, g11, g14, g13, g8, h1, h2, b1, b2, hne, hlt, hw, hak', hr1, e47]
        first | exact ⟨rfl, hn, p', rfl, hf, hnx⟩ | exact ⟨hn, p', rfl, hf, hnx⟩
    · rintro T H M ⟨rfl, g0, g11, g14, g13, g8, h1, hn, p, h2, hf, hin⟩
      have he : a + (b - a) = b := by omega
      rw [he, Nat.sub_self] at hf
      rw [he] at g11 hin
      unfold goUp at hf
      have e28' := e28 p hin
      simp only [go_sem, reduceIte, Nat.reduceEqDiff, Nat.reduceAdd, Nat.reduceMul, Nat.reduceSub, Nat.reduceLeDiff, Nat.reduceLT, Nat.reduceBEq, reduceCtorEq, List.length_map, g0, g11, g14, g13, g8, h1, h2, hbl, hrb, e28']
      rw [hf]
      simp only [z1, z2, z3, if_true]
      try rfl
  · have hgo : goP h a b (t, q) = goDown h (a - b) a (t, q) := by unfold goP; rw [if_neg hab]
    rw [hgo]
    generalize hR : goDown h (a - b) a (t, q) = R
    refine W_for (fun k T H M => M = [] ∧ getT T 0 = .ps .unk (h.map Sv.row) ∧ getT T 10 = i64 ((a - k : Nat) : Int) ∧ getT T 14 = i64 b ∧ getT T 12 = .ptr 2 0 ∧ getT T 8 = .ptr 1 0 ∧ H.get 1 = .cells [.str [], i64 0, i64 0] 30 ∧ 2 < H.n ∧ ∃ p : Pl, H.get 2 = .cells [.str p.1, i64 p.2] 28 ∧ R = goDown h (a - b - k) (a - k) p ∧ inNet (netAt h (a - k)) p) (a - b) ?_ ?_ ?_
    · simp only [go_sem, reduceIte, Nat.reduceEqDiff, Nat.reduceAdd, Nat.reduceMul, Nat.reduceSub, Nat.reduceLeDiff, Nat.reduceLT, Nat.reduceBEq, reduceCtorEq]
      first | exact ⟨(t, q), rfl, hR.symm, hin1⟩ | exact ⟨rfl, (t, q), rfl, hR.symm, hin1⟩
    · rintro k T H M hk ⟨rfl, g0, g11, g14, g13, g8, h1, hn, p, h2, hf, hin⟩
      obtain ⟨s1, hs1⟩ : ∃ p, h[a - k]? = some p := ⟨h[a - k]'(by omega), by simp⟩
      have hst2 : a - k - 1 = a - (k + 1) := by omega
      obtain ⟨s0, hs0⟩ : ∃ p, h[a - (k + 1)]? = some p := ⟨h[a - (k + 1)]'(by omega), by simp⟩
      have hv1 := hist_surv hz hs1
      have hr1 := map_at (f := Sv.row) hs1
      have hne : (((a - k : Nat) : Int) = (b : Int)) = False := by simp; omega
      have hlt : (((a - k : Nat) : Int) < (b : Int)) = False := by simp; omega
      have hw : wrapq .i64 (Int.sub ((a - k : Nat) : Int) 1) = ((a - (k + 1) : Nat) : Int) := by
        have := wrap_pred (k := a - k) (n := a) (by omega) (by omega) (by omega)
        rw [this]; congr 1
      rw [netAt_eq hs1] at hin
      have hrg := in_range hv1.1 hin
      have hfit := hv1.2.2 (by omega)
      have hak1 : a - k = a - (k + 1) + 1 := by omega
      rw [hak1, prevN_eq hs0] at hfit
      have e141 := pe141 s1.map p.1 p.2 (hp.map s1 (List.mem_of_getElem? hs1)).few
      rw [← back_same hv1.2.1 p.1 hrg.1 hrg.2] at e141
      have hst : a - b - k = (a - b - (k + 1)) + 1 := by omega
      rw [hst] at hf
      unfold goDown at hf
      rw [mapAt_eq hs1, hst2] at hf
      have hnext : ∀ p', carO (s1.map.map undoMv) p = some p' → inNet (netAt h (a - (k + 1))) p' := fun p' hc => by
        rw [netAt_eq hs0]; exact back_in hv1.2.1 hfit hc
      have b1 : (1 = H.n) = False := by simp; omega
      have b2 : (2 = H.n) = False := by simp; omega
      have hak' : (a - k < h.length) = True := by simp; omega
      clear hv1 hfit hak1
      obtain ⟨d1, ⟨n1, n2, n3⟩, m1⟩ := s1
      simp only [Sv.row, Net.cells, List.cons_append, List.nil_append, i64] at hr1 e141 hf hnext
      cases hc : carO (m1.map undoMv) p with
      | none =>
        rw [carP_none hc, noPlace] at e141
        rw [hc] at hf
        simp only at hf
        simp only [go_sem, reduceIte, Nat.reduceEqDiff, Nat.reduceAdd, Nat.reduceMul, Nat.reduceSub, Nat.reduceLeDiff, Nat.reduceLT, Nat.reduceBEq, reduceCtorEq, List.length_map, g0, g11, g14, g13, g8, h1, h2, b1, b2, hne, hlt, hw, hak', hr1, e141]
        rw [hf]
        simp only [z1, z2, z3, if_true]
        rfl
      | some p' =>
        rw [carP_some hc] at e141
        rw [hc] at hf
        simp only at hf
        have hnx := hnext p' hc
        simp only [go_sem, reduceIte, Nat.reduceEqDiff, Nat.reduceAdd, Nat.reduceMul, Nat.reduceSub, Nat.reduceLeDiff, Nat.reduceLT, Nat.reduceBEq, reduceCtorEq, List.length_map, g0, g11, g14, g13, g8, h1, h2, b1, b2, hne, hlt, hw, hak', hr1, e141]
        first | exact ⟨rfl, hn, p', rfl, hf, hnx⟩ | exact ⟨hn, p', rfl, hf, hnx⟩
    · rintro T H M ⟨rfl, g0, g11, g14, g13, g8, h1, hn, p, h2, hf, hin⟩
      have he : a - (a - b) = b := by omega
      rw [he, Nat.sub_self] at hf
      rw [he] at g11 hin
      unfold goDown at hf
      have e28' := e28 p hin
      simp only [go_sem, reduceIte, Nat.reduceEqDiff, Nat.reduceAdd, Nat.reduceMul, Nat.reduceSub, Nat.reduceLeDiff, Nat.reduceLT, Nat.reduceBEq, reduceCtorEq, List.length_map, g0, g11, g14, g13, g8, h1, h2, hbl, hrb, e28']
      rw [hf]
      simp only [z1, z2, z3, if_true]
      try rfl
noncomputable def p68 : List AV → Option AV := primOf (α := (List Sv) × (Int) × (List Nat) × (Int) × (Int) × (Int)) (fun x => [.ps .unk (x.1.map Sv.row), i64 x.2.1, .agg [.str x.2.2.1, i64 x.2.2.2.1, i64 x.2.2.2.2.1], i64 x.2.2.2.2.2]) (fun x => HistOk x.1 ∧ histR x.1 = 0) (fun x => .tup (sinceI x.1 x.2.1 x.2.2.1 x.2.2.2.1 x.2.2.2.2.1 x.2.2.2.2.2))
theorem pok68 : ∀ args v, p68 args = some v → ∀ lo H, CallOk NC lo 68 args H v H := by
  intro args v h
  obtain ⟨x, rfl, hp, rfl⟩ := primOf_inv h
  exact c68 x.1 x.2.1 x.2.2.1 x.2.2.2.1 x.2.2.2.2.1 x.2.2.2.2.2 hp
theorem pe68 (h : List Sv) (d : Int) (s : List Nat) (pc po o : Int) (hp : HistOk h ∧ histR h = 0) : p68 [.ps .unk (h.map Sv.row), .int .i64 d, .agg [.str s, .int .i64 pc, .int .i64 po], .int .i64 o] = some (.tup (sinceI h d s pc po o)) := primOf_enc (α := (List Sv) × (Int) × (List Nat) × (Int) × (Int) × (Int)) (enc := fun x => [.ps .unk (x.1.map Sv.row), i64 x.2.1, .agg [.str x.2.2.1, i64 x.2.2.2.1, i64 x.2.2.2.2.1], i64 x.2.2.2.2.2]) (pre := fun x => HistOk x.1 ∧ histR x.1 = 0) (spec := fun x => .tup (sinceI x.1 x.2.1 x.2.2.1 x.2.2.2.1 x.2.2.2.2.1 x.2.2.2.2.2)) (by intro x y h; (simp only [List.cons.injEq, AV.agg.injEq, AV.str.injEq, AV.int.injEq, AV.ps.injEq, AV.bool.injEq, Net.cells_iff, Ln.row_iff, Pc.row_iff, Mv.row_iff, lns_iff, pcs_iff, mvs_iff, Sv.row_iff, svs_iff, true_and, and_true] at h; first | simpa only [Prod.ext_iff] using h | simpa only [Prod.ext_iff, and_assoc] using h)) (h, d, s, pc, po, o) hp
/-! ### The law's own helpers -/
def shortS (s : Sv) : Bool := shortN s.net && shortM s.map
def shortH (h : List Sv) : Bool := h.all shortS && (!decide ((4 : Int) < h.length) || decide ((h.length : Int) = 7))
structure HistLim (h : List Sv) : Prop where
  few : h.length ≤ 9223372036854775807
  map : ∀ s ∈ h, s.map.length ≤ 9223372036854775807
noncomputable def PPF62 : FuncId → Option (List AV → Option AV) := addPrim 41 p41 (addPrim 17 p17 (fun _ => none))
theorem primsF62 : PrimsOk NC PPF62 := primsOk_add (primsOk_add (primsOk_none) (by kernel_rfl) (by kernel_rfl) pok17) (by kernel_rfl) (by kernel_rfl) pok41
theorem enF62_17 {rec : Rec} {lo : Nat} {args : List AV} {H : Heap} {K : AV → Heap → Prop} : VO (aenter (NC.withPrims PPF62) rec lo 17 args H) K = AO (p17 args) fun v => K v H := enter_prim (by rfl) (by kernel_rfl)
theorem enF62_41 {rec : Rec} {lo : Nat} {args : List AV} {H : Heap} {K : AV → Heap → Prop} : VO (aenter (NC.withPrims PPF62) rec lo 41 args H) K = AO (p41 args) fun v => K v H := enter_prim (by rfl) (by kernel_rfl)
attribute [go_sem ↓] enF62_17 enF62_41
theorem c62 (h : List Sv) (hp : HistLim h) : ∀ lo H, CallOk NC lo 62 [.ps .unk (h.map Sv.row)] H (.bool (shortH h)) H := by
  refine contract saneNC primsF62 (fn := Tryz.f62) (by kernel_rfl) Tryz.func62 rfl rfl (by rfl) (by first | rfl | (split <;> first | rfl | (split <;> rfl))) ?_
  have hl := hp.few
  simp only [go_sem, reduceIte, Nat.reduceEqDiff, Nat.reduceAdd, Nat.reduceMul, Nat.reduceSub, Nat.reduceLeDiff, Nat.reduceLT, Nat.reduceBEq, reduceCtorEq]
  refine W_for (fun k T H M => M = [] ∧ getT T 0 = .ps .unk (h.map Sv.row) ∧ getT T 3 = i64 k ∧ ∀ (j : Nat) x, j < k → h[j]? = some x → shortS x = true) h.length ?_ ?_ ?_
  · simp only [go_sem, reduceIte, Nat.reduceEqDiff, Nat.reduceAdd, Nat.reduceMul, Nat.reduceSub, Nat.reduceLeDiff, Nat.reduceLT, Nat.reduceBEq, reduceCtorEq]; exact fun j x hj => absurd hj (by omega)
  · rintro k T H M hk ⟨rfl, g0, g3, hall⟩
    obtain ⟨x, hx⟩ : ∃ p, h[k]? = some p := ⟨h[k], by simp⟩
    have hr := map_at (f := Sv.row) hx
    have hw : wrapq .i64 (Int.add (k : Int) 1) = ((k + 1 : Nat) : Int) := wrap_nat (n := k + 1) (by omega)
    have e17 : p17 [.agg x.net.cells] = some (.bool (shortN x.net)) := pe17 x.net trivial
    have e41 : p41 [.ps .unk (x.map.map Mv.row)] = some (.bool (shortM x.map)) := pe41 x.map (hp.map x (List.mem_of_getElem? hx))
    have hsh : shortS x = (shortN x.net && shortM x.map) := rfl
    have hnext : shortS x = true → ∀ (j : Nat) y, j < k + 1 → h[j]? = some y → shortS y = true := fun hh j y hj hy => by
      by_cases e : j = k
      · subst e; rw [hx] at hy; cases hy; exact hh
      · exact hall j y (by omega) hy
    have hno : shortS x = false → shortH h = false := fun hh => by unfold shortH; rw [all_false hx hh]; rfl
    rw [hsh] at hnext hno
    clear hsh
    generalize shortN x.net = B1 at e17 hnext hno
    generalize shortM x.map = B2 at e41 hnext hno
    obtain ⟨d, ⟨a, b, c⟩, m⟩ := x
    simp only [Sv.row, Net.cells, List.cons_append, List.nil_append, i64] at hr e17 e41
    cases B1 <;> cases B2 <;> simp only [go_sem, reduceIte, Nat.reduceEqDiff, Nat.reduceAdd, Nat.reduceMul, Nat.reduceSub, Nat.reduceLeDiff, Nat.reduceLT, Nat.reduceBEq, reduceCtorEq, g0, g3, List.length_map, hk, hr, hw, e17, e41]
    case true.true => exact hnext rfl
    all_goals rw [hno rfl]
  · rintro T H M ⟨rfl, g0, g3, hall⟩
    have hsp : shortH h = (!decide ((4 : Int) < h.length) || decide ((h.length : Int) = 7)) := by unfold shortH; rw [all_true hall]; rfl
    rw [hsp]
    rcases Classical.propComplete ((4 : Int) < h.length) with q1 | q1 <;> rcases Classical.propComplete ((h.length : Int) = 7) with q2 | q2 <;> simp only [go_sem, reduceIte, Nat.reduceEqDiff, Nat.reduceAdd, Nat.reduceMul, Nat.reduceSub, Nat.reduceLeDiff, Nat.reduceLT, Nat.reduceBEq, reduceCtorEq, g0, g3, List.length_map, Nat.lt_irrefl, q1, q2]
noncomputable def p62 : List AV → Option AV := primOf (α := (List Sv)) (fun x => [.ps .unk (x.map Sv.row)]) (fun x => HistLim x) (fun x => .bool (shortH x))
theorem pok62 : ∀ args v, p62 args = some v → ∀ lo H, CallOk NC lo 62 args H v H := by
  intro args v h
  obtain ⟨x, rfl, hp, rfl⟩ := primOf_inv h
  exact c62 x hp
theorem pe62 (h : List Sv) (hp : HistLim h) : p62 [.ps .unk (h.map Sv.row)] = some (.bool (shortH h)) := primOf_enc (α := (List Sv)) (enc := fun x => [.ps .unk (x.map Sv.row)]) (pre := fun x => HistLim x) (spec := fun x => .bool (shortH x)) (by intro x y h; (simp only [List.cons.injEq, AV.agg.injEq, AV.str.injEq, AV.int.injEq, AV.ps.injEq, AV.bool.injEq, Net.cells_iff, Ln.row_iff, Pc.row_iff, Mv.row_iff, lns_iff, pcs_iff, mvs_iff, Sv.row_iff, svs_iff, true_and, and_true] at h; first | simpa only [Prod.ext_iff] using h | simpa only [Prod.ext_iff, and_assoc] using h)) h hp
structure HistFit (h : List Sv) : Prop where
  few : h.length ≤ maxRows
  net : ∀ s ∈ h, s.net.fits ∧ s.net.sws.length ≤ maxRows ∧ s.net.sts.length ≤ maxRows
  map : ∀ s ∈ h, s.map.length ≤ maxRows
noncomputable def PPF64 : FuncId → Option (List AV → Option AV) := addPrim 43 p43 (addPrim 19 p19 (fun _ => none))
theorem primsF64 : PrimsOk NC PPF64 := primsOk_add (primsOk_add (primsOk_none) (by kernel_rfl) (by kernel_rfl) pok19) (by kernel_rfl) (by kernel_rfl) pok43
theorem enF64_19 {rec : Rec} {lo : Nat} {args : List AV} {H : Heap} {K : AV → Heap → Prop} : VO (aenter (NC.withPrims PPF64) rec lo 19 args H) K = AO (p19 args) fun v => K v H := enter_prim (by rfl) (by kernel_rfl)
theorem enF64_43 {rec : Rec} {lo : Nat} {args : List AV} {H : Heap} {K : AV → Heap → Prop} : VO (aenter (NC.withPrims PPF64) rec lo 43 args H) K = AO (p43 args) fun v => K v H := enter_prim (by rfl) (by kernel_rfl)
attribute [go_sem ↓] enF64_19 enF64_43
theorem c64 (h : List Sv) (hp : HistFit h) : ∀ lo H, CallOk NC lo 64 [.ps .unk (h.map Sv.row)] H (.ps .unk (h.map Sv.row)) H := by
  refine contract saneNC primsF64 (fn := Tryz.f64) (by kernel_rfl) Tryz.func64 rfl rfl (by rfl) (by first | rfl | (split <;> first | rfl | (split <;> rfl))) ?_
  have hl := hp.few
  simp only [go_sem, reduceIte, Nat.reduceEqDiff, Nat.reduceAdd, Nat.reduceMul, Nat.reduceSub, Nat.reduceLeDiff, Nat.reduceLT, Nat.reduceBEq, reduceCtorEq]
  refine W_for (fun k T H M => M = [] ∧ getT T 6 = .ps .unk (h.map Sv.row) ∧ getT T 7 = i64 (h.length : Nat) ∧ getT T 8 = i64 k ∧ ∃ t, getT T 3 = .ps t ((h.take k).map Sv.row) ∧ App H t ((h.take k).map Sv.row) 5 188) h.length ?_ ?_ ?_
  · simp only [go_sem, reduceIte, Nat.reduceEqDiff, Nat.reduceAdd, Nat.reduceMul, Nat.reduceSub, Nat.reduceLeDiff, Nat.reduceLT, Nat.reduceBEq, reduceCtorEq, List.length_map]; exact ⟨.nil, by simp, .inl ⟨rfl, rfl⟩⟩
  · rintro k T H M hk ⟨rfl, g6, g7, g8, t, g3, hA⟩
    obtain ⟨x, hx⟩ : ∃ p, h[k]? = some p := ⟨h[k], by simp⟩
    have hmem := List.mem_of_getElem? hx
    have hr := map_at (f := Sv.row) hx
    have hw := wrap_succ hk hl
    have htk := take_map (f := Sv.row) hx
    have e19 := pe19 x.net (hp.net x hmem)
    have e43 := pe43 x.map (hp.map x hmem)
    obtain ⟨t', H1, ha, hB, hn1, hc1, _⟩ := app_any (H := (H.push (.cells [.int .i64 0, .ps .nil [], .ps .nil [], .ps .nil [], .ps .nil []] 135)).set H.n (.cells x.row 135)) (hA.fresh _ _ rfl) (r := x.row) (by simp; omega) rfl (by decide) (rows_all Sv.row_len _)
    obtain ⟨d, ⟨a, b, c⟩, m⟩ := x
    simp only [Sv.row, Net.cells, List.cons_append, List.nil_append, i64] at hr ha e19 e43
    simp only [go_sem, reduceIte, Nat.reduceEqDiff, Nat.reduceAdd, Nat.reduceMul, Nat.reduceSub, Nat.reduceLeDiff, Nat.reduceLT, Nat.reduceBEq, reduceCtorEq, g6, g7, g8, g3, List.length_map, hk, hr, hw, e19, e43, appO, ha]
    rw [htk]
    exact ⟨t', rfl, hB⟩
  · rintro T H M ⟨rfl, g6, g7, g8, t, g3, hA⟩
    simp only [go_sem, reduceIte, Nat.reduceEqDiff, Nat.reduceAdd, Nat.reduceMul, Nat.reduceSub, Nat.reduceLeDiff, Nat.reduceLT, Nat.reduceBEq, reduceCtorEq, g6, g7, g8, g3, List.take_length, Nat.lt_irrefl]
noncomputable def p64 : List AV → Option AV := primOf (α := (List Sv)) (fun x => [.ps .unk (x.map Sv.row)]) (fun x => HistFit x) (fun x => .ps .unk (x.map Sv.row))
theorem pok64 : ∀ args v, p64 args = some v → ∀ lo H, CallOk NC lo 64 args H v H := by
  intro args v h
  obtain ⟨x, rfl, hp, rfl⟩ := primOf_inv h
  exact c64 x hp
theorem pe64 (h : List Sv) (hp : HistFit h) : p64 [.ps .unk (h.map Sv.row)] = some (.ps .unk (h.map Sv.row)) := primOf_enc (α := (List Sv)) (enc := fun x => [.ps .unk (x.map Sv.row)]) (pre := fun x => HistFit x) (spec := fun x => .ps .unk (x.map Sv.row)) (by intro x y h; (simp only [List.cons.injEq, AV.agg.injEq, AV.str.injEq, AV.int.injEq, AV.ps.injEq, AV.bool.injEq, Net.cells_iff, Ln.row_iff, Pc.row_iff, Mv.row_iff, lns_iff, pcs_iff, mvs_iff, Sv.row_iff, svs_iff, true_and, and_true] at h; first | simpa only [Prod.ext_iff] using h | simpa only [Prod.ext_iff, and_assoc] using h)) h hp
end Go.Sim

/-
The law: NetworkMaps returns true.
-/
namespace Go.Sim
open Go Go.Proofs
set_option maxRecDepth 100000
set_option maxHeartbeats 16000000
noncomputable def PPF5 : FuncId → Option (List AV → Option AV) := addPrim 19 p19 (addPrim 50 p50 (addPrim 49 p49 (addPrim 48 p48 (addPrim 34 p34 (addPrim 22 p22 (addPrim 47 p47 (addPrim 46 p46 (addPrim 45 p45 (addPrim 44 p44 (addPrim 43 p43 (addPrim 42 p42 (addPrim 41 p41 (addPrim 17 p17 (addPrim 16 p16 (fun _ => none)))))))))))))))
theorem primsF5 : PrimsOk NC PPF5 := primsOk_add (primsOk_add (primsOk_add (primsOk_add (primsOk_add (primsOk_add (primsOk_add (primsOk_add (primsOk_add (primsOk_add (primsOk_add (primsOk_add (primsOk_add (primsOk_add (primsOk_add (primsOk_none) (by kernel_rfl) (by kernel_rfl) pok16) (by kernel_rfl) (by kernel_rfl) pok17) (by kernel_rfl) (by kernel_rfl) pok41) (by kernel_rfl) (by kernel_rfl) pok42) (by kernel_rfl) (by kernel_rfl) pok43) (by kernel_rfl) (by kernel_rfl) pok44) (by kernel_rfl) (by kernel_rfl) pok45) (by kernel_rfl) (by kernel_rfl) pok46) (by kernel_rfl) (by kernel_rfl) pok47) (by kernel_rfl) (by kernel_rfl) pok22) (by kernel_rfl) (by kernel_rfl) pok34) (by kernel_rfl) (by kernel_rfl) pok48) (by kernel_rfl) (by kernel_rfl) pok49) (by kernel_rfl) (by kernel_rfl) pok50) (by kernel_rfl) (by kernel_rfl) pok19
theorem enF5_16 {rec : Rec} {lo : Nat} {args : List AV} {H : Heap} {K : AV → Heap → Prop} : VO (aenter (NC.withPrims PPF5) rec lo 16 args H) K = AO (p16 args) fun v => K v H := enter_prim (by rfl) (by kernel_rfl)
theorem enF5_17 {rec : Rec} {lo : Nat} {args : List AV} {H : Heap} {K : AV → Heap → Prop} : VO (aenter (NC.withPrims PPF5) rec lo 17 args H) K = AO (p17 args) fun v => K v H := enter_prim (by rfl) (by kernel_rfl)
theorem enF5_41 {rec : Rec} {lo : Nat} {args : List AV} {H : Heap} {K : AV → Heap → Prop} : VO (aenter (NC.withPrims PPF5) rec lo 41 args H) K = AO (p41 args) fun v => K v H := enter_prim (by rfl) (by kernel_rfl)
theorem enF5_42 {rec : Rec} {lo : Nat} {args : List AV} {H : Heap} {K : AV → Heap → Prop} : VO (aenter (NC.withPrims PPF5) rec lo 42 args H) K = AO (p42 args) fun v => K v H := enter_prim (by rfl) (by kernel_rfl)
theorem enF5_43 {rec : Rec} {lo : Nat} {args : List AV} {H : Heap} {K : AV → Heap → Prop} : VO (aenter (NC.withPrims PPF5) rec lo 43 args H) K = AO (p43 args) fun v => K v H := enter_prim (by rfl) (by kernel_rfl)
theorem enF5_44 {rec : Rec} {lo : Nat} {args : List AV} {H : Heap} {K : AV → Heap → Prop} : VO (aenter (NC.withPrims PPF5) rec lo 44 args H) K = AO (p44 args) fun v => K v H := enter_prim (by rfl) (by kernel_rfl)
theorem enF5_45 {rec : Rec} {lo : Nat} {args : List AV} {H : Heap} {K : AV → Heap → Prop} : VO (aenter (NC.withPrims PPF5) rec lo 45 args H) K = AO (p45 args) fun v => K v H := enter_prim (by rfl) (by kernel_rfl)
theorem enF5_46 {rec : Rec} {lo : Nat} {args : List AV} {H : Heap} {K : AV → Heap → Prop} : VO (aenter (NC.withPrims PPF5) rec lo 46 args H) K = AO (p46 args) fun v => K v H := enter_prim (by rfl) (by kernel_rfl)
theorem enF5_47 {rec : Rec} {lo : Nat} {args : List AV} {H : Heap} {K : AV → Heap → Prop} : VO (aenter (NC.withPrims PPF5) rec lo 47 args H) K = AO (p47 args) fun v => K v H := enter_prim (by rfl) (by kernel_rfl)
theorem enF5_22 {rec : Rec} {lo : Nat} {args : List AV} {H : Heap} {K : AV → Heap → Prop} : VO (aenter (NC.withPrims PPF5) rec lo 22 args H) K = AO (p22 args) fun v => K v H := enter_prim (by rfl) (by kernel_rfl)
theorem enF5_34 {rec : Rec} {lo : Nat} {args : List AV} {H : Heap} {K : AV → Heap → Prop} : VO (aenter (NC.withPrims PPF5) rec lo 34 args H) K = AO (p34 args) fun v => K v H := enter_prim (by rfl) (by kernel_rfl)
theorem enF5_48 {rec : Rec} {lo : Nat} {args : List AV} {H : Heap} {K : AV → Heap → Prop} : VO (aenter (NC.withPrims PPF5) rec lo 48 args H) K = AO (p48 args) fun v => K v H := enter_prim (by rfl) (by kernel_rfl)
theorem enF5_49 {rec : Rec} {lo : Nat} {args : List AV} {H : Heap} {K : AV → Heap → Prop} : VO (aenter (NC.withPrims PPF5) rec lo 49 args H) K = AO (p49 args) fun v => K v H := enter_prim (by rfl) (by kernel_rfl)
theorem enF5_50 {rec : Rec} {lo : Nat} {args : List AV} {H : Heap} {K : AV → Heap → Prop} : VO (aenter (NC.withPrims PPF5) rec lo 50 args H) K = AO (p50 args) fun v => K v H := enter_prim (by rfl) (by kernel_rfl)
theorem enF5_19 {rec : Rec} {lo : Nat} {args : List AV} {H : Heap} {K : AV → Heap → Prop} : VO (aenter (NC.withPrims PPF5) rec lo 19 args H) K = AO (p19 args) fun v => K v H := enter_prim (by rfl) (by kernel_rfl)
attribute [go_sem ↓] enF5_16 enF5_17 enF5_41 enF5_42 enF5_43 enF5_44 enF5_45 enF5_46 enF5_47 enF5_22 enF5_34 enF5_48 enF5_49 enF5_50 enF5_19
theorem shortM_few {m : List Mv} (h : shortM m = true) : m.length ≤ 25 ∧ ∀ x ∈ m, x.line.length ≤ 40 ∧ x.other.length ≤ 40 := by
  unfold shortM at h
  simp only [Bool.and_eq_true, Bool.not_eq_true', decide_eq_false_iff_not, List.all_eq_true] at h
  refine ⟨by omega, fun x hx => ?_⟩
  have := h.1 x hx
  unfold shortMv shortB at this
  simp only [Bool.and_eq_true, Bool.not_eq_true', decide_eq_false_iff_not] at this
  omega
theorem shortM_ok {m : List Mv} (h : shortM m = true) : MapOk m := by
  obtain ⟨h1, h2⟩ := shortM_few h
  refine ⟨by unfold maxRows; omega, fun x hx => ?_⟩
  have := h2 x hx
  unfold maxRows; omega
theorem carR_shape (m : List Mv) (s : List Nat) (q : Int) : ∃ s' k b, carR m s q = [.agg [.str s', .int .i64 k], .bool b] ∧ (b = false → s' = [] ∧ k = 0) := by
  unfold carR
  cases m.find? (hitR s q) with
  | none => exact ⟨_, _, _, rfl, fun _ => ⟨rfl, rfl⟩⟩
  | some x => exact ⟨_, _, _, rfl, fun h => by cases h⟩
theorem firstI_two (a b : Int) : firstI [a, b] = if a = 0 then b else a := by
  simp only [firstI_cons, firstI_nil]
  split
  · split
    · rename_i h; exact h.symm
    · rfl
  · rfl
theorem carried_same {m : List Mv} {s : List Nat} {q : Int} : carriedP m s q = (if firstI [mapR m, pointI s q] = 0 then (match carR m s q with | [p, .bool b] => [p, i64 (whenI (!b) 7)] | _ => []) else [noPlace, i64 (firstI [mapR m, pointI s q])]) := by
  obtain ⟨s', k, b, hc, hcp⟩ := carP_shape m s q
  rw [hcp, map_same]
  have he : firstI [mapR m, whenI (!nameB s) 8, rangeI q 0 800000] = firstI [mapR m, pointI s q] := by
    rw [firstI_two]
    unfold pointI
    rw [firstI_cons]
  simp only [he]
  by_cases z : firstI [mapR m, pointI s q] = 0
  · simp only [z, if_true]
    have hz := firstI_zero z
    have h1 : mapR m = 0 := hz _ (by simp)
    have h2 : pointI s q = 0 := hz _ (by simp)
    have h3 := rangeI_zero (firstI_zero h2 (rangeI q 0 800000) (by simp))
    rw [← car_same h1 s h3.1 h3.2, hc]
  · simp only [z, if_false]
theorem c5 (m : List Mv) (a b : Net) (s : List Nat) (q : Int) (hm : m.length ≤ 9223372036854775807) : ∀ lo H, CallOk NC lo 5 [.ps .unk (m.map Mv.row), .agg (a.cells ++ b.cells), .agg [.str s, i64 q]] H (.bool true) H := by
  refine contract saneNC primsF5 (fn := Tryz.f5) (by kernel_rfl) Tryz.func5 rfl rfl (by rfl) (by rfl) ?_
  have e41 := pe41 m hm
  have ea := pe17 a trivial
  have eb := pe17 b trivial
  simp only [Net.cells, i64] at ea eb
  cases hS : shortM m with
  | false =>
    simp only [hS] at e41
    simp only [go_sem, reduceIte, Nat.reduceEqDiff, Nat.reduceAdd, Nat.reduceMul, Nat.reduceSub, Nat.reduceLeDiff, Nat.reduceLT, Nat.reduceBEq, reduceCtorEq, Net.cells, e16, e41]
  | true =>
  simp only [hS] at e41
  cases hA : shortN a with
  | false =>
    simp only [hA] at ea
    simp only [go_sem, reduceIte, Nat.reduceEqDiff, Nat.reduceAdd, Nat.reduceMul, Nat.reduceSub, Nat.reduceLeDiff, Nat.reduceLT, Nat.reduceBEq, reduceCtorEq, Net.cells, e16, e41, ea]
  | true =>
  simp only [hA] at ea
  cases hB : shortN b with
  | false =>
    simp only [hB] at eb
    simp only [go_sem, reduceIte, Nat.reduceEqDiff, Nat.reduceAdd, Nat.reduceMul, Nat.reduceSub, Nat.reduceLeDiff, Nat.reduceLT, Nat.reduceBEq, reduceCtorEq, Net.cells, e16, e41, ea, eb]
  | true =>
  simp only [hB] at eb
  rcases Classical.propComplete ((40 : Int) < s.length) with q1 | q1
  · simp only [go_sem, reduceIte, Nat.reduceEqDiff, Nat.reduceAdd, Nat.reduceMul, Nat.reduceSub, Nat.reduceLeDiff, Nat.reduceLT, Nat.reduceBEq, reduceCtorEq, Net.cells, e16, e41, ea, eb, q1]
  have hs : s.length ≤ maxRows := by have := of_eq_false q1; unfold maxRows; omega
  have hM := shortM_ok hS
  have hAo := short_ok hA
  have hBo := short_ok hB
  have e43 := pe43 m hM.few
  have e42 := pe42 m s q ⟨hM, hs⟩
  have e44 := pe44 m hM.few
  have e22a := pe22 a ⟨hAo.fits, hAo.sws, hAo.sts⟩
  have e22b := pe22 b ⟨hBo.fits, hBo.sws, hBo.sts⟩
  have e45 := pe45 m a b ⟨hM.few, hAo.fits, hBo.fits⟩
  have e46 := pe46 s q
  have e47 := pe47 m s q hM.few
  have e49 := pe49 m hM
  have e50 := pe50 m a b ⟨hM, hAo, hBo⟩
  have e19a := pe19 a ⟨hAo.fits, hAo.sws, hAo.sts⟩
  have e19b := pe19 b ⟨hBo.fits, hBo.sws, hBo.sts⟩
  rw [carried_same] at e42
  rw [map_same] at e49
  have hfp : fitsP a b m = (if firstI [mapR m, netR a, netR b] = 0 then fitsR a b m else firstI [mapR m, netR a, netR b]) := by
    unfold fitsP fitsR; simp only [map_same, net_same]
  rw [hfp] at e50
  simp only [Net.cells, i64] at e22a e22b e45 e19a e19b e50
  obtain ⟨s', k', b', hcr, hno⟩ := carR_shape m s q
  rw [hcr] at e42 e47
  generalize hF : fitsR a b m = F at e45 e50
  generalize hE : firstI [mapR m, netR a, netR b] = E at e50
  generalize hG : firstI [mapR m, pointI s q] = G at e42
  rcases Classical.propComplete (E = 0) with z1 | z1 <;> rcases Classical.propComplete (G = 0) with z2 | z2 <;> simp only [z1, z2, if_true, if_false, noPlace, i64] at e50 e42 <;>
    simp only [go_sem, reduceIte, Nat.reduceEqDiff, Nat.reduceAdd, Nat.reduceMul, Nat.reduceSub, Nat.reduceLeDiff, Nat.reduceLT, Nat.reduceBEq, reduceCtorEq, Net.cells, e16, e41, ea, eb, q1, e43, e42, e44, e22a, e22b, e34_3, e34_2, e45, e46, e47, e48, e49, e50, e19a, e19b, hE, hG, z1, z2, ety28, aeq28]
end Go.Sim

/-
The law: NetworkDates returns true.
-/
-- INJ Sv.row_iff svs_iff
namespace Go.Sim
open Go Go.Proofs
set_option maxRecDepth 100000
set_option maxHeartbeats 16000000
theorem shortH_all {h : List Sv} (hs : shortH h = true) : h.length ≤ 7 ∧ ∀ s ∈ h, shortN s.net = true ∧ shortM s.map = true := by
  unfold shortH at hs
  simp only [Bool.and_eq_true, Bool.or_eq_true, Bool.not_eq_true', decide_eq_false_iff_not, decide_eq_true_eq, List.all_eq_true] at hs
  refine ⟨by omega, fun s hm => ?_⟩
  have := hs.1 s hm
  unfold shortS at this
  simpa using this
theorem shortH_ok {h : List Sv} (hs : shortH h = true) : HistOk h := by
  obtain ⟨h1, h2⟩ := shortH_all hs
  exact ⟨by unfold maxRows; omega, fun s hm => short_ok (h2 s hm).1, fun s hm => shortM_ok (h2 s hm).2⟩
theorem HistOk.fit {h : List Sv} (hp : HistOk h) : HistFit h := ⟨hp.few, fun s hm => ⟨(hp.net s hm).fits, (hp.net s hm).sws, (hp.net s hm).sts⟩, fun s hm => (hp.map s hm).few⟩
theorem sinceI_shape (h : List Sv) (d : Int) (s : List Nat) (pc po o : Int) : ∃ s' m k e, sinceI h d s pc po o = [.agg [.str s', .int .i64 m, .int .i64 k], .int .i64 e] := by
  unfold sinceI addrP
  repeat' split
  all_goals exact ⟨_, _, _, _, rfl⟩
theorem num_same (a e : Int) (h : (e = 0) = False → a = 0) : numB a e e a = true := by
  unfold numB
  by_cases z : e = 0
  · simp [z]
  · simp [z, h (by simp [z])]
theorem onQ_zero (h : List Sv) (d : Int) (he : ((onQ h d).2 = 0) = False) : (onQ h d).1 = 0 := by
  rw [onQ_alt] at he ⊢
  by_cases z : rangeI d 0 100000 = 0
  · simp only [z, if_true] at he ⊢
    by_cases z2 : onK h d h.length < 0
    · simp only [z2, if_true]
    · simp only [z2, if_false] at he; simp at he
  · simp only [z, if_false]
noncomputable def PPF8 : FuncId → Option (List AV → Option AV) := addPrim 30 p30 (addPrim 69 p69 (addPrim 68 p68 (addPrim 67 p67 (addPrim 66 p66 (addPrim 65 p65 (addPrim 63 p63 (addPrim 64 p64 (addPrim 62 p62 (addPrim 16 p16 (fun _ => none))))))))))
theorem primsF8 : PrimsOk NC PPF8 := primsOk_add (primsOk_add (primsOk_add (primsOk_add (primsOk_add (primsOk_add (primsOk_add (primsOk_add (primsOk_add (primsOk_add (primsOk_none) (by kernel_rfl) (by kernel_rfl) pok16) (by kernel_rfl) (by kernel_rfl) pok62) (by kernel_rfl) (by kernel_rfl) pok64) (by kernel_rfl) (by kernel_rfl) pok63) (by kernel_rfl) (by kernel_rfl) pok65) (by kernel_rfl) (by kernel_rfl) pok66) (by kernel_rfl) (by kernel_rfl) pok67) (by kernel_rfl) (by kernel_rfl) pok68) (by kernel_rfl) (by kernel_rfl) pok69) (by kernel_rfl) (by kernel_rfl) pok30
theorem enF8_16 {rec : Rec} {lo : Nat} {args : List AV} {H : Heap} {K : AV → Heap → Prop} : VO (aenter (NC.withPrims PPF8) rec lo 16 args H) K = AO (p16 args) fun v => K v H := enter_prim (by rfl) (by kernel_rfl)
theorem enF8_62 {rec : Rec} {lo : Nat} {args : List AV} {H : Heap} {K : AV → Heap → Prop} : VO (aenter (NC.withPrims PPF8) rec lo 62 args H) K = AO (p62 args) fun v => K v H := enter_prim (by rfl) (by kernel_rfl)
theorem enF8_64 {rec : Rec} {lo : Nat} {args : List AV} {H : Heap} {K : AV → Heap → Prop} : VO (aenter (NC.withPrims PPF8) rec lo 64 args H) K = AO (p64 args) fun v => K v H := enter_prim (by rfl) (by kernel_rfl)
theorem enF8_63 {rec : Rec} {lo : Nat} {args : List AV} {H : Heap} {K : AV → Heap → Prop} : VO (aenter (NC.withPrims PPF8) rec lo 63 args H) K = AO (p63 args) fun v => K v H := enter_prim (by rfl) (by kernel_rfl)
theorem enF8_65 {rec : Rec} {lo : Nat} {args : List AV} {H : Heap} {K : AV → Heap → Prop} : VO (aenter (NC.withPrims PPF8) rec lo 65 args H) K = AO (p65 args) fun v => K v H := enter_prim (by rfl) (by kernel_rfl)
theorem enF8_66 {rec : Rec} {lo : Nat} {args : List AV} {H : Heap} {K : AV → Heap → Prop} : VO (aenter (NC.withPrims PPF8) rec lo 66 args H) K = AO (p66 args) fun v => K v H := enter_prim (by rfl) (by kernel_rfl)
theorem enF8_67 {rec : Rec} {lo : Nat} {args : List AV} {H : Heap} {K : AV → Heap → Prop} : VO (aenter (NC.withPrims PPF8) rec lo 67 args H) K = AO (p67 args) fun v => K v H := enter_prim (by rfl) (by kernel_rfl)
theorem enF8_68 {rec : Rec} {lo : Nat} {args : List AV} {H : Heap} {K : AV → Heap → Prop} : VO (aenter (NC.withPrims PPF8) rec lo 68 args H) K = AO (p68 args) fun v => K v H := enter_prim (by rfl) (by kernel_rfl)
theorem enF8_69 {rec : Rec} {lo : Nat} {args : List AV} {H : Heap} {K : AV → Heap → Prop} : VO (aenter (NC.withPrims PPF8) rec lo 69 args H) K = AO (p69 args) fun v => K v H := enter_prim (by rfl) (by kernel_rfl)
theorem enF8_30 {rec : Rec} {lo : Nat} {args : List AV} {H : Heap} {K : AV → Heap → Prop} : VO (aenter (NC.withPrims PPF8) rec lo 30 args H) K = AO (p30 args) fun v => K v H := enter_prim (by rfl) (by kernel_rfl)
attribute [go_sem ↓] enF8_16 enF8_62 enF8_64 enF8_63 enF8_65 enF8_66 enF8_67 enF8_68 enF8_69 enF8_30
theorem c8 (h : List Sv) (d o : Int) (s : List Nat) (pc po : Int) (hl : HistLim h) : ∀ lo H, CallOk NC lo 8 [.ps .unk (h.map Sv.row), .agg [i64 d, i64 o], .agg [.str s, i64 pc, i64 po]] H (.bool true) H := by
  refine contract saneNC primsF8 (fn := Tryz.f8) (by kernel_rfl) Tryz.func8 rfl rfl (by rfl) (by rfl) ?_
  have e62 := pe62 h hl
  cases hS : shortH h with
  | false =>
    simp only [hS] at e62
    simp only [go_sem, reduceIte, Nat.reduceEqDiff, Nat.reduceAdd, Nat.reduceMul, Nat.reduceSub, Nat.reduceLeDiff, Nat.reduceLT, Nat.reduceBEq, reduceCtorEq, e16, e62]
  | true =>
  simp only [hS] at e62
  rcases Classical.propComplete ((40 : Int) < s.length) with q1 | q1
  · simp only [go_sem, reduceIte, Nat.reduceEqDiff, Nat.reduceAdd, Nat.reduceMul, Nat.reduceSub, Nat.reduceLeDiff, Nat.reduceLT, Nat.reduceBEq, reduceCtorEq, e16, e62, q1]
  have hok := shortH_ok hS
  have e64 := pe64 h hok.fit
  have e63 := pe63 h d hok
  have e65 : p65 [.ps .unk (h.map Sv.row), .int .i64 d, .agg [.str s, .int .i64 pc, .int .i64 po], .int .i64 o] = some (.tup (sinceP h d s pc po o)) := pe65 h d s pc po o hok
  have e66 := pe66 h hok
  have e67 := pe67 h d hok.few
  have e69 := pe69 h hok
  unfold onFP at e63
  unfold sinceP at e65
  simp only [hist_same] at e63 e65 e69
  have hz68 : histR h = 0 → p68 [.ps .unk (h.map Sv.row), .int .i64 d, .agg [.str s, .int .i64 pc, .int .i64 po], .int .i64 o] = some (.tup (sinceI h d s pc po o)) := fun hz => pe68 h d s pc po o ⟨hok, hz⟩
  generalize histR h = E at e63 e65 e66 e69 hz68
  obtain ⟨s', m, k, e, hsh⟩ := sinceI_shape h d s pc po o
  rw [hsh] at e65 hz68
  have hzero := onQ_zero h d
  generalize onQ h d = Q at e63 e67 hzero
  obtain ⟨qa, qe⟩ := Q
  simp only at hzero e63 e67
  have hnum := num_same qa qe hzero
  rcases Classical.propComplete (E = 0) with z | z
  · have e68 := hz68 (of_eq_true z)
    simp only [z, if_true] at e63 e65
    have hE := of_eq_true z
    subst hE
    simp only [go_sem, reduceIte, Nat.reduceEqDiff, Nat.reduceAdd, Nat.reduceMul, Nat.reduceSub, Nat.reduceLeDiff, Nat.reduceLT, Nat.reduceBEq, reduceCtorEq, e16, e62, q1, e64, e63, e65, e66, e67, e68, e69, e30, hnum, ety30, aeq30]
  · simp only [z, if_false, noAddr, i64] at e63 e65
    have hnum0 := num_bad z
    simp only [go_sem, reduceIte, Nat.reduceEqDiff, Nat.reduceAdd, Nat.reduceMul, Nat.reduceSub, Nat.reduceLeDiff, Nat.reduceLT, Nat.reduceBEq, reduceCtorEq, e16, e62, q1, e64, e63, e65, e66, e69, e30, hnum0, z, ety30, aeq30]
end Go.Sim
