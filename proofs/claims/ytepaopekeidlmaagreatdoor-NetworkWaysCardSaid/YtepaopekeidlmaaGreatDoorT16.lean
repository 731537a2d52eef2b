/-
The parts NetX6, NetV15, NetX7, NetX8 of one proof, joined: each begins with a remark that says what it shows.
-/
import Derived.Test.YtepaopekeidlmaaGreatDoorT15
set_option linter.unusedSimpArgs false
set_option linter.unusedVariables false
open Nat (reduceEqDiff reduceAdd reduceMul reduceSub reduceLeDiff reduceLT)

/-
Ways: the least way, by the reference.
-/
-- INJ Leg.row_iff lgs_iff pts_iff ptr_iff
namespace Go.Sim
open Go Go.Proofs
set_option maxRecDepth 100000
set_option maxHeartbeats 16000000
variable {P : FuncId → Option (List AV → Option AV)}
theorem op_makeSlice {C : Cfg} {rec : Rec} {fid lo : Nat} {T : TT AV} {H : Heap} {K : AV → Heap → Prop} {d : Option Tmp} {t : TypeId} {p : String} {af : Array Edge} {gd : Option (Nat × Bool)} (t' : TypeId) (l c : Operand) :
    VO (aop C rec fid lo ⟨d, .makeSlice t' l c, t, p, af, gd⟩ T H) K = AO (evalO C T l) fun x => AO (evalO C T c) fun y => VO (amakeSlice C.P H t' x y) K := by
  simp only [aop]
  cases evalO C T l with
  | none => rfl
  | some x => cases evalO C T c <;> rfl
theorem mk254 (H : Heap) {N : Nat} (h : N ≤ maxRows) : amakeSlice NC.P H 254 (.int .i64 (N : Nat)) (.int .i64 (N : Nat)) = some (.rs H.n 0 N 1 (some N), H.push (.cells (blF (List.replicate N false)) 4)) := by
  have e1 : elemOf NC.P 254 = some 4 := by kernel_rfl
  have e2 : szOf NC.P 4 = some 1 := by kernel_rfl
  have e3 : bytesOf NC.P 4 = some 1 := by kernel_rfl
  have e4 : zeroOf NC.P 4 = some (.bool false) := by kernel_rfl
  have hb : 1 * N ≤ 140737488355328 := by unfold maxRows at h; omega
  have hf : (List.replicate N (AV.bool false).cells).flatten = blF (List.replicate N false) := by
    unfold blF
    rw [List.map_replicate]; rfl
  unfold amakeSlice
  rw [e1]
  simp only [e2, e3, e4]
  have hb' : N ≤ 140737488355328 := by omega
  rw [hf, if_pos (by simp [hb', h, AV.cells])]
def wayRv (n : Net) (o : Option (List Leg)) : List AV := match o with
  | none => [.ps .unk [], i64 0, i64 18]
  | some w => [.ps .unk (w.map Leg.row), i64 (sumR w 0), i64 0]
theorem wayRv_pure (n : Net) (o : Option (List Leg)) : (AV.tup (wayRv n o)).pure = true := by cases o <;> rfl
theorem lks {n : Net} (h : netP n = 0) : ∀ s ∈ n.sws, s.last = true → ∃ i, findL n.lines s.other = some i := fun s hs _ => by
  obtain ⟨i, l, h1, _⟩ := lnB_some (sw_zero h s hs).2.2.1
  exact ⟨i, h1⟩
theorem bestO_in {n : Net} (h : netP n = 0) {a b : Pt} (hRa : inR a.2) (hRb : inR b.2) {w : List Leg} (hw : bestO n a b = some w) : ∃ σ, okS (endE n) n.sws.length a σ b ∧ w = legsOf (endE n) a σ b ∧ (∀ l ∈ w, inR l.fr ∧ inR l.to) := by
  unfold bestO at hw
  split at hw
  · rename_i hex
    cases hw
    obtain ⟨σ, s1, s2⟩ := hex.choose_spec.way
    exact ⟨σ, s1, s2, by rw [s2]; exact legsOf_in (fun i k hi => (ends_in h i k hi).2) hRa hRb s1⟩
  · cases hw
theorem bestO_best {n : Net} {a b : Pt} {w : List Leg} (hw : bestO n a b = some w) : Best (endE n) n.sws.length (findI n.lines) a b w := by
  unfold bestO at hw
  split at hw
  · rename_i hex
    cases hw
    exact hex.choose_spec
  · cases hw
theorem bestO_len {n : Net} {a b : Pt} {w : List Leg} (hw : bestO n a b = some w) : w.length ≤ n.sws.length + 1 := by
  have hb := bestO_best hw
  obtain ⟨σ, s1, rfl⟩ := hb.way
  obtain ⟨τ, t1, t2, t3⟩ := cut_all (endE n) n.sws.length σ.length (Nat.le_refl _) s1
  have hl := simple_few t1 t2
  rw [legsOf_length]
  rcases t3 with rfl | ⟨t3, t4⟩
  · omega
  · have hq := wLt_short (findI n.lines) (a := legsOf (endE n) a τ b) (b := legsOf (endE n) a σ b) t4 (by rw [legsOf_length, legsOf_length]; omega)
    exact (wLe_no (findI n.lines) (hb.least τ t1) hq).elim
def FineN (n : Net) : Prop := netP n = 0 ∧ n.fits ∧ n.sws.length ≤ 4
noncomputable def PPF75 : FuncId → Option (List AV → Option AV) := addPrim 207 p207 (addPrim 148 p148 (addPrim 77 p77 (fun _ => none)))
theorem primsF75 : PrimsOk NC PPF75 := primsOk_add (primsOk_add (primsOk_add (primsOk_none) (by kernel_rfl) (by kernel_rfl) pok77) (by kernel_rfl) (by kernel_rfl) pok148) (by kernel_rfl) (by kernel_rfl) pok207
theorem enF75_77 : En PPF75 77 p77 := enter_prim (by rfl) (by kernel_rfl)
theorem enF75_148 : En PPF75 148 p148 := enter_prim (by rfl) (by kernel_rfl)
theorem enF75_207 : En PPF75 207 p207 := enter_prim (by rfl) (by kernel_rfl)
attribute [go_sem ↓] enF75_77 enF75_148 enF75_207
theorem c75 (n : Net) (a b : Pt) (hp : FineN n ∧ lnB n.lines a.1 = true ∧ inR a.2 ∧ inR b.2) : ∀ lo H, CallOk NC lo 75 [.agg n.cells, .agg (ptRow a), .agg (ptRow b)] H (.tup (wayRv n (bestO n a b))) H := by
  refine contract saneNC primsF75 (fn := Tryz.f75) (by kernel_rfl) Tryz.func75 rfl rfl (by rfl) (wayRv_pure n _) ?_
  obtain ⟨⟨hz, hfit, h4⟩, hLa, hRa, hRb⟩ := hp
  have hN : n.sws.length ≤ maxRows := by unfold maxRows; omega
  have hbest := waysR_best hz hLa hRa hRb
  have hml := waysL_len (endE n) n.sws.length b (n.sws.length + 1) [] a (List.replicate n.sws.length false)
  have hfew := waysL_few (E := endE n) (N := n.sws.length) (b := b) h4 (n.sws.length + 1) [] a (List.replicate n.sws.length false)
  have hpw : 9 ^ (n.sws.length + 1) ≤ 59049 := Nat.le_trans (Nat.pow_le_pow_right (by decide) (Nat.succ_le_succ h4)) (by decide)
  have hmk := fun H => mk254 H hN
  have e147 : ∀ {lo' : Nat} {H' : Heap} {K : AV → Heap → Prop}, 3 < H'.n → H'.get 3 = .cells (blF (List.replicate n.sws.length false)) 4 → VO (aenter (NC.withPrims PPF75) (R (NC.withPrims PPF75)) lo' 147 [.agg n.cells, .ps .unk [], .agg [.str a.1, .int .i64 a.2], .agg [.str b.1, .int .i64 b.2], .rs 3 0 n.sws.length 1 (some n.sws.length)] H') K = K (.ps .unk ((waysL (endE n) n.sws.length b (n.sws.length + 1) [] a (List.replicate n.sws.length false)).map wayRow)) H' := by
    intro lo' H' K hx1 hx2
    obtain ⟨v, H3, q1, q2⟩ := r147 (P := PPF75) rfl rfl n hfit (lks hz) h4 b (n.sws.length + 1) (by omega) [] a (List.replicate n.sws.length false) (some n.sws.length) H'.n 3 H' (by simp) (by simp; omega) (by rw [List.count_replicate_self]; omega) (Nat.le_refl _) hx1 (.inl hx2)
    rw [List.length_replicate, List.map_nil] at q1
    rw [en147 rfl, q1, AO_some, ofVal_v, q2]
    simp only [eq_iff_iff, and_iff_right_iff_imp]
    intro _; rfl
  generalize waysL (endE n) n.sws.length b (n.sws.length + 1) [] a (List.replicate n.sws.length false) = A at hbest hml hfew e147
  rw [← hbest]
  clear hbest
  have hml' : ∀ x ∈ A, x.length ≤ 100 := fun x hx => by have := hml x hx; simp at this; omega
  have hAl : A.length ≤ maxRows := by unfold maxRows; omega
  obtain ⟨a1, a2⟩ := a
  obtain ⟨b1, b2⟩ := b
  simp only [Net.cells] at e147
  cases A with
  | nil =>
    simp only [List.map_nil] at e147
    simp only [go_sem, reduceIte, reduceEqDiff, reduceAdd, reduceMul, reduceSub, reduceLeDiff, reduceLT, Nat.reduceBEq, reduceCtorEq, ↓op_makeSlice, under_rsx, Net.cells, ptRow, List.length_map, hmk, e147]
    rfl
  | cons x r =>
    have hx := hml' x (by simp)
    simp only [List.map_cons] at e147
    have hne : (((r.length + 1 : Nat) : Int) = 0) = False := by simp only [eq_iff_iff, iff_false]; omega
    simp only [go_sem, reduceIte, reduceEqDiff, reduceAdd, reduceMul, reduceSub, reduceLeDiff, reduceLT, Nat.reduceBEq, reduceCtorEq, ↓op_makeSlice, under_rsx, Net.cells, ptRow, List.length_map, hmk, e147, hne, wayRow, show (0 < r.length + 1) = True from eq_true (Nat.succ_pos _)]
    refine W_for (fun k T H M => M = [] ∧ getT T 3 = .ptr 0 0 ∧ getT T 9 = .ps .unk ((x :: r).map wayRow) ∧ getT T 11 = i64 ((k + 1 : Nat) : Int) ∧ H.get 0 = .cells n.cells 26 ∧ ∃ v, v.length ≤ 100 ∧ getT T 10 = .ps .unk (v.map Leg.row) ∧ (x :: r).foldl (takeR n) none = (r.drop k).foldl (takeR n) (some v)) r.length ?_ ?_ ?_
    · simp only [go_sem, reduceIte, reduceEqDiff, reduceAdd, reduceMul, reduceSub, reduceLeDiff, reduceLT, Nat.reduceBEq, reduceCtorEq, Net.cells]
      exact ⟨rfl, rfl, x, hx, rfl, rfl⟩
    · rintro k T H M hk ⟨rfl, g3, g9, g11, h0, v, hvl, g10, hfo⟩
      obtain ⟨y, hy⟩ : ∃ p, r[k]? = some p := ⟨r[k], by simp⟩
      have hy1 : (x :: r)[k + 1]? = some y := by simpa using hy
      have hr := map_at (f := wayRow) hy
      have hyl := hml' y (List.mem_of_getElem? hy1)
      have hw := wrap_succ (k := k + 1) (n := (x :: r).length) (by simp; omega) hAl
      have hk1 : (k + 1 < r.length + 1) = True := by simp only [eq_iff_iff, iff_true]; omega
      rw [drop_at hy] at hfo
      have e148 := pe148 n y v ⟨hfit.1, by unfold maxRows; omega, by unfold maxRows; omega⟩
      have hfo' : (x :: r).foldl (takeR n) none = (r.drop (k + 1)).foldl (takeR n) (if lessR n y v = true then some y else some v) := hfo
      have h0' := h0
      simp only [Net.cells, wayRow] at e148 h0' hr
      cases hB : lessR n y v with
      | true =>
        rw [hB] at e148 hfo'
        simp only [go_sem, reduceIte, reduceEqDiff, reduceAdd, reduceMul, reduceSub, reduceLeDiff, reduceLT, Nat.reduceBEq, reduceCtorEq, g3, g9, g10, g11, h0', List.length_map, List.length_cons, Int.ofNat_lt, hk1, hr, hw, e148]
        exact ⟨rfl, _, hyl, rfl, hfo'⟩
      | false =>
        rw [hB] at e148 hfo'
        simp only [go_sem, reduceIte, reduceEqDiff, reduceAdd, reduceMul, reduceSub, reduceLeDiff, reduceLT, Nat.reduceBEq, reduceCtorEq, g3, g9, g10, g11, h0', List.length_map, List.length_cons, Int.ofNat_lt, hk1, hr, hw, e148]
        exact ⟨rfl, _, hvl, rfl, hfo'⟩
    · rintro T H M ⟨rfl, g3, g9, g11, h0, v, hvl, g10, hfo⟩
      have e77 := pe77 v (by unfold maxRows; omega)
      rw [List.drop_length] at hfo
      have hfo' : (x :: r).foldl (takeR n) none = some v := hfo
      try simp only [i64] at e77
      rw [hfo']
      simp only [go_sem, reduceIte, reduceEqDiff, reduceAdd, reduceMul, reduceSub, reduceLeDiff, reduceLT, Nat.reduceBEq, reduceCtorEq, g3, g9, g10, g11, List.length_map, List.length_cons, Int.ofNat_lt, Nat.lt_irrefl, e77, wayRv]
noncomputable def p75 : List AV → Option AV := primOf (α := (Net) × (Pt) × (Pt)) (fun x => [.agg x.1.cells, .agg (ptRow x.2.1), .agg (ptRow x.2.2)]) (fun x => FineN x.1 ∧ lnB x.1.lines x.2.1.1 = true ∧ inR x.2.1.2 ∧ inR x.2.2.2) (fun x => .tup (wayRv x.1 (bestO x.1 x.2.1 x.2.2)))
theorem pok75 : ∀ args v, p75 args = some v → ∀ lo H, CallOk NC lo 75 args H v H := by
  intro args v h
  obtain ⟨x, rfl, hp, rfl⟩ := primOf_inv h
  exact c75 x.1 x.2.1 x.2.2 hp
theorem pe75 (n : Net) (a b : Pt) (hp : FineN n ∧ lnB n.lines a.1 = true ∧ inR a.2 ∧ inR b.2) : p75 [.agg n.cells, .agg (ptRow a), .agg (ptRow b)] = some (.tup (wayRv n (bestO n a b))) := primOf_enc (α := (Net) × (Pt) × (Pt)) (enc := fun x => [.agg x.1.cells, .agg (ptRow x.2.1), .agg (ptRow x.2.2)]) (pre := fun x => FineN x.1 ∧ lnB x.1.lines x.2.1.1 = true ∧ inR x.2.1.2 ∧ inR x.2.2.2) (spec := fun x => .tup (wayRv x.1 (bestO x.1 x.2.1 x.2.2))) (by intro x y h; (simp only [List.cons.injEq, AV.agg.injEq, AV.str.injEq, AV.int.injEq, AV.ps.injEq, AV.bool.injEq, Net.cells_iff, Ln.row_iff, Pc.row_iff, Mv.row_iff, lns_iff, pcs_iff, mvs_iff, Leg.row_iff, lgs_iff, pts_iff, ptr_iff, true_and, and_true] at h; first | simpa only [Prod.ext_iff] using h | simpa only [Prod.ext_iff, and_assoc] using h)) (n, a, b) hp
end Go.Sim

/-
Ways: a way that is given, by the program.
-/
-- INJ Leg.row_iff lgs_iff pts_iff ptr_iff
namespace Go.Sim
open Go Go.Proofs
set_option maxRecDepth 100000
set_option maxHeartbeats 64000000
variable {P : FuncId → Option (List AV → Option AV)}
theorem en206 {P : FuncId → Option (List AV → Option AV)} (hP : P 206 = none) {lo : Nat} {args : List AV} {H : Heap} {K : AV → Heap → Prop} : VO (aenter (NC.withPrims P) (R (NC.withPrims P)) lo 206 args H) K = AO (R (NC.withPrims P) (.call H.n 206 args H)) fun o => o.val.strip.pure = true ∧ K o.val.strip H := by
  refine enter_pure rfl ?_ (by kernel_rfl) (by kernel_rfl) (by kernel_rfl)
  show (match NC.prim 206 with | some p => some p | none => P 206) = none
  rw [hP]; kernel_rfl
theorem en247 {P : FuncId → Option (List AV → Option AV)} (hP : P 247 = none) {lo : Nat} {args : List AV} {H : Heap} {K : AV → Heap → Prop} : VO (aenter (NC.withPrims P) (R (NC.withPrims P)) lo 247 args H) K = AO (R (NC.withPrims P) (.call H.n 247 args H)) fun o => o.val.strip.pure = true ∧ K o.val.strip H := by
  refine enter_pure rfl ?_ (by kernel_rfl) (by kernel_rfl) (by kernel_rfl)
  show (match NC.prim 247 with | some p => some p | none => P 247) = none
  rw [hP]; kernel_rfl
theorem en205 {P : FuncId → Option (List AV → Option AV)} (hP : P 205 = none) {lo : Nat} {args : List AV} {H : Heap} {K : AV → Heap → Prop} : VO (aenter (NC.withPrims P) (R (NC.withPrims P)) lo 205 args H) K = AO (R (NC.withPrims P) (.call H.n 205 args H)) fun o => o.val.strip.pure = true ∧ K o.val.strip H := by
  refine enter_pure rfl ?_ (by kernel_rfl) (by kernel_rfl) (by kernel_rfl)
  show (match NC.prim 205 with | some p => some p | none => P 205) = none
  rw [hP]; kernel_rfl
theorem en143 {P : FuncId → Option (List AV → Option AV)} (hP : P 143 = none) {lo : Nat} {args : List AV} {H : Heap} {K : AV → Heap → Prop} : VO (aenter (NC.withPrims P) (R (NC.withPrims P)) lo 143 args H) K = AO (R (NC.withPrims P) (.call H.n 143 args H)) fun o => o.val.strip.pure = true ∧ K o.val.strip H := by
  refine enter_pure rfl ?_ (by kernel_rfl) (by kernel_rfl) (by kernel_rfl)
  show (match NC.prim 143 with | some p => some p | none => P 143) = none
  rw [hP]; kernel_rfl
theorem en144 {P : FuncId → Option (List AV → Option AV)} (hP : P 144 = none) {lo : Nat} {args : List AV} {H : Heap} {K : AV → Heap → Prop} : VO (aenter (NC.withPrims P) (R (NC.withPrims P)) lo 144 args H) K = AO (R (NC.withPrims P) (.call H.n 144 args H)) fun o => o.val.strip.pure = true ∧ K o.val.strip H := by
  refine enter_pure rfl ?_ (by kernel_rfl) (by kernel_rfl) (by kernel_rfl)
  show (match NC.prim 144 with | some p => some p | none => P 144) = none
  rw [hP]; kernel_rfl
def ptB (p q : Pt) : Bool := beqL p.1 q.1 && eqI p.2 q.2
theorem ptB_iff (p q : Pt) : ptB p q = true ↔ p = q := by
  obtain ⟨a, i⟩ := p
  obtain ⟨b, j⟩ := q
  unfold ptB
  simp only [Bool.and_eq_true, beqL_iff, eqI_iff, decide_eq_true_eq, Prod.mk.injEq]
def joinW (n : Net) (a b : Pt) (s : Sw) : Bool := (ptB (s.line, s.metre) a && ptB (s.other, endM n s) b) || (ptB (s.line, s.metre) b && ptB (s.other, endM n s) a)
def joinN (n : Net) (a b : Pt) : Bool := n.sws.any (joinW n a b)
theorem aeq259' (a a' c c' : List Nat) (b b' d d' : Int) : aeqT NC.P 100 259 (.agg [.str a, .int .i64 b, .str c, .int .i64 d]) (.agg [.str a', .int .i64 b', .str c', .int .i64 d']) =
    (match (match some (beqL a a') with
      | some true => (match some (eqI b b') with
        | some true => some true
        | some false => some false
        | none => none)
      | some false => some false
      | none => none) with
    | some true => (match (match some (beqL c c') with
      | some true => (match some (eqI d d') with
        | some true => some true
        | some false => some false
        | none => none)
      | some false => some false
      | none => none) with
      | some true => some true
      | some false => some false
      | none => none)
    | some false => some false
    | none => none) := by kernel_rfl
theorem aeq259 (a a' c c' : List Nat) (b b' d d' : Int) : aeqT NC.P 100 259 (.agg [.str a, .int .i64 b, .str c, .int .i64 d]) (.agg [.str a', .int .i64 b', .str c', .int .i64 d']) = some (ptB (a, b) (a', b') && ptB (c, d) (c', d')) := by
  unfold ptB
  rw [aeq259']
  cases beqL a a' <;> cases eqI b b' <;> cases beqL c c' <;> cases eqI d d' <;> rfl
theorem ety259 : eqType NC.P 100 259 = true := by kernel_rfl
theorem en151' (h : P 151 = some p151) {lo : Nat} {rec : Rec} {args : List AV} {H : Heap} {K : AV → Heap → Prop} : VO (aenter (NC.withPrims P) rec lo 151 args H) K = AO (p151 args) fun v => K v H := enter_prim (by rfl) (known h (by kernel_rfl))
theorem r206 (h151 : P 151 = some p151) (n : Net) (hn : n.Ok) (a b : Pt) (s : Sw) (cn ca cb lo : Nat) (H : Heap) (hlo : lo ≤ H.n) (h1 : cn < H.n) (h2 : ca < H.n) (h3 : cb < H.n) (g1 : H.get cn = .cells n.cells 40) (g2 : H.get ca = .cells (ptRow a) 45) (g3 : H.get cb = .cells (ptRow b) 45) :
    ∃ H', R (NC.withPrims P) (.call lo 206 [.agg s.row, .ptr cn 0, .ptr ca 0, .ptr cb 0] H) = some (.ofVal (.bool (joinW n a b s)) H') := by
  have e151 := pe151 n s hn
  obtain ⟨v, H', q1, q2⟩ := R_of_body (C := NC.withPrims P) (f := 206) (lo := lo) (args := [.agg s.row, .ptr cn 0, .ptr ca 0, .ptr cb 0]) (H := H) (fn := Tryz.f206) (Q := fun v H' => v = .bool (joinW n a b s)) (by kernel_rfl) Tryz.func206 rfl rfl (by
    have y1 : (cn = H.n) = False ∧ (ca = H.n) = False ∧ (cb = H.n) = False ∧ (cn = H.n + 1) = False ∧ (ca = H.n + 1) = False ∧ (cb = H.n + 1) = False := by simp only [eq_iff_iff, iff_false]; omega
    have hlo1 : (lo ≤ H.n + 1) = True := by simp only [eq_iff_iff, iff_true]; omega
    have hJ : joinW n a b s = ((ptB (s.line, s.metre) a && ptB (s.other, endM n s) b) || (ptB (s.line, s.metre) b && ptB (s.other, endM n s) a)) := rfl
    rw [hJ]
    generalize endM n s = EM at e151 ⊢
    obtain ⟨a1, a2⟩ := a
    obtain ⟨b1, b2⟩ := b
    obtain ⟨w1, w2, w3, w4, w5⟩ := s
    simp only [ptRow, Net.cells, Sw.row, i64] at e151 g1 g2 g3 ⊢
    have k1 := aeq259 w2 a1 w4 b1 w3 a2 EM b2
    have k2 := aeq259 w2 b1 w4 a1 w3 b2 EM a2
    generalize (ptB (w2, w3) (a1, a2) && ptB (w4, EM) (b1, b2)) = B1 at k1 ⊢
    generalize (ptB (w2, w3) (b1, b2) && ptB (w4, EM) (a1, a2)) = B2 at k2 ⊢
    cases B1 <;> cases B2 <;> simp only [go_sem, reduceIte, reduceEqDiff, reduceAdd, reduceMul, reduceSub, reduceLeDiff, reduceLT, Nat.reduceBEq, reduceCtorEq, g1, g2, g3, y1, hlo1, en151' h151, e151, ab259, ety259, k1, k2])
  exact ⟨H', by rw [q1, q2]⟩
theorem any_none {α : Type} {f : α → Bool} {l : List α} : (∀ (j : Nat) x, j < l.length → l[j]? = some x → f x = false) → l.any f = false := by
  intro h
  rw [List.any_eq_false]
  intro x hx
  obtain ⟨j, hj⟩ := List.mem_iff_getElem?.1 hx
  rw [h j x (List.getElem?_eq_some_iff.1 hj).1 hj]; simp
theorem r247 (h206 : P 206 = none) (l : List Sw) (f : Sw → Bool) (caps : List AV) (hcs : caps.map AV.strip = caps) (lo : Nat) (H : Heap) (hl : l.length ≤ maxRows)
    (hcall : ∀ lo s H', Old H.n H H' → lo ≤ H'.n → ∃ H2, R (NC.withPrims P) (.call lo 206 (.agg s.row :: caps) H') = some (.ofVal (.bool (f s)) H2)) :
    ∃ (k : Int) (H' : Heap), R (NC.withPrims P) (.call lo 247 [.ps .unk (l.map Sw.row), .fn 206 [] caps] H) = some (.ofVal (i64 k) H') ∧ ((k < 0) = (l.any f = false)) := by
  suffices hh : ∃ v H', R (NC.withPrims P) (.call lo 247 [.ps .unk (l.map Sw.row), .fn 206 [] caps] H) = some (.ofVal v H') ∧ ∃ k : Int, v = i64 k ∧ ((k < 0) = (l.any f = false)) by
    obtain ⟨v, H', h1, k, rfl, h2⟩ := hh; exact ⟨k, H', h1, h2⟩
  refine R_of_body (C := NC.withPrims P) (f := 247) (lo := lo) (args := [.ps .unk (l.map Sw.row), .fn 206 [] caps]) (H := H) (fn := Tryz.f247) (Q := fun v H' => ∃ k : Int, v = i64 k ∧ ((k < 0) = (l.any f = false))) (by kernel_rfl) Tryz.func247 rfl rfl ?_
  simp only [go_sem, reduceIte, reduceEqDiff, reduceAdd, reduceMul, reduceSub, reduceLeDiff, reduceLT, Nat.reduceBEq, reduceCtorEq]
  refine W_for (fun k T H' M => M = [] ∧ getT T 0 = .ps .unk (l.map Sw.row) ∧ getT T 1 = .fn 206 [] caps ∧ getT T 7 = i64 (l.length : Nat) ∧ getT T 8 = i64 k ∧ H' = H ∧ ∀ (j : Nat) x, j < k → l[j]? = some x → f x = false) l.length ?_ ?_ ?_
  · simp only [go_sem, reduceIte, reduceEqDiff, reduceAdd, reduceMul, reduceSub, reduceLeDiff, reduceLT, Nat.reduceBEq, reduceCtorEq, List.length_map]; exact fun j l hj => absurd hj (by omega)
  · rintro k T H' M hk ⟨rfl, g0, g1, g7, g8, rfl, hf⟩
    obtain ⟨x, hp⟩ : ∃ p, l[k]? = some p := ⟨l[k], by simp⟩
    have hr := map_at (f := Sw.row) hp
    have hw := wrap_succ hk hl
    have hcl := ex_eq (hcall H'.n x H' (Old.refl H') (Nat.le_refl _))
    have hkn : ((k : Int) < 0) = False := by simp only [eq_iff_iff, iff_false]; omega
    obtain ⟨x1, x2, x3, x4, x5⟩ := x
    simp only [Sw.row] at hr hcl
    cases hb : f ⟨x1, x2, x3, x4, x5⟩ with
    | true =>
      simp only [hb] at hcl
      simp only [go_sem, reduceIte, reduceEqDiff, reduceAdd, reduceMul, reduceSub, reduceLeDiff, reduceLT, Nat.reduceBEq, reduceCtorEq, g0, g1, g7, g8, List.length_map, hk, hr, hw, en206 h206, hcs, hcl, ofVal_v, ofVal_H]
      have ha : l.any f = true := List.any_eq_true.2 ⟨_, List.mem_of_getElem? hp, hb⟩
      exact ⟨k, rfl, by simp [ha]⟩
    | false =>
      simp only [hb] at hcl
      simp only [go_sem, reduceIte, reduceEqDiff, reduceAdd, reduceMul, reduceSub, reduceLeDiff, reduceLT, Nat.reduceBEq, reduceCtorEq, g0, g1, g7, g8, List.length_map, hk, hr, hw, en206 h206, hcs, hcl, ofVal_v, ofVal_H]
      refine fun j l' hj hl' => ?_
      by_cases e : j = k
      · subst e; rw [hp] at hl'; cases hl'; exact hb
      · exact hf j l' (by omega) hl'
  · rintro T H' M ⟨rfl, g0, g1, g7, g8, rfl, hf⟩
    simp only [go_sem, reduceIte, reduceEqDiff, reduceAdd, reduceMul, reduceSub, reduceLeDiff, reduceLT, Nat.reduceBEq, reduceCtorEq, g0, g1, g7, g8, List.length_map, Nat.lt_irrefl]
    exact ⟨-1, rfl, by simp [any_none hf]⟩
theorem r205 (h247 : P 247 = none) (h206 : P 206 = none) (l : List Sw) (f : Sw → Bool) (caps : List AV) (hcs : caps.map AV.strip = caps) (lo : Nat) (H : Heap) (hl : l.length ≤ maxRows)
    (hcall : ∀ lo s H', Old H.n H H' → lo ≤ H'.n → ∃ H2, R (NC.withPrims P) (.call lo 206 (.agg s.row :: caps) H') = some (.ofVal (.bool (f s)) H2)) :
    ∃ H', R (NC.withPrims P) (.call lo 205 [.ps .unk (l.map Sw.row), .fn 206 [] caps] H) = some (.ofVal (.bool (l.any f)) H') := by
  obtain ⟨v, H', q1, q2⟩ := R_of_body (C := NC.withPrims P) (f := 205) (lo := lo) (args := [.ps .unk (l.map Sw.row), .fn 206 [] caps]) (H := H) (fn := Tryz.f205) (Q := fun v H' => v = .bool (l.any f)) (by kernel_rfl) Tryz.func205 rfl rfl (by
    obtain ⟨k, H', hr, hk⟩ := r247 (P := P) h206 l f caps hcs H.n H hl hcall
    cases hb : l.any f with
    | true =>
      have hk' : (k < 0) = False := by rw [hk, hb]; simp
      simp only [go_sem, reduceIte, reduceEqDiff, reduceAdd, reduceMul, reduceSub, reduceLeDiff, reduceLT, Nat.reduceBEq, reduceCtorEq, en247 h247, hcs, hr, hk']
    | false =>
      have hk' : (k < 0) = True := by rw [hk, hb]; simp
      simp only [go_sem, reduceIte, reduceEqDiff, reduceAdd, reduceMul, reduceSub, reduceLeDiff, reduceLT, Nat.reduceBEq, reduceCtorEq, en247 h247, hcs, hr, hk'])
  exact ⟨H', by rw [q1, q2]⟩
noncomputable def PPF145 : FuncId → Option (List AV → Option AV) := addPrim 151 p151 (fun _ => none)
theorem primsF145 : PrimsOk NC PPF145 := primsOk_add (primsOk_none) (by kernel_rfl) (by kernel_rfl) pok151
theorem enF145_151 : En PPF145 151 p151 := enter_prim (by rfl) (by kernel_rfl)
attribute [go_sem ↓] enF145_151
theorem c145 (n : Net) (a b : Pt) (hp : n.Ok) : ∀ lo H, CallOk NC lo 145 [.agg n.cells, .agg (ptRow a), .agg (ptRow b)] H (.bool (joinN n a b)) H := by
  refine contract saneNC primsF145 (fn := Tryz.f145) (by kernel_rfl) Tryz.func145 rfl rfl (by rfl) (by first | rfl | (split <;> first | rfl | (split <;> rfl))) ?_
  obtain ⟨H', hr⟩ := r205 (P := PPF145) rfl rfl n.sws (joinW n a b) [.ptr 0 0, .ptr 1 0, .ptr 2 0] rfl 3 (((Heap.empty.push (.cells n.cells 40)).push (.cells (ptRow a) 45)).push (.cells (ptRow b) 45)) hp.sws (fun lo s H' hO hlo => r206 (P := PPF145) rfl n hp a b s 0 1 2 lo H' hlo (by have := hO.1; simp [empty_n] at this; omega) (by have := hO.1; simp [empty_n] at this; omega) (by have := hO.1; simp [empty_n] at this; omega) (by rw [hO.2 0 (by simp [empty_n])]; simp [Heap.get_push, empty_n]) (by rw [hO.2 1 (by simp [empty_n])]; simp [Heap.get_push, empty_n]) (by rw [hO.2 2 (by simp [empty_n])]; simp [Heap.get_push, empty_n]))
  obtain ⟨a1, a2⟩ := a
  obtain ⟨b1, b2⟩ := b
  unfold joinN
  simp only [Net.cells, ptRow] at hr
  simp only [go_sem, reduceIte, reduceEqDiff, reduceAdd, reduceMul, reduceSub, reduceLeDiff, reduceLT, Nat.reduceBEq, reduceCtorEq, Net.cells, ptRow, en205 (show PPF145 205 = none from rfl), hr]
noncomputable def p145 : List AV → Option AV := primOf (α := (Net) × (Pt) × (Pt)) (fun x => [.agg x.1.cells, .agg (ptRow x.2.1), .agg (ptRow x.2.2)]) (fun x => x.1.Ok) (fun x => .bool (joinN x.1 x.2.1 x.2.2))
theorem pok145 : ∀ args v, p145 args = some v → ∀ lo H, CallOk NC lo 145 args H v H := by
  intro args v h
  obtain ⟨x, rfl, hp, rfl⟩ := primOf_inv h
  exact c145 x.1 x.2.1 x.2.2 hp
theorem pe145 (n : Net) (a b : Pt) (hp : n.Ok) : p145 [.agg n.cells, .agg (ptRow a), .agg (ptRow b)] = some (.bool (joinN n a b)) := primOf_enc (α := (Net) × (Pt) × (Pt)) (enc := fun x => [.agg x.1.cells, .agg (ptRow x.2.1), .agg (ptRow x.2.2)]) (pre := fun x => x.1.Ok) (spec := fun x => .bool (joinN x.1 x.2.1 x.2.2)) (by intro x y h; (simp only [List.cons.injEq, AV.agg.injEq, AV.str.injEq, AV.int.injEq, AV.ps.injEq, AV.bool.injEq, Net.cells_iff, Ln.row_iff, Pc.row_iff, Mv.row_iff, lns_iff, pcs_iff, mvs_iff, Leg.row_iff, lgs_iff, pts_iff, ptr_iff, true_and, and_true] at h; first | simpa only [Prod.ext_iff] using h | simpa only [Prod.ext_iff, and_assoc] using h)) (n, a, b) hp
/-! ### The legs by themselves -/
def legP (n : Net) (l : Leg) : Int := firstI [placeP n l.line l.fr, placeP n l.line l.to]
theorem r144 (h100 : P 100 = some p100) (h111 : P 111 = some p111) (n : Net) (hn : n.Ok) (l : Leg) (cn lo : Nat) (H : Heap) (h1 : cn < H.n) (g1 : H.get cn = .cells n.cells 40) :
    ∃ H', R (NC.withPrims P) (.call lo 144 [.agg l.row, .ptr cn 0] H) = some (.ofVal (i64 (legP n l)) H') := by
  have en100 : ∀ {rec lo args H K}, VO (aenter (NC.withPrims P) rec lo 100 args H) K = AO (p100 args) fun v => K v H := enter_prim rfl (by show (match NC.prim 100 with | some p => some p | none => P 100) = _; rw [h100]; kernel_rfl)
  have en111 : ∀ {rec lo args H K}, VO (aenter (NC.withPrims P) rec lo 111 args H) K = AO (p111 args) fun v => K v H := enter_prim rfl (by show (match NC.prim 111 with | some p => some p | none => P 111) = _; rw [h111]; kernel_rfl)
  have ef := pe100 (n, l.line, l.fr) hn
  have et := pe100 (n, l.line, l.to) hn
  obtain ⟨v, H', q1, q2⟩ := R_of_body (C := NC.withPrims P) (f := 144) (lo := lo) (args := [.agg l.row, .ptr cn 0]) (H := H) (fn := Tryz.f144) (Q := fun v H' => v = i64 (legP n l)) (by kernel_rfl) Tryz.func144 rfl rfl (by
    have y1 : (cn = H.n) = False := by simp only [eq_iff_iff, iff_false]; omega
    unfold legP
    obtain ⟨a, b, c⟩ := l
    simp only [Leg.row, Net.cells, i64] at ef et g1 ⊢
    generalize placeP n a b = E1 at ef ⊢
    generalize placeP n a c = E2 at et ⊢
    simp only [go_sem, reduceIte, reduceEqDiff, reduceAdd, reduceMul, reduceSub, reduceLeDiff, reduceLT, Nat.reduceBEq, reduceCtorEq, g1, y1, ↓en100, ↓en111, ef, et, e111_2])
  exact ⟨H', by rw [q1, q2]⟩
theorem r143 (hP : P 144 = none) (lo : Nat) (m : List Leg) (F : Leg → Int) (caps : List AV) (hc : caps.map AV.strip = caps) (H : Heap) (hlo : lo ≤ H.n) (hl : m.length ≤ maxRows)
    (hcall : ∀ lo x H', Old H.n H H' → ∃ H2, R (NC.withPrims P) (.call lo 144 (.agg x.row :: caps) H') = some (.ofVal (i64 (F x)) H2)) :
    ∃ t H', R (NC.withPrims P) (.call lo 143 [.ps .unk (m.map Leg.row), .fn 144 [] caps] H) = some (.ofVal (.ps t (intRows (m.map F))) H') := by
  suffices hh : ∃ v H', R (NC.withPrims P) (.call lo 143 [.ps .unk (m.map Leg.row), .fn 144 [] caps] H) = some (.ofVal v H') ∧ ∃ t, v = .ps t (intRows (m.map F)) by
    obtain ⟨v, H', h1, t, rfl⟩ := hh; exact ⟨t, H', h1⟩
  refine R_of_body (C := NC.withPrims P) (f := 143) (lo := lo) (args := [.ps .unk (m.map Leg.row), .fn 144 [] caps]) (H := H) (fn := Tryz.f143) (Q := fun v H' => ∃ t, v = .ps t (intRows (m.map F))) (by kernel_rfl) Tryz.func143 rfl rfl ?_
  simp only [go_sem, reduceIte, reduceEqDiff, reduceAdd, reduceMul, reduceSub, reduceLeDiff, reduceLT, Nat.reduceBEq, reduceCtorEq]
  refine W_for (fun k T H' M => M = [] ∧ getT T 1 = .fn 144 [] caps ∧ getT T 8 = .ps .unk (m.map Leg.row) ∧ getT T 9 = i64 (m.length : Nat) ∧ getT T 10 = i64 k ∧ Old H.n H H' ∧ ∃ t, getT T 5 = .ps t (intRows ((m.take k).map F)) ∧ AppB H.n H' t (intRows ((m.take k).map F)) 1 33) m.length ?_ ?_ ?_
  · simp only [go_sem, reduceIte, reduceEqDiff, reduceAdd, reduceMul, reduceSub, reduceLeDiff, reduceLT, Nat.reduceBEq, reduceCtorEq]; exact ⟨Old.refl H, .nil, rfl, .inl ⟨rfl, rfl⟩⟩
  · rintro k T H' M hk ⟨rfl, g1, g8, g9, g10, hO, t, g5, hA⟩
    obtain ⟨x, hx⟩ : ∃ p, m[k]? = some p := ⟨m[k], by simp⟩
    have hr := map_at (f := Leg.row) hx
    have hw := wrap_succ hk hl
    have htk : intRows ((m.take (k + 1)).map F) = intRows ((m.take k).map F) ++ [[i64 (F x)]] := by rw [take_map hx]; simp [intRows]
    have hcl := fun lo H' h => ex_eq (hcall lo x H' h)
    have hlo' : lo ≤ H'.n := Nat.le_trans hlo hO.1
    obtain ⟨t', H2, ha, hA2, hn2, hO2, _⟩ := app_b (lo := lo) (hA.new (.cells [.str [], .int .i64 0, .int .i64 0] 157) (.cells x.row 157)) (by have := hO.1; simp; omega) hlo (r := [i64 (F x)]) (by simp [intRows]; omega) rfl (by decide) (intRows_all _)
    have hO1 := hO.new (.cells [.str [], .int .i64 0, .int .i64 0] 157) (.cells x.row 157)
    obtain ⟨a, b, c⟩ := x
    simp only [Leg.row] at hr hcl ha hO1
    simp only [go_sem, reduceIte, reduceEqDiff, reduceAdd, reduceMul, reduceSub, reduceLeDiff, reduceLT, Nat.reduceBEq, reduceCtorEq, g1, g8, g9, g10, g5, hk, hr, hw, en144 hP, hc, hcl, hO1, hlo', appO, isIntT_slice, rowsIn, ha]
    rw [htk]
    exact ⟨(hO.new _ _).trans hO2 |> fun h => ⟨h.1, h.2⟩, t', rfl, hA2⟩
  · rintro T H' M ⟨rfl, g1, g8, g9, g10, hO, t, g5, hA⟩
    simp only [go_sem, reduceIte, reduceEqDiff, reduceAdd, reduceMul, reduceSub, reduceLeDiff, reduceLT, Nat.reduceBEq, reduceCtorEq, g1, g8, g9, g10, g5, Nat.lt_irrefl, List.take_length]
    exact ⟨t, rfl⟩
/-! ### The way -/
def legsP (n : Net) (w : List Leg) : Int :=
  let e := firstI [whenI (decide ((w.length : Int) = 0)) 12, whenI (decide ((16 : Int) < w.length)) 5]
  if e = 0 then firstI (w.map (legP n)) else e
def goW (n : Net) (b : Pt) : Pt → Bool → List Leg → Bool
  | at', _, [] => ptB at' b
  | at', true, l :: r => ptB (l.line, l.fr) at' && goW n b (l.line, l.to) false r
  | at', false, l :: r => joinN n at' (l.line, l.fr) && goW n b (l.line, l.to) false r
def sumP : List Leg → Int → Int
  | [], s => s
  | l :: r, s => sumP r (wrapq .i64 (Int.add s (legW l)))
def checkWayP (n : Net) (a b : Pt) (w : List Leg) : List AV :=
  if placesP n [a, b] = 0 then (if legsP n w = 0 then (if goW n b a true w then [i64 (sumP w 0), i64 0] else [i64 0, i64 19]) else [i64 0, i64 (legsP n w)]) else [i64 0, i64 (placesP n [a, b])]
theorem checkWayP_pure (n : Net) (a b : Pt) (w : List Leg) : (AV.tup (checkWayP n a b w)).pure = true := by
  unfold checkWayP
  repeat' split
  all_goals rfl
theorem aeq45b (a b : List Nat) (i j : Int) : aeqT NC.P 100 45 (.agg [.str a, .int .i64 i]) (.agg [.str b, .int .i64 j]) = some (ptB (a, i) (b, j)) := by
  have h := aeq45p (a, i) (b, j)
  unfold ptC at h
  rw [h]
  have : decide ((a, i) = (b, j)) = ptB (a, i) (b, j) := by
    rw [Bool.eq_iff_iff, ptB_iff, decide_eq_true_eq]
  rw [this]
theorem goW_cons_first (n : Net) (b a : Pt) (l : Leg) (r : List Leg) : goW n b a true (l :: r) = (ptB (l.line, l.fr) a && goW n b (l.line, l.to) false r) := rfl
theorem goW_cons (n : Net) (b a : Pt) (l : Leg) (r : List Leg) : goW n b a false (l :: r) = (joinN n a (l.line, l.fr) && goW n b (l.line, l.to) false r) := rfl
noncomputable def PPF72 : FuncId → Option (List AV → Option AV) := addPrim 146 p146 (addPrim 145 p145 (addPrim 100 p100 (addPrim 111 p111 (addPrim 121 p121 (addPrim 114 p114 (fun _ => none))))))
theorem primsF72 : PrimsOk NC PPF72 := primsOk_add (primsOk_add (primsOk_add (primsOk_add (primsOk_add (primsOk_add (primsOk_none) (by kernel_rfl) (by kernel_rfl) pok114) (by kernel_rfl) (by kernel_rfl) pok121) (by kernel_rfl) (by kernel_rfl) pok111) (by kernel_rfl) (by kernel_rfl) pok100) (by kernel_rfl) (by kernel_rfl) pok145) (by kernel_rfl) (by kernel_rfl) pok146
theorem enF72_114 : En PPF72 114 p114 := enter_prim (by rfl) (by kernel_rfl)
theorem enF72_121 : En PPF72 121 p121 := enter_prim (by rfl) (by kernel_rfl)
theorem enF72_111 : En PPF72 111 p111 := enter_prim (by rfl) (by kernel_rfl)
theorem enF72_100 : En PPF72 100 p100 := enter_prim (by rfl) (by kernel_rfl)
theorem enF72_145 : En PPF72 145 p145 := enter_prim (by rfl) (by kernel_rfl)
theorem enF72_146 : En PPF72 146 p146 := enter_prim (by rfl) (by kernel_rfl)
attribute [go_sem ↓] enF72_114 enF72_121 enF72_111 enF72_100 enF72_145 enF72_146
theorem c72 (n : Net) (a b : Pt) (w : List Leg) (hp : n.Ok ∧ w.length ≤ maxRows) : ∀ lo H, CallOk NC lo 72 [.agg n.cells, .agg (ptRow a), .agg (ptRow b), .ps .unk (w.map Leg.row)] H (.tup (checkWayP n a b w)) H := by
  refine contract saneNC primsF72 (fn := Tryz.f72) (by kernel_rfl) Tryz.func72 rfl rfl (by rfl) (checkWayP_pure n a b w) ?_
  obtain ⟨hn, hl⟩ := hp
  have e114 := pe114 n [a, b] ⟨hn, by unfold maxRows; simp⟩
  have e111 := pe111 (w.map (legP n)) (by simpa using hl)
  unfold checkWayP
  have hLP : legsP n w = if firstI [whenI (decide ((w.length : Int) = 0)) 12, whenI (decide ((16 : Int) < w.length)) 5] = 0 then firstI (w.map (legP n)) else firstI [whenI (decide ((w.length : Int) = 0)) 12, whenI (decide ((16 : Int) < w.length)) 5] := rfl
  obtain ⟨tk, H', hr⟩ := r143 (P := PPF72) rfl 3 w (legP n) [.ptr 0 0] rfl (((Heap.empty.push (.cells n.cells 40)).push (.cells (ptRow a) 45)).push (.cells (ptRow b) 45)) (by simp [empty_n]) hl (fun lo x H' hO => r144 rfl rfl n hn x 0 lo H' (by have := hO.1; simp [empty_n] at this; omega) (by rw [hO.2 0 (by simp [empty_n])]; simp [Heap.get_push, empty_n]))
  have hgo : ∀ w', w' = w → goW n b a true w' = goW n b a true w := fun _ h => by rw [h]
  generalize hG : goW n b a true w = G at hgo ⊢
  obtain ⟨a1, a2⟩ := a
  obtain ⟨b1, b2⟩ := b
  simp only [Net.cells, i64, ptRow, List.map_cons, List.map_nil] at e114 hr e111
  rcases Classical.propComplete (placesP n [(a1, a2), (b1, b2)] = 0) with z | z
  case inr =>
    generalize placesP n [(a1, a2), (b1, b2)] = E at e114 z ⊢
    simp only [go_sem, reduceIte, reduceEqDiff, reduceAdd, reduceMul, reduceSub, reduceLeDiff, reduceLT, Nat.reduceBEq, reduceCtorEq, Net.cells, ptRow, e114, z]
  generalize placesP n [(a1, a2), (b1, b2)] = E0 at e114 z ⊢
  rw [if_pos (of_eq_true z)]
  rcases Classical.propComplete (firstI [whenI (decide ((w.length : Int) = 0)) 12, whenI (decide ((16 : Int) < w.length)) 5] = 0) with z2 | z2
  case inr =>
    have hLE : legsP n w = firstI [whenI (decide ((w.length : Int) = 0)) 12, whenI (decide ((16 : Int) < w.length)) 5] := hLP.trans (if_neg (by rw [z2]; exact id))
    rw [hLE]
    clear hLE hLP
    generalize hE : firstI [whenI (decide ((w.length : Int) = 0)) 12, whenI (decide ((16 : Int) < w.length)) 5] = E at z2 ⊢
    rcases Classical.propComplete ((w.length : Int) = 0) with q1 | q1 <;> rcases Classical.propComplete ((16 : Int) < w.length) with q2 | q2 <;> simp only [q1, q2, decide_true, decide_false] at hE <;> simp only [go_sem, reduceIte, reduceEqDiff, reduceAdd, reduceMul, reduceSub, reduceLeDiff, reduceLT, Nat.reduceBEq, reduceCtorEq, Net.cells, ptRow, e114, z, e121, e111_2, List.length_map, q1, q2, hE, z2]
  have z2' := of_eq_true z2
  have hLE : legsP n w = firstI (w.map (legP n)) := hLP.trans (if_pos z2')
  rw [hLE]
  have n1 := when_zero (by decide) (firstI_mem0 z2' _ (List.mem_cons_self ..))
  have n2 := when_zero (by decide) (firstI_mem0 z2' _ (List.mem_cons_of_mem _ (List.mem_cons_self ..)))
  have q1 : ((w.length : Int) = 0) = False := eq_false (by simpa using n1)
  have q2 : ((16 : Int) < w.length) = False := eq_false (by simpa using n2)
  clear hLE hLP n1 n2
  have hE : firstI [whenI false 12, whenI false 5] = 0 := rfl
  generalize firstI (w.map (legP n)) = F at e111 ⊢
  rcases Classical.propComplete (F = 0) with z3 | z3
  case inr => simp only [go_sem, reduceIte, reduceEqDiff, reduceAdd, reduceMul, reduceSub, reduceLeDiff, reduceLT, Nat.reduceBEq, reduceCtorEq, Net.cells, ptRow, e114, z, e121, e111_2, List.length_map, q1, q2, hE, en143 (show PPF72 143 = none from rfl), hr, e111, z3]
  rw [if_pos (of_eq_true z3)]
  simp only [go_sem, reduceIte, reduceEqDiff, reduceAdd, reduceMul, reduceSub, reduceLeDiff, reduceLT, Nat.reduceBEq, reduceCtorEq, Net.cells, ptRow, e114, z, e121, e111_2, List.length_map, q1, q2, hE, en143 (show PPF72 143 = none from rfl), hr, e111, z3]
  refine W_for (fun k T H M => M = [] ∧ getT T 4 = .ptr 0 0 ∧ getT T 6 = .ptr 2 0 ∧ getT T 14 = .ptr 3 0 ∧ getT T 47 = .ps .unk (w.map Leg.row) ∧ getT T 48 = i64 (w.length : Nat) ∧ getT T 49 = i64 k ∧ 3 < H.n ∧ H.get 0 = .cells n.cells 40 ∧ H.get 2 = .cells [.str b1, .int .i64 b2] 45 ∧ ∃ (c : Pt) (s : Int), getT T 13 = .int .i64 s ∧ H.get 3 = .cells [.str c.1, .int .i64 c.2] 45 ∧ G = goW n (b1, b2) c (decide (k = 0)) (w.drop k) ∧ sumP w 0 = sumP (w.drop k) s) w.length ?_ ?_ ?_
  · simp only [go_sem, reduceIte, reduceEqDiff, reduceAdd, reduceMul, reduceSub, reduceLeDiff, reduceLT, Nat.reduceBEq, reduceCtorEq, Net.cells]
    exact ⟨(a1, a2), 0, rfl, rfl, hG.symm, rfl⟩
  · rintro k T H M hk ⟨rfl, g4, g6, g14, g47, g48, g49, hn3, h0, h2, c, s, g13, h3, hgo, hs⟩
    obtain ⟨x, hx⟩ : ∃ p, w[k]? = some p := ⟨w[k], by simp⟩
    have hr := map_at (f := Leg.row) hx
    have hw := wrap_succ hk hl
    rw [drop_at hx] at hgo hs
    have b0 : (0 = H.n) = False ∧ (0 = H.n + 1) = False ∧ (2 = H.n) = False ∧ (2 = H.n + 1) = False ∧ (3 = H.n) = False ∧ (3 = H.n + 1) = False ∧ (H.n = 3) = False ∧ (H.n + 1 = 3) = False := by simp only [eq_iff_iff, iff_false]; omega
    have e146 := pe146 x
    have hs' : sumP w 0 = sumP (w.drop (k + 1)) (wrapq .i64 (Int.add s (legW x))) := hs
    have hk1 : decide (k + 1 = 0) = false := by simp
    have h0' := h0
    obtain ⟨c1, c2⟩ := c
    rcases Nat.eq_zero_or_pos k with k0 | k0
    · have hd : decide (k = 0) = true := by simp [k0]
      have hki : ((k : Int) = 0) = True := by simp [k0]
      have hki2 : ((0 : Int) < (k : Int)) = False := by simp [k0]
      rw [hd, goW_cons_first] at hgo
      have e45 := aeq45b x.line c1 x.fr c2
      generalize legW x = LW at e146 hs'
      generalize ptB (x.line, x.fr) (c1, c2) = B at e45 hgo
      obtain ⟨x1, x2, x3⟩ := x
      simp only [Leg.row, Net.cells, i64] at hr e146 h0' e45
      cases B with
      | false =>
        simp only [go_sem, reduceIte, reduceEqDiff, reduceAdd, reduceMul, reduceSub, reduceLeDiff, reduceLT, Nat.reduceBEq, reduceCtorEq, g4, g6, g14, g47, g48, g49, g13, List.length_map, hk, hr, hw, h0', h2, h3, b0, hki, hki2, ety45p, e45, e146]
        simp [hgo]
      | true =>
        simp only [go_sem, reduceIte, reduceEqDiff, reduceAdd, reduceMul, reduceSub, reduceLeDiff, reduceLT, Nat.reduceBEq, reduceCtorEq, g4, g6, g14, g47, g48, g49, g13, List.length_map, hk, hr, hw, h0', h2, h3, b0, hki, hki2, ety45p, e45, e146]
        refine ⟨by omega, rfl, (x1, x3), _, rfl, rfl, ?_, hs'⟩
        rw [hgo]; rfl
    · have hd : decide (k = 0) = false := by simp; omega
      have hki : ((k : Int) = 0) = False := by simp; omega
      have hki2 : ((0 : Int) < (k : Int)) = True := by simp; omega
      rw [hd, goW_cons] at hgo
      have e145 := pe145 n (c1, c2) (x.line, x.fr) hn
      generalize legW x = LW at e146 hs'
      generalize joinN n (c1, c2) (x.line, x.fr) = B at e145 hgo
      obtain ⟨x1, x2, x3⟩ := x
      simp only [Leg.row, Net.cells, ptRow, i64] at hr e146 h0' e145
      cases B with
      | false =>
        simp only [go_sem, reduceIte, reduceEqDiff, reduceAdd, reduceMul, reduceSub, reduceLeDiff, reduceLT, Nat.reduceBEq, reduceCtorEq, g4, g6, g14, g47, g48, g49, g13, List.length_map, hk, hr, hw, h0', h2, h3, b0, hki, hki2, e145, e146]
        simp [hgo]
      | true =>
        simp only [go_sem, reduceIte, reduceEqDiff, reduceAdd, reduceMul, reduceSub, reduceLeDiff, reduceLT, Nat.reduceBEq, reduceCtorEq, g4, g6, g14, g47, g48, g49, g13, List.length_map, hk, hr, hw, h0', h2, h3, b0, hki, hki2, e145, e146]
        refine ⟨by omega, rfl, (x1, x3), _, rfl, rfl, ?_, hs'⟩
        rw [hgo]; rfl
  · rintro T H M ⟨rfl, g4, g6, g14, g47, g48, g49, hn3, h0, h2, ⟨c1, c2⟩, s, g13, h3, hgo, hs⟩
    rw [List.drop_length] at hgo hs
    have hgo' : G = ptB (c1, c2) (b1, b2) := hgo
    have hs' : sumP w 0 = s := hs
    have e45 := aeq45b c1 b1 c2 b2
    rw [← hgo'] at e45
    rw [hs']
    clear hgo hgo' hG
    cases G <;> simp only [go_sem, reduceIte, reduceEqDiff, reduceAdd, reduceMul, reduceSub, reduceLeDiff, reduceLT, Nat.reduceBEq, reduceCtorEq, g4, g6, g14, g47, g48, g49, g13, h2, h3, Nat.lt_irrefl, ety45p, e45]
noncomputable def p72 : List AV → Option AV := primOf (α := (Net) × (Pt) × (Pt) × (List Leg)) (fun x => [.agg x.1.cells, .agg (ptRow x.2.1), .agg (ptRow x.2.2.1), .ps .unk (x.2.2.2.map Leg.row)]) (fun x => x.1.Ok ∧ x.2.2.2.length ≤ maxRows) (fun x => .tup (checkWayP x.1 x.2.1 x.2.2.1 x.2.2.2))
theorem pok72 : ∀ args v, p72 args = some v → ∀ lo H, CallOk NC lo 72 args H v H := by
  intro args v h
  obtain ⟨x, rfl, hp, rfl⟩ := primOf_inv h
  exact c72 x.1 x.2.1 x.2.2.1 x.2.2.2 hp
theorem pe72 (n : Net) (a b : Pt) (w : List Leg) (hp : n.Ok ∧ w.length ≤ maxRows) : p72 [.agg n.cells, .agg (ptRow a), .agg (ptRow b), .ps .unk (w.map Leg.row)] = some (.tup (checkWayP n a b w)) := primOf_enc (α := (Net) × (Pt) × (Pt) × (List Leg)) (enc := fun x => [.agg x.1.cells, .agg (ptRow x.2.1), .agg (ptRow x.2.2.1), .ps .unk (x.2.2.2.map Leg.row)]) (pre := fun x => x.1.Ok ∧ x.2.2.2.length ≤ maxRows) (spec := fun x => .tup (checkWayP x.1 x.2.1 x.2.2.1 x.2.2.2)) (by intro x y h; (simp only [List.cons.injEq, AV.agg.injEq, AV.str.injEq, AV.int.injEq, AV.ps.injEq, AV.bool.injEq, Net.cells_iff, Ln.row_iff, Pc.row_iff, Mv.row_iff, lns_iff, pcs_iff, mvs_iff, Leg.row_iff, lgs_iff, pts_iff, ptr_iff, true_and, and_true] at h; first | simpa only [Prod.ext_iff] using h | simpa only [Prod.ext_iff, and_assoc] using h)) (n, a, b, w) hp
end Go.Sim

/-
Ways: a way that is given, by the reference; the law's helpers.
-/
-- INJ Leg.row_iff lgs_iff pts_iff ptr_iff
namespace Go.Sim
open Go Go.Proofs
set_option maxRecDepth 100000
set_option maxHeartbeats 16000000
variable {P : FuncId → Option (List AV → Option AV)}
/-! ### CheckLegs -/
def legR (n : Net) (l : Leg) : Int := firstI [hasI n.lines l.line l.fr, hasI n.lines l.line l.to]
def legsR (n : Net) (w : List Leg) : Int :=
  let e := firstI [whenI (decide ((w.length : Int) = 0)) 12, whenI (decide ((16 : Int) < w.length)) 5]
  if e = 0 then firstI (w.map (legR n)) else e
noncomputable def PPF74 : FuncId → Option (List AV → Option AV) := addPrim 106 p106 (addPrim 34 p34 (addPrim 48 p48 (fun _ => none)))
theorem primsF74 : PrimsOk NC PPF74 := primsOk_add (primsOk_add (primsOk_add (primsOk_none) (by kernel_rfl) (by kernel_rfl) pok48) (by kernel_rfl) (by kernel_rfl) pok34) (by kernel_rfl) (by kernel_rfl) pok106
theorem enF74_48 : En PPF74 48 p48 := enter_prim (by rfl) (by kernel_rfl)
theorem enF74_34 : En PPF74 34 p34 := enter_prim (by rfl) (by kernel_rfl)
theorem enF74_106 : En PPF74 106 p106 := enter_prim (by rfl) (by kernel_rfl)
attribute [go_sem ↓] enF74_48 enF74_34 enF74_106
theorem c74 (n : Net) (w : List Leg) (hp : n.fits ∧ w.length ≤ maxRows) : ∀ lo H, CallOk NC lo 74 [.agg n.cells, .ps .unk (w.map Leg.row)] H (i64 (legsR n w)) H := by
  refine contract saneNC primsF74 (fn := Tryz.f74) (by kernel_rfl) Tryz.func74 rfl rfl (by rfl) (by first | rfl | (split <;> first | rfl | (split <;> rfl))) ?_
  obtain ⟨hn, hl⟩ := hp
  have hLP : legsR n w = if firstI [whenI (decide ((w.length : Int) = 0)) 12, whenI (decide ((16 : Int) < w.length)) 5] = 0 then firstI (w.map (legR n)) else firstI [whenI (decide ((w.length : Int) = 0)) 12, whenI (decide ((16 : Int) < w.length)) 5] := rfl
  rw [hLP]
  rcases Classical.propComplete (firstI [whenI (decide ((w.length : Int) = 0)) 12, whenI (decide ((16 : Int) < w.length)) 5] = 0) with z2 | z2
  case inr =>
    rw [if_neg (by rw [z2]; exact id)]
    generalize hE : firstI [whenI (decide ((w.length : Int) = 0)) 12, whenI (decide ((16 : Int) < w.length)) 5] = E at z2 ⊢
    rcases Classical.propComplete ((w.length : Int) = 0) with q1 | q1 <;> rcases Classical.propComplete ((16 : Int) < w.length) with q2 | q2 <;> simp only [q1, q2, decide_true, decide_false] at hE <;> simp only [go_sem, reduceIte, reduceEqDiff, reduceAdd, reduceMul, reduceSub, reduceLeDiff, reduceLT, Nat.reduceBEq, reduceCtorEq, Net.cells, e48, e34_2, List.length_map, q1, q2, hE, z2]
  have z2' := of_eq_true z2
  rw [if_pos z2']
  have n1 := when_zero (by decide) (firstI_mem0 z2' _ (List.mem_cons_self ..))
  have n2 := when_zero (by decide) (firstI_mem0 z2' _ (List.mem_cons_of_mem _ (List.mem_cons_self ..)))
  have q1 : ((w.length : Int) = 0) = False := eq_false (by simpa using n1)
  have q2 : ((16 : Int) < w.length) = False := eq_false (by simpa using n2)
  have hE : firstI [whenI false 12, whenI false 5] = 0 := rfl
  simp only [go_sem, reduceIte, reduceEqDiff, reduceAdd, reduceMul, reduceSub, reduceLeDiff, reduceLT, Nat.reduceBEq, reduceCtorEq, Net.cells, e48, e34_2, List.length_map, q1, q2, hE]
  refine W_for (fun k T H M => M = [] ∧ getT T 1 = .ps .unk (w.map Leg.row) ∧ getT T 2 = .ptr 0 0 ∧ getT T 6 = i64 k ∧ H.get 0 = .cells n.cells 26 ∧ firstI (w.map (legR n)) = firstI ((w.map (legR n)).drop k)) w.length ?_ ?_ ?_
  · simp only [go_sem, reduceIte, reduceEqDiff, reduceAdd, reduceMul, reduceSub, reduceLeDiff, reduceLT, Nat.reduceBEq, reduceCtorEq, Net.cells]
  · rintro k T H M hk ⟨rfl, g1, g2, g6, h0, hf⟩
    obtain ⟨x, hx⟩ : ∃ p, w[k]? = some p := ⟨w[k], by simp⟩
    have hr := map_at (f := Leg.row) hx
    have hw := wrap_succ hk hl
    have hfd := firstI_drop (map_at (f := legR n) hx)
    have e1 := pe106 (n, x.line, x.fr) hn
    have e2 := pe106 (n, x.line, x.to) hn
    rw [hf, hfd]
    clear hf hfd
    have hLR : legR n x = firstI [hasI n.lines x.line x.fr, hasI n.lines x.line x.to] := rfl
    rw [hLR]
    have h0' := h0
    obtain ⟨x1, x2, x3⟩ := x
    simp only [Leg.row, Net.cells, i64] at hr e1 e2 h0' ⊢
    generalize hasI n.lines x1 x2 = E1 at e1 ⊢
    generalize hasI n.lines x1 x3 = E2 at e2 ⊢
    have hFE : firstI [E1, E2] = firstI [E1, E2] := rfl
    rcases Classical.propComplete (firstI [E1, E2] = 0) with z | z <;> simp only [go_sem, reduceIte, reduceEqDiff, reduceAdd, reduceMul, reduceSub, reduceLeDiff, reduceLT, Nat.reduceBEq, reduceCtorEq, g1, g2, g6, h0', List.length_map, Int.ofNat_lt, hk, hr, hw, e1, e2, e34_2, z]
  · rintro T H M ⟨rfl, g1, g2, g6, h0, hf⟩
    rw [hf, List.drop_of_length_le (by simp)]
    simp only [go_sem, reduceIte, reduceEqDiff, reduceAdd, reduceMul, reduceSub, reduceLeDiff, reduceLT, Nat.reduceBEq, reduceCtorEq, g1, g2, g6, h0, List.length_map, Int.ofNat_lt, Nat.lt_irrefl]
    try rfl
noncomputable def p74 : List AV → Option AV := primOf (α := (Net) × (List Leg)) (fun x => [.agg x.1.cells, .ps .unk (x.2.map Leg.row)]) (fun x => x.1.fits ∧ x.2.length ≤ maxRows) (fun x => i64 (legsR x.1 x.2))
theorem pok74 : ∀ args v, p74 args = some v → ∀ lo H, CallOk NC lo 74 args H v H := by
  intro args v h
  obtain ⟨x, rfl, hp, rfl⟩ := primOf_inv h
  exact c74 x.1 x.2 hp
theorem pe74 (n : Net) (w : List Leg) (hp : n.fits ∧ w.length ≤ maxRows) : p74 [.agg n.cells, .ps .unk (w.map Leg.row)] = some (.int .i64 (legsR n w)) := primOf_enc (α := (Net) × (List Leg)) (enc := fun x => [.agg x.1.cells, .ps .unk (x.2.map Leg.row)]) (pre := fun x => x.1.fits ∧ x.2.length ≤ maxRows) (spec := fun x => i64 (legsR x.1 x.2)) (by intro x y h; (simp only [List.cons.injEq, AV.agg.injEq, AV.str.injEq, AV.int.injEq, AV.ps.injEq, AV.bool.injEq, Net.cells_iff, Ln.row_iff, Pc.row_iff, Mv.row_iff, lns_iff, pcs_iff, mvs_iff, Leg.row_iff, lgs_iff, pts_iff, ptr_iff, true_and, and_true] at h; first | simpa only [Prod.ext_iff] using h | simpa only [Prod.ext_iff, and_assoc] using h)) (n, w) hp
/-! ### joined -/
theorem aeq28p (a b : List Nat) (i j : Int) : aeqT NC.P 100 28 (.agg [.str a, .int .i64 i]) (.agg [.str b, .int .i64 j]) = some (ptB (a, i) (b, j)) := by
  rw [aeq28']
  unfold ptB
  cases beqL a b <;> cases eqI i j <;> rfl
noncomputable def PPF149 : FuncId → Option (List AV → Option AV) := addPrim 207 p207 (fun _ => none)
theorem primsF149 : PrimsOk NC PPF149 := primsOk_add (primsOk_none) (by kernel_rfl) (by kernel_rfl) pok207
theorem enF149_207 : En PPF149 207 p207 := enter_prim (by rfl) (by kernel_rfl)
attribute [go_sem ↓] enF149_207
theorem c149 (n : Net) (a b : Pt) (hp : n.fits ∧ n.sws.length ≤ maxRows ∧ (∀ s ∈ n.sws, s.last = true → ∃ i, findL n.lines s.other = some i)) : ∀ lo H, CallOk NC lo 149 [.agg n.cells, .agg (ptRow a), .agg (ptRow b)] H (.bool (joinN n a b)) H := by
  refine contract saneNC primsF149 (fn := Tryz.f149) (by kernel_rfl) Tryz.func149 rfl rfl (by rfl) (by first | rfl | (split <;> first | rfl | (split <;> rfl))) ?_
  obtain ⟨hn, hl, hlk⟩ := hp
  simp only [go_sem, reduceIte, reduceEqDiff, reduceAdd, reduceMul, reduceSub, reduceLeDiff, reduceLT, Nat.reduceBEq, reduceCtorEq, Net.cells, ptRow]
  refine W_for (fun k T H M => M = [] ∧ getT T 3 = .ptr 0 0 ∧ getT T 4 = .ptr 1 0 ∧ getT T 5 = .ptr 2 0 ∧ getT T 7 = i64 k ∧ 2 < H.n ∧ H.get 0 = .cells n.cells 26 ∧ H.get 1 = .cells (ptRow a) 28 ∧ H.get 2 = .cells (ptRow b) 28 ∧ ∀ (j : Nat) x, j < k → n.sws[j]? = some x → joinW n a b x = false) n.sws.length ?_ ?_ ?_
  · simp only [go_sem, reduceIte, reduceEqDiff, reduceAdd, reduceMul, reduceSub, reduceLeDiff, reduceLT, Nat.reduceBEq, reduceCtorEq, Net.cells, ptRow]
    exact fun j x hj => absurd hj (by omega)
  · rintro k T H M hk ⟨rfl, g3, g4, g5, g7, hn2, h0, h1, h2, hf⟩
    obtain ⟨s, hs⟩ : ∃ p, n.sws[k]? = some p := ⟨n.sws[k], by simp⟩
    have hr := map_at (f := Sw.row) hs
    have hw := wrap_succ hk hl
    have e207 := pe207 n s ⟨hn, hlk s (List.mem_of_getElem? hs)⟩
    have hJ : joinW n a b s = ((ptB (s.line, s.metre) a && ptB (s.other, endM n s) b) || (ptB (s.line, s.metre) b && ptB (s.other, endM n s) a)) := rfl
    have b0 : (0 = H.n) = False ∧ (1 = H.n) = False ∧ (2 = H.n) = False ∧ (H.n = 0) = False ∧ (H.n = 1) = False ∧ (H.n = 2) = False := by simp only [eq_iff_iff, iff_false]; omega
    have hnext : joinW n a b s = false → ∀ (j : Nat) y, j < k + 1 → n.sws[j]? = some y → joinW n a b y = false := fun hh j y hj hy => by
      by_cases e : j = k
      · subst e; rw [hs] at hy; cases hy; exact hh
      · exact hf j y (by omega) hy
    have hhit : joinW n a b s = true → joinN n a b = true := fun hh => List.any_eq_true.2 ⟨s, List.mem_of_getElem? hs, hh⟩
    rw [hJ] at hnext hhit
    clear hJ
    generalize endM n s = EM at e207 hnext hhit
    have h0' := h0
    have h1' := h1
    have h2' := h2
    obtain ⟨a1, a2⟩ := a
    obtain ⟨b1, b2⟩ := b
    obtain ⟨w1, w2, w3, w4, w5⟩ := s
    simp only [ptRow, Net.cells, Sw.row, i64] at e207 h0' h1' h2' hr hnext hhit
    have k1 := aeq28p w2 a1 w3 a2
    have k2 := aeq28p w4 b1 EM b2
    have k3 := aeq28p w2 b1 w3 b2
    have k4 := aeq28p w4 a1 EM a2
    generalize ptB (w2, w3) (a1, a2) = B1 at k1 hnext hhit
    generalize ptB (w4, EM) (b1, b2) = B2 at k2 hnext hhit
    generalize ptB (w2, w3) (b1, b2) = B3 at k3 hnext hhit
    generalize ptB (w4, EM) (a1, a2) = B4 at k4 hnext hhit
    cases B1 <;> cases B2 <;> cases B3 <;> cases B4 <;> simp only [go_sem, reduceIte, reduceEqDiff, reduceAdd, reduceMul, reduceSub, reduceLeDiff, reduceLT, Nat.reduceBEq, reduceCtorEq, g3, g4, g5, g7, h0', h1', h2', List.length_map, Int.ofNat_lt, hk, hr, hw, b0, e207, ab137, ety28, k1, k2, k3, k4]
    all_goals first | (rw [hhit rfl]; done) | exact ⟨by omega, rfl, rfl, rfl, hnext rfl⟩ | exact ⟨by omega, hnext rfl⟩ | skip
  · rintro T H M ⟨rfl, g3, g4, g5, g7, hn2, h0, h1, h2, hf⟩
    have h0' := h0
    simp only [Net.cells] at h0'
    have hj : joinN n a b = false := any_none hf
    rw [hj]
    simp only [go_sem, reduceIte, reduceEqDiff, reduceAdd, reduceMul, reduceSub, reduceLeDiff, reduceLT, Nat.reduceBEq, reduceCtorEq, g3, g4, g5, g7, h0', List.length_map, Int.ofNat_lt, Nat.lt_irrefl]
noncomputable def p149 : List AV → Option AV := primOf (α := (Net) × (Pt) × (Pt)) (fun x => [.agg x.1.cells, .agg (ptRow x.2.1), .agg (ptRow x.2.2)]) (fun x => x.1.fits ∧ x.1.sws.length ≤ maxRows ∧ (∀ s ∈ x.1.sws, s.last = true → ∃ i, findL x.1.lines s.other = some i)) (fun x => .bool (joinN x.1 x.2.1 x.2.2))
theorem pok149 : ∀ args v, p149 args = some v → ∀ lo H, CallOk NC lo 149 args H v H := by
  intro args v h
  obtain ⟨x, rfl, hp, rfl⟩ := primOf_inv h
  exact c149 x.1 x.2.1 x.2.2 hp
theorem pe149 (n : Net) (a b : Pt) (hp : n.fits ∧ n.sws.length ≤ maxRows ∧ (∀ s ∈ n.sws, s.last = true → ∃ i, findL n.lines s.other = some i)) : p149 [.agg n.cells, .agg (ptRow a), .agg (ptRow b)] = some (.bool (joinN n a b)) := primOf_enc (α := (Net) × (Pt) × (Pt)) (enc := fun x => [.agg x.1.cells, .agg (ptRow x.2.1), .agg (ptRow x.2.2)]) (pre := fun x => x.1.fits ∧ x.1.sws.length ≤ maxRows ∧ (∀ s ∈ x.1.sws, s.last = true → ∃ i, findL x.1.lines s.other = some i)) (spec := fun x => .bool (joinN x.1 x.2.1 x.2.2)) (by intro x y h; (simp only [List.cons.injEq, AV.agg.injEq, AV.str.injEq, AV.int.injEq, AV.ps.injEq, AV.bool.injEq, Net.cells_iff, Ln.row_iff, Pc.row_iff, Mv.row_iff, lns_iff, pcs_iff, mvs_iff, Leg.row_iff, lgs_iff, pts_iff, ptr_iff, true_and, and_true] at h; first | simpa only [Prod.ext_iff] using h | simpa only [Prod.ext_iff, and_assoc] using h)) (n, a, b) hp
/-! ### IsWay -/
def legAt (w : List Leg) (i : Nat) : Leg := w.getD i ⟨[], 0, 0⟩
theorem legAt_of {w : List Leg} {i : Nat} {l : Leg} (h : w[i]? = some l) : legAt w i = l := by
  unfold legAt; rw [List.getD_eq_getElem?_getD, h]; rfl
def stepsB (n : Net) : List Leg → Bool
  | x :: y :: r => joinN n (x.line, x.to) (y.line, y.fr) && stepsB n (y :: r)
  | _ => true
def isWayR (n : Net) (a b : Pt) (w : List Leg) : Bool := (ptB ((legAt w 0).line, (legAt w 0).fr) a && ptB ((legAt w (w.length - 1)).line, (legAt w (w.length - 1)).to) b) && stepsB n w
theorem stepsB_drop {n : Net} {w : List Leg} {k : Nat} {x y : Leg} (hx : w[k]? = some x) (hy : w[k + 1]? = some y) : stepsB n (w.drop k) = (joinN n (x.line, x.to) (y.line, y.fr) && stepsB n (w.drop (k + 1))) := by
  rw [drop_at hx, drop_at hy]; rfl
noncomputable def PPF76 : FuncId → Option (List AV → Option AV) := addPrim 149 p149 (fun _ => none)
theorem primsF76 : PrimsOk NC PPF76 := primsOk_add (primsOk_none) (by kernel_rfl) (by kernel_rfl) pok149
theorem enF76_149 : En PPF76 149 p149 := enter_prim (by rfl) (by kernel_rfl)
attribute [go_sem ↓] enF76_149
theorem c76 (n : Net) (a b : Pt) (w : List Leg) (hp : (n.fits ∧ n.sws.length ≤ maxRows ∧ (∀ s ∈ n.sws, s.last = true → ∃ i, findL n.lines s.other = some i)) ∧ 0 < w.length ∧ w.length ≤ maxRows) : ∀ lo H, CallOk NC lo 76 [.agg n.cells, .agg (ptRow a), .agg (ptRow b), .ps .unk (w.map Leg.row)] H (.bool (isWayR n a b w)) H := by
  refine contract saneNC primsF76 (fn := Tryz.f76) (by kernel_rfl) Tryz.func76 rfl rfl (by rfl) (by first | rfl | (split <;> first | rfl | (split <;> rfl))) ?_
  obtain ⟨hn, hpos, hl⟩ := hp
  obtain ⟨x, hx⟩ : ∃ p, w[0]? = some p := ⟨w[0], by simp⟩
  obtain ⟨y, hy⟩ : ∃ p, w[w.length - 1]? = some p := ⟨w[w.length - 1]'(by omega), by simp⟩
  have hrx := map_at (f := Leg.row) hx
  have hry := map_at (f := Leg.row) hy
  have hwp : wrapq .i64 (Int.sub (w.length : Int) 1) = ((w.length - 1 : Nat) : Int) := wrap_pred (k := w.length) (n := w.length) hpos (Nat.le_refl _) hl
  have hlt : w.length - 1 < w.length := by omega
  have hW : isWayR n a b w = ((ptB (x.line, x.fr) a && ptB (y.line, y.to) b) && stepsB n w) := by unfold isWayR; rw [legAt_of hx, legAt_of hy]
  rw [hW]
  clear hW
  obtain ⟨a1, a2⟩ := a
  obtain ⟨b1, b2⟩ := b
  obtain ⟨x1, x2, x3⟩ := x
  obtain ⟨y1, y2, y3⟩ := y
  simp only [Leg.row] at hrx hry ⊢
  have k1 := aeq28p x1 a1 x2 a2
  have k2 := aeq28p y1 b1 y3 b2
  generalize ptB (x1, x2) (a1, a2) = B1 at k1 ⊢
  generalize ptB (y1, y3) (b1, b2) = B2 at k2 ⊢
  cases B1 with
  | false => simp only [go_sem, reduceIte, reduceEqDiff, reduceAdd, reduceMul, reduceSub, reduceLeDiff, reduceLT, Nat.reduceBEq, reduceCtorEq, Net.cells, ptRow, List.length_map, hwp, hlt, hpos, hry, hrx, ety28, k1, k2]
  | true =>
  cases B2 with
  | false => simp only [go_sem, reduceIte, reduceEqDiff, reduceAdd, reduceMul, reduceSub, reduceLeDiff, reduceLT, Nat.reduceBEq, reduceCtorEq, Net.cells, ptRow, List.length_map, hwp, hlt, hpos, hry, hrx, ety28, k1, k2]
  | true =>
  simp only [go_sem, reduceIte, reduceEqDiff, reduceAdd, reduceMul, reduceSub, reduceLeDiff, reduceLT, Nat.reduceBEq, reduceCtorEq, Net.cells, ptRow, List.length_map, hwp, hlt, hpos, hry, hrx, ety28, k1, k2]
  refine W_for (fun k T H M => M = [] ∧ getT T 3 = .ps .unk (w.map Leg.row) ∧ getT T 4 = .ptr 0 0 ∧ getT T 10 = i64 ((k + 1 : Nat) : Int) ∧ H.get 0 = .cells n.cells 26 ∧ stepsB n w = stepsB n (w.drop k)) (w.length - 1) ?_ ?_ ?_
  · simp only [go_sem, reduceIte, reduceEqDiff, reduceAdd, reduceMul, reduceSub, reduceLeDiff, reduceLT, Nat.reduceBEq, reduceCtorEq, Net.cells]
    try rfl
  · rintro k T H M hk ⟨rfl, g3, g4, g10, h0, hs⟩
    obtain ⟨p, hp⟩ : ∃ p, w[k]? = some p := ⟨w[k]'(by omega), by simp⟩
    obtain ⟨q, hq⟩ : ∃ p, w[k + 1]? = some p := ⟨w[k + 1]'(by omega), by simp⟩
    have hrp := map_at (f := Leg.row) hp
    have hrq := map_at (f := Leg.row) hq
    have hwk := wrap_succ (k := k + 1) (n := w.length) (by omega) hl
    have hwm : wrapq .i64 (Int.sub ((k + 1 : Nat) : Int) 1) = ((k : Nat) : Int) := by
      have := wrap_pred (k := k + 1) (n := w.length) (by omega) (by omega) hl
      simpa using this
    have c1 : (k + 1 < w.length) = True := by simp only [eq_iff_iff, iff_true]; omega
    have c2 : (k < w.length) = True := by simp only [eq_iff_iff, iff_true]; omega
    rw [hs, stepsB_drop hp hq]
    clear hs
    have e149 := pe149 n (p.line, p.to) (q.line, q.fr) hn
    generalize joinN n (p.line, p.to) (q.line, q.fr) = B at e149 ⊢
    have h0' := h0
    obtain ⟨p1, p2, p3⟩ := p
    obtain ⟨q1, q2, q3⟩ := q
    simp only [Leg.row, Net.cells, ptRow, i64] at hrp hrq e149 h0'
    cases B <;> simp only [go_sem, reduceIte, reduceEqDiff, reduceAdd, reduceMul, reduceSub, reduceLeDiff, reduceLT, Nat.reduceBEq, reduceCtorEq, g3, g4, g10, h0', List.length_map, Int.ofNat_lt, c1, c2, hrp, hrq, hwk, hwm, e149]
    rfl
  · rintro T H M ⟨rfl, g3, g4, g10, h0, hs⟩
    obtain ⟨l, hl1⟩ : ∃ l, w.drop (w.length - 1) = [l] := by
      have := List.length_drop (i := w.length - 1) (l := w)
      match hd : w.drop (w.length - 1), this with
      | [l], _ => exact ⟨l, rfl⟩
      | [], h => rw [List.length_nil] at h; omega
      | _ :: _ :: _, h => simp only [List.length_cons] at h; omega
    have c1 : (w.length - 1 + 1 < w.length) = False := by simp only [eq_iff_iff, iff_false]; omega
    rw [hs, hl1]
    simp only [go_sem, reduceIte, reduceEqDiff, reduceAdd, reduceMul, reduceSub, reduceLeDiff, reduceLT, Nat.reduceBEq, reduceCtorEq, g3, g4, g10, h0, List.length_map, Int.ofNat_lt, c1]
    try rfl
noncomputable def p76 : List AV → Option AV := primOf (α := (Net) × (Pt) × (Pt) × (List Leg)) (fun x => [.agg x.1.cells, .agg (ptRow x.2.1), .agg (ptRow x.2.2.1), .ps .unk (x.2.2.2.map Leg.row)]) (fun x => (x.1.fits ∧ x.1.sws.length ≤ maxRows ∧ (∀ s ∈ x.1.sws, s.last = true → ∃ i, findL x.1.lines s.other = some i)) ∧ 0 < x.2.2.2.length ∧ x.2.2.2.length ≤ maxRows) (fun x => .bool (isWayR x.1 x.2.1 x.2.2.1 x.2.2.2))
theorem pok76 : ∀ args v, p76 args = some v → ∀ lo H, CallOk NC lo 76 args H v H := by
  intro args v h
  obtain ⟨x, rfl, hp, rfl⟩ := primOf_inv h
  exact c76 x.1 x.2.1 x.2.2.1 x.2.2.2 hp
theorem pe76 (n : Net) (a b : Pt) (w : List Leg) (hp : (n.fits ∧ n.sws.length ≤ maxRows ∧ (∀ s ∈ n.sws, s.last = true → ∃ i, findL n.lines s.other = some i)) ∧ 0 < w.length ∧ w.length ≤ maxRows) : p76 [.agg n.cells, .agg (ptRow a), .agg (ptRow b), .ps .unk (w.map Leg.row)] = some (.bool (isWayR n a b w)) := primOf_enc (α := (Net) × (Pt) × (Pt) × (List Leg)) (enc := fun x => [.agg x.1.cells, .agg (ptRow x.2.1), .agg (ptRow x.2.2.1), .ps .unk (x.2.2.2.map Leg.row)]) (pre := fun x => (x.1.fits ∧ x.1.sws.length ≤ maxRows ∧ (∀ s ∈ x.1.sws, s.last = true → ∃ i, findL x.1.lines s.other = some i)) ∧ 0 < x.2.2.2.length ∧ x.2.2.2.length ≤ maxRows) (spec := fun x => .bool (isWayR x.1 x.2.1 x.2.2.1 x.2.2.2)) (by intro x y h; (simp only [List.cons.injEq, AV.agg.injEq, AV.str.injEq, AV.int.injEq, AV.ps.injEq, AV.bool.injEq, Net.cells_iff, Ln.row_iff, Pc.row_iff, Mv.row_iff, lns_iff, pcs_iff, mvs_iff, Leg.row_iff, lgs_iff, pts_iff, ptr_iff, true_and, and_true] at h; first | simpa only [Prod.ext_iff] using h | simpa only [Prod.ext_iff, and_assoc] using h)) (n, a, b, w) hp
/-! ### Both ways of asking are one -/
theorem goW_same {n : Net} {b : Pt} : ∀ (l : Leg) (r : List Leg), goW n b (l.line, l.to) false r = (ptB ((legAt (l :: r) r.length).line, (legAt (l :: r) r.length).to) b && stepsB n (l :: r))
  | l, [] => by
    show ptB (l.line, l.to) b = (ptB (l.line, l.to) b && true)
    rw [Bool.and_true]
  | l, x :: r => by
    have ih := goW_same (n := n) (b := b) x r
    have e : legAt (l :: x :: r) (x :: r).length = legAt (x :: r) r.length := by
      unfold legAt; simp
    rw [goW_cons, ih, e]
    show _ = (_ && (joinN n (l.line, l.to) (x.line, x.fr) && stepsB n (x :: r)))
    cases joinN n (l.line, l.to) (x.line, x.fr) <;> cases ptB ((legAt (x :: r) r.length).line, (legAt (x :: r) r.length).to) b <;> simp
theorem goW_isWay {n : Net} {a b : Pt} {w : List Leg} (h : 0 < w.length) : goW n b a true w = isWayR n a b w := by
  cases w with
  | nil => exact absurd h (by simp)
  | cons l r =>
    rw [goW_cons_first, goW_same]
    unfold isWayR
    have e : legAt (l :: r) ((l :: r).length - 1) = legAt (l :: r) r.length := by simp
    rw [e]
    show (ptB (l.line, l.fr) a && _) = ((ptB (l.line, l.fr) a && _) && _)
    rw [Bool.and_assoc]
/-! ### The law's helpers -/
noncomputable def PPF73 : FuncId → Option (List AV → Option AV) := fun _ => none
theorem primsF73 : PrimsOk NC PPF73 := primsOk_none
theorem c73 (l : List Leg) (hp : l.length ≤ maxRows) : ∀ lo H, CallOk NC lo 73 [.ps .unk (l.map Leg.row)] H (.ps .unk (l.map Leg.row)) H := by
  refine contract saneNC primsF73 (fn := Tryz.f73) (by kernel_rfl) Tryz.func73 rfl rfl (by rfl) (by first | rfl | (split <;> first | rfl | (split <;> rfl))) ?_
  simp only [go_sem, reduceIte, reduceEqDiff, reduceAdd, reduceMul, reduceSub, reduceLeDiff, reduceLT, Nat.reduceBEq, reduceCtorEq]
  refine W_for (fun k T H M => M = [] ∧ getT T 6 = .ps .unk (l.map Leg.row) ∧ getT T 7 = i64 (l.length : Nat) ∧ getT T 8 = i64 k ∧ ∃ t, getT T 3 = .ps t ((l.take k).map Leg.row) ∧ App H t ((l.take k).map Leg.row) 3 157) l.length ?_ ?_ ?_
  · simp only [go_sem, reduceIte, reduceEqDiff, reduceAdd, reduceMul, reduceSub, reduceLeDiff, reduceLT, Nat.reduceBEq, reduceCtorEq, List.length_map]; exact ⟨.nil, by simp, .inl ⟨rfl, rfl⟩⟩
  · rintro k T H M hk ⟨rfl, g6, g7, g8, t, g3, hA⟩
    obtain ⟨x, hx⟩ : ∃ p, l[k]? = some p := ⟨l[k], by simp⟩
    have hr := map_at (f := Leg.row) hx
    have hw := wrap_succ hk hp
    have htk := take_map (f := Leg.row) hx
    obtain ⟨t', H1, ha, hB, hn1, hc1, _⟩ := app_any (H := (H.push (.cells [.str [], .int .i64 0, .int .i64 0] 141)).set H.n (.cells x.row 141)) (hA.fresh _ _ rfl) (r := x.row) (by simp; omega) rfl (by decide) (rows_all Leg.row_len _)
    obtain ⟨a, b, c⟩ := x
    simp only [Leg.row, i64] at hr ha
    simp only [go_sem, reduceIte, reduceEqDiff, reduceAdd, reduceMul, reduceSub, reduceLeDiff, reduceLT, Nat.reduceBEq, reduceCtorEq, g6, g7, g8, g3, List.length_map, hk, hr, hw, appO, ha]
    rw [htk]
    exact ⟨t', rfl, hB⟩
  · rintro T H M ⟨rfl, g6, g7, g8, t, g3, hA⟩
    simp only [go_sem, reduceIte, reduceEqDiff, reduceAdd, reduceMul, reduceSub, reduceLeDiff, reduceLT, Nat.reduceBEq, reduceCtorEq, g6, g7, g8, g3, List.take_length, Nat.lt_irrefl]
noncomputable def p73 : List AV → Option AV := primOf (α := (List Leg)) (fun x => [.ps .unk (x.map Leg.row)]) (fun x => x.length ≤ maxRows) (fun x => .ps .unk (x.map Leg.row))
theorem pok73 : ∀ args v, p73 args = some v → ∀ lo H, CallOk NC lo 73 args H v H := by
  intro args v h
  obtain ⟨x, rfl, hp, rfl⟩ := primOf_inv h
  exact c73 x hp
theorem pe73 (l : List Leg) (hp : l.length ≤ maxRows) : p73 [.ps .unk (l.map Leg.row)] = some (.ps .unk (l.map Leg.row)) := primOf_enc (α := (List Leg)) (enc := fun x => [.ps .unk (x.map Leg.row)]) (pre := fun x => x.length ≤ maxRows) (spec := fun x => .ps .unk (x.map Leg.row)) (by intro x y h; (simp only [List.cons.injEq, AV.agg.injEq, AV.str.injEq, AV.int.injEq, AV.ps.injEq, AV.bool.injEq, Net.cells_iff, Ln.row_iff, Pc.row_iff, Mv.row_iff, lns_iff, pcs_iff, mvs_iff, Leg.row_iff, lgs_iff, pts_iff, ptr_iff, true_and, and_true] at h; first | simpa only [Prod.ext_iff] using h | simpa only [Prod.ext_iff, and_assoc] using h)) l hp
noncomputable def PPF79 : FuncId → Option (List AV → Option AV) := fun _ => none
theorem primsF79 : PrimsOk NC PPF79 := primsOk_none
theorem c79 (l : List Leg) (hp : l.length ≤ maxRows) : ∀ lo H, CallOk NC lo 79 [.ps .unk (l.map Leg.row)] H (.ps .unk (l.map Leg.row)) H := by
  refine contract saneNC primsF79 (fn := Tryz.f79) (by kernel_rfl) Tryz.func79 rfl rfl (by rfl) (by first | rfl | (split <;> first | rfl | (split <;> rfl))) ?_
  simp only [go_sem, reduceIte, reduceEqDiff, reduceAdd, reduceMul, reduceSub, reduceLeDiff, reduceLT, Nat.reduceBEq, reduceCtorEq]
  refine W_for (fun k T H M => M = [] ∧ getT T 6 = .ps .unk (l.map Leg.row) ∧ getT T 7 = i64 (l.length : Nat) ∧ getT T 8 = i64 k ∧ ∃ t, getT T 3 = .ps t ((l.take k).map Leg.row) ∧ App H t ((l.take k).map Leg.row) 3 141) l.length ?_ ?_ ?_
  · simp only [go_sem, reduceIte, reduceEqDiff, reduceAdd, reduceMul, reduceSub, reduceLeDiff, reduceLT, Nat.reduceBEq, reduceCtorEq, List.length_map]; exact ⟨.nil, by simp, .inl ⟨rfl, rfl⟩⟩
  · rintro k T H M hk ⟨rfl, g6, g7, g8, t, g3, hA⟩
    obtain ⟨x, hx⟩ : ∃ p, l[k]? = some p := ⟨l[k], by simp⟩
    have hr := map_at (f := Leg.row) hx
    have hw := wrap_succ hk hp
    have htk := take_map (f := Leg.row) hx
    obtain ⟨t', H1, ha, hB, hn1, hc1, _⟩ := app_any (H := (H.push (.cells [.str [], .int .i64 0, .int .i64 0] 157)).set H.n (.cells x.row 157)) (hA.fresh _ _ rfl) (r := x.row) (by simp; omega) rfl (by decide) (rows_all Leg.row_len _)
    obtain ⟨a, b, c⟩ := x
    simp only [Leg.row, i64] at hr ha
    simp only [go_sem, reduceIte, reduceEqDiff, reduceAdd, reduceMul, reduceSub, reduceLeDiff, reduceLT, Nat.reduceBEq, reduceCtorEq, g6, g7, g8, g3, List.length_map, hk, hr, hw, appO, ha]
    rw [htk]
    exact ⟨t', rfl, hB⟩
  · rintro T H M ⟨rfl, g6, g7, g8, t, g3, hA⟩
    simp only [go_sem, reduceIte, reduceEqDiff, reduceAdd, reduceMul, reduceSub, reduceLeDiff, reduceLT, Nat.reduceBEq, reduceCtorEq, g6, g7, g8, g3, List.take_length, Nat.lt_irrefl]
noncomputable def p79 : List AV → Option AV := primOf (α := (List Leg)) (fun x => [.ps .unk (x.map Leg.row)]) (fun x => x.length ≤ maxRows) (fun x => .ps .unk (x.map Leg.row))
theorem pok79 : ∀ args v, p79 args = some v → ∀ lo H, CallOk NC lo 79 args H v H := by
  intro args v h
  obtain ⟨x, rfl, hp, rfl⟩ := primOf_inv h
  exact c79 x hp
theorem pe79 (l : List Leg) (hp : l.length ≤ maxRows) : p79 [.ps .unk (l.map Leg.row)] = some (.ps .unk (l.map Leg.row)) := primOf_enc (α := (List Leg)) (enc := fun x => [.ps .unk (x.map Leg.row)]) (pre := fun x => x.length ≤ maxRows) (spec := fun x => .ps .unk (x.map Leg.row)) (by intro x y h; (simp only [List.cons.injEq, AV.agg.injEq, AV.str.injEq, AV.int.injEq, AV.ps.injEq, AV.bool.injEq, Net.cells_iff, Ln.row_iff, Pc.row_iff, Mv.row_iff, lns_iff, pcs_iff, mvs_iff, Leg.row_iff, lgs_iff, pts_iff, ptr_iff, true_and, and_true] at h; first | simpa only [Prod.ext_iff] using h | simpa only [Prod.ext_iff, and_assoc] using h)) l hp
def lgB (a b : Leg) : Bool := beqL a.line b.line && (eqI a.fr b.fr && eqI a.to b.to)
theorem lgB_iff (a b : Leg) : lgB a b = true ↔ a = b := by
  obtain ⟨a1, a2, a3⟩ := a
  obtain ⟨b1, b2, b3⟩ := b
  unfold lgB
  simp only [Bool.and_eq_true, beqL_iff, eqI_iff, decide_eq_true_eq, Leg.mk.injEq]
theorem aeq141' (a a' : List Nat) (b b' c c' : Int) : aeqT NC.P 100 141 (.agg [.str a, .int .i64 b, .int .i64 c]) (.agg [.str a', .int .i64 b', .int .i64 c']) =
    (match some (beqL a a') with
    | some true => (match some (eqI b b') with
      | some true => (match some (eqI c c') with
        | some true => some true
        | some false => some false
        | none => none)
      | some false => some false
      | none => none)
    | some false => some false
    | none => none) := by kernel_rfl
theorem aeq141 (a b : Leg) : aeqT NC.P 100 141 (.agg a.row) (.agg b.row) = some (lgB a b) := by
  unfold Leg.row lgB
  rw [aeq141']
  cases beqL a.line b.line <;> cases eqI a.fr b.fr <;> cases eqI a.to b.to <;> rfl
theorem ety141 : eqType NC.P 100 141 = true := by kernel_rfl
noncomputable def PPF78 : FuncId → Option (List AV → Option AV) := fun _ => none
theorem primsF78 : PrimsOk NC PPF78 := primsOk_none
theorem c78 (a b : List Leg) (hp : a.length ≤ maxRows) : ∀ lo H, CallOk NC lo 78 [.ps .unk (a.map Leg.row), .ps .unk (b.map Leg.row)] H (.bool (listB lgB a b)) H := by
  refine contract saneNC primsF78 (fn := Tryz.f78) (by kernel_rfl) Tryz.func78 rfl rfl (by rfl) (by first | rfl | (split <;> first | rfl | (split <;> rfl))) ?_
  rcases Classical.propComplete (a.length = b.length) with q | q
  case inr =>
    have hb : listB lgB a b = false := listB_len (by simpa using q)
    simp only [go_sem, reduceIte, reduceEqDiff, reduceAdd, reduceMul, reduceSub, reduceLeDiff, reduceLT, Nat.reduceBEq, reduceCtorEq, List.length_map, len_eq, q, hb]
  have hab := of_eq_true q
  simp only [go_sem, reduceIte, reduceEqDiff, reduceAdd, reduceMul, reduceSub, reduceLeDiff, reduceLT, Nat.reduceBEq, reduceCtorEq, List.length_map, len_eq, q]
  refine W_for (fun k T H M => M = [] ∧ getT T 0 = .ps .unk (a.map Leg.row) ∧ getT T 1 = .ps .unk (b.map Leg.row) ∧ getT T 5 = i64 k ∧ ∀ (j : Nat) x y, j < k → a[j]? = some x → b[j]? = some y → lgB x y = true) a.length ?_ ?_ ?_
  · simp only [go_sem, reduceIte, reduceEqDiff, reduceAdd, reduceMul, reduceSub, reduceLeDiff, reduceLT, Nat.reduceBEq, reduceCtorEq]; exact fun j x y hj => absurd hj (by omega)
  · rintro k T H M hk ⟨rfl, g0, g1, g5, hf⟩
    obtain ⟨x, hx⟩ : ∃ p, a[k]? = some p := ⟨a[k], by simp⟩
    obtain ⟨y, hy⟩ : ∃ p, b[k]? = some p := ⟨b[k]'(by omega), by simp⟩
    have hr := map_at (f := Leg.row) hx
    have hr2 := map_at (f := Leg.row) hy
    have hk2 : (k < b.length) = True := by simp; omega
    have hw := wrap_succ hk hp
    have he := aeq141 x y
    cases hb : lgB x y with
    | true =>
      rw [hb] at he
      simp only [Leg.row, i64] at hr hr2 he
      simp only [go_sem, reduceIte, reduceEqDiff, reduceAdd, reduceMul, reduceSub, reduceLeDiff, reduceLT, Nat.reduceBEq, reduceCtorEq, g0, g1, g5, List.length_map, hk, hk2, hr, hr2, hw, ety141, he]
      intro j x' y' hj h1 h2
      by_cases e : j = k
      · subst e; rw [hx] at h1; rw [hy] at h2; cases h1; cases h2; exact hb
      · exact hf j x' y' (by omega) h1 h2
    | false =>
      rw [hb] at he
      simp only [Leg.row, i64] at hr hr2 he
      have hb2 : listB lgB a b = false := listB_at hx hy hb
      simp only [go_sem, reduceIte, reduceEqDiff, reduceAdd, reduceMul, reduceSub, reduceLeDiff, reduceLT, Nat.reduceBEq, reduceCtorEq, g0, g1, g5, List.length_map, hk, hk2, hr, hr2, hw, ety141, he, hb2]
  · rintro T H M ⟨rfl, g0, g1, g5, hf⟩
    have hb : listB lgB a b = true := listB_all hab fun k x y h1 h2 => hf k x y (List.getElem?_eq_some_iff.1 h1).1 h1 h2
    simp only [go_sem, reduceIte, reduceEqDiff, reduceAdd, reduceMul, reduceSub, reduceLeDiff, reduceLT, Nat.reduceBEq, reduceCtorEq, g0, g1, g5, List.length_map, Nat.lt_irrefl, hb]
noncomputable def p78 : List AV → Option AV := primOf (α := (List Leg) × (List Leg)) (fun x => [.ps .unk (x.1.map Leg.row), .ps .unk (x.2.map Leg.row)]) (fun x => x.1.length ≤ maxRows) (fun x => .bool (listB lgB x.1 x.2))
theorem pok78 : ∀ args v, p78 args = some v → ∀ lo H, CallOk NC lo 78 args H v H := by
  intro args v h
  obtain ⟨x, rfl, hp, rfl⟩ := primOf_inv h
  exact c78 x.1 x.2 hp
theorem pe78 (a b : List Leg) (hp : a.length ≤ maxRows) : p78 [.ps .unk (a.map Leg.row), .ps .unk (b.map Leg.row)] = some (.bool (listB lgB a b)) := primOf_enc (α := (List Leg) × (List Leg)) (enc := fun x => [.ps .unk (x.1.map Leg.row), .ps .unk (x.2.map Leg.row)]) (pre := fun x => x.1.length ≤ maxRows) (spec := fun x => .bool (listB lgB x.1 x.2)) (by intro x y h; (simp only [List.cons.injEq, AV.agg.injEq, AV.str.injEq, AV.int.injEq, AV.ps.injEq, AV.bool.injEq, Net.cells_iff, Ln.row_iff, Pc.row_iff, Mv.row_iff, lns_iff, pcs_iff, mvs_iff, Leg.row_iff, lgs_iff, pts_iff, ptr_iff, true_and, and_true] at h; first | simpa only [Prod.ext_iff] using h | simpa only [Prod.ext_iff, and_assoc] using h)) (a, b) hp
noncomputable def PPF70 : FuncId → Option (List AV → Option AV) := fun _ => none
theorem primsF70 : PrimsOk NC PPF70 := primsOk_none
theorem c70 (s : List Nat) (i : Int) (t : List Nat) (j : Int) : ∀ lo H, CallOk NC lo 70 [.agg [.str s, i64 i, .str t, i64 j]] H (.bool (shortB s && shortB t)) H := by
  refine contract saneNC primsF70 (fn := Tryz.f70) (by kernel_rfl) Tryz.func70 rfl rfl (by rfl) (by first | rfl | (split <;> first | rfl | (split <;> rfl))) ?_
  have h1 : shortB s = !decide ((40 : Int) < (s.length : Int)) := rfl
  have h2 : shortB t = !decide ((40 : Int) < (t.length : Int)) := rfl
  rw [h1, h2]
  rcases Classical.propComplete ((40 : Int) < (s.length : Int)) with q1 | q1 <;> rcases Classical.propComplete ((40 : Int) < (t.length : Int)) with q2 | q2 <;> simp only [go_sem, reduceIte, reduceEqDiff, reduceAdd, reduceMul, reduceSub, reduceLeDiff, reduceLT, Nat.reduceBEq, reduceCtorEq, q1, q2]
noncomputable def p70 : List AV → Option AV := primOf (α := (List Nat) × (Int) × (List Nat) × (Int)) (fun x => [.agg [.str x.1, i64 x.2.1, .str x.2.2.1, i64 x.2.2.2]]) (fun x => True) (fun x => .bool (shortB x.1 && shortB x.2.2.1))
theorem pok70 : ∀ args v, p70 args = some v → ∀ lo H, CallOk NC lo 70 args H v H := by
  intro args v h
  obtain ⟨x, rfl, hp, rfl⟩ := primOf_inv h
  exact c70 x.1 x.2.1 x.2.2.1 x.2.2.2
theorem pe70 (s : List Nat) (i : Int) (t : List Nat) (j : Int) : p70 [.agg [.str s, .int .i64 i, .str t, .int .i64 j]] = some (.bool (shortB s && shortB t)) := primOf_enc (α := (List Nat) × (Int) × (List Nat) × (Int)) (enc := fun x => [.agg [.str x.1, i64 x.2.1, .str x.2.2.1, i64 x.2.2.2]]) (pre := fun x => True) (spec := fun x => .bool (shortB x.1 && shortB x.2.2.1)) (by intro x y h; (simp only [List.cons.injEq, AV.agg.injEq, AV.str.injEq, AV.int.injEq, AV.ps.injEq, AV.bool.injEq, Net.cells_iff, Ln.row_iff, Pc.row_iff, Mv.row_iff, lns_iff, pcs_iff, mvs_iff, Leg.row_iff, lgs_iff, pts_iff, ptr_iff, true_and, and_true] at h; first | simpa only [Prod.ext_iff] using h | simpa only [Prod.ext_iff, and_assoc] using h)) (s, i, t, j) trivial
end Go.Sim

/-
The law: NetworkWays returns true.
-/
-- INJ Leg.row_iff lgs_iff pts_iff ptr_iff
namespace Go.Sim
open Go Go.Proofs
set_option maxRecDepth 100000
set_option maxHeartbeats 64000000
theorem small_fine {n : Net} (h : smallN n = true) : shortN n = true ∧ netR n = 0 ∧ n.lines.length ≤ 4 ∧ n.sws.length ≤ 4 ∧ n.sts.length ≤ 6 := by
  unfold smallN at h
  simp only [Bool.and_eq_true, Bool.not_eq_true', decide_eq_true_eq, decide_eq_false_iff_not] at h
  obtain ⟨h1, ⟨⟨⟨h2, h3⟩, h4⟩, h5⟩, _⟩ := h
  exact ⟨h1, h2, by omega, by omega, by omega⟩
theorem listB_me {α : Type} {f : α → α → Bool} (hf : ∀ a b, f a b = true ↔ a = b) (x : List α) : listB f x x = true := (listB_iff hf).2 rfl
theorem legs_same (n : Net) (w : List Leg) : legsP n w = legsR n w := by
  have : legP n = legR n := by funext l; unfold legP legR; rw [place_same, place_same]
  unfold legsP legsR
  rw [this]
theorem places2 (n : Net) (a b : Pt) : placesP n [a, b] = if netR n = 0 then firstI [hasI n.lines a.1 a.2, hasI n.lines b.1 b.2] else netR n := by
  unfold placesP
  rw [net_same]
  simp only [List.map_cons, List.map_nil, place_same]
theorem way_same {n : Net} (h : netP n = 0) (h4 : n.sws.length ≤ 4) {a b : Pt} (hp : placesP n [a, b] = 0) : ∃ (w : List Leg) (d e : Int), wayP n a b = [.ps .unk (w.map Leg.row), i64 d, i64 e] ∧ wayRv n (bestO n a b) = [.ps .unk (w.map Leg.row), i64 d, i64 e] ∧ w.length ≤ 5 := by
  have hpz := places_zero hp
  have hA := place_in h (hpz.2 a (by simp))
  have hB := place_in h (hpz.2 b (by simp))
  unfold wayP
  rw [if_pos hp]
  cases hb : bestO n a b with
  | none => exact ⟨[], 0, 18, rfl, rfl, by simp⟩
  | some w =>
    obtain ⟨σ, s1, s2, s3⟩ := bestO_in h hA.2 hB.2 hb
    have hl := bestO_len hb
    have hs : sumR w 0 = wSum w := by rw [sumR_eq s3 (by omega) (by omega)]; omega
    refine ⟨w, wSum w, 0, rfl, ?_, by omega⟩
    show [AV.ps .unk (w.map Leg.row), i64 (sumR w 0), i64 0] = _
    rw [hs]
theorem sum_same : ∀ {w : List Leg} {s : Int}, (∀ l ∈ w, inR l.fr ∧ inR l.to) → 0 ≤ s → s + 800000 * w.length ≤ 1000000000 → sumP w s = s + wSum w
  | [], s, _, _, _ => by simp [sumP, wSum]
  | l :: r, s, h, h0, h8 => by
    obtain ⟨h1, h2⟩ := h l (by simp)
    obtain ⟨e1, e2, e3⟩ := legW_len h1 h2
    have hc : ((l :: r).length : Int) = (r.length : Int) + 1 := by simp
    rw [hc] at h8
    have e : wrapq .i64 (Int.add s l.len) = s + l.len := wrapq_i64 (by show _ ≤ s + l.len; omega) (by show s + l.len ≤ _; omega)
    show sumP r (wrapq .i64 (Int.add s (legW l))) = s + (l.len + wSum r)
    rw [e1, e, sum_same (fun q hq => h q (by simp [hq])) (by omega) (by omega)]
    omega
theorem legs_zero {n : Net} {w : List Leg} (h : legsP n w = 0) : 0 < w.length ∧ w.length ≤ 16 ∧ ∀ l ∈ w, placeP n l.line l.fr = 0 ∧ placeP n l.line l.to = 0 := by
  unfold legsP at h
  by_cases z : firstI [whenI (decide ((w.length : Int) = 0)) 12, whenI (decide ((16 : Int) < w.length)) 5] = 0
  · simp only [z, if_true] at h
    have z1 := when_zero (by decide) (firstI_mem0 z _ (List.mem_cons_self ..))
    have z2 := when_zero (by decide) (firstI_mem0 z _ (List.mem_cons_of_mem _ (List.mem_cons_self ..)))
    simp only [decide_eq_false_iff_not] at z1 z2
    refine ⟨by omega, by omega, fun l hl => ?_⟩
    have h1 := firstI_mem0 h _ (List.mem_map.2 ⟨l, hl, rfl⟩)
    unfold legP at h1
    exact first2 _ _ h1
  · simp only [z, if_false] at h
noncomputable def PPF11 : FuncId → Option (List AV → Option AV) := addPrim 79 p79 (addPrim 78 p78 (addPrim 77 p77 (addPrim 76 p76 (addPrim 75 p75 (addPrim 74 p74 (addPrim 73 p73 (addPrim 72 p72 (addPrim 71 p71 (addPrim 70 p70 (addPrim 34 p34 (addPrim 31 p31 (addPrim 30 p30 (addPrim 24 p24 (addPrim 22 p22 (addPrim 19 p19 (addPrim 17 p17 (addPrim 16 p16 (fun _ => none))))))))))))))))))
theorem primsF11 : PrimsOk NC PPF11 := primsOk_add (primsOk_add (primsOk_add (primsOk_add (primsOk_add (primsOk_add (primsOk_add (primsOk_add (primsOk_add (primsOk_add (primsOk_add (primsOk_add (primsOk_add (primsOk_add (primsOk_add (primsOk_add (primsOk_add (primsOk_add (primsOk_none) (by kernel_rfl) (by kernel_rfl) pok16) (by kernel_rfl) (by kernel_rfl) pok17) (by kernel_rfl) (by kernel_rfl) pok19) (by kernel_rfl) (by kernel_rfl) pok22) (by kernel_rfl) (by kernel_rfl) pok24) (by kernel_rfl) (by kernel_rfl) pok30) (by kernel_rfl) (by kernel_rfl) pok31) (by kernel_rfl) (by kernel_rfl) pok34) (by kernel_rfl) (by kernel_rfl) pok70) (by kernel_rfl) (by kernel_rfl) pok71) (by kernel_rfl) (by kernel_rfl) pok72) (by kernel_rfl) (by kernel_rfl) pok73) (by kernel_rfl) (by kernel_rfl) pok74) (by kernel_rfl) (by kernel_rfl) pok75) (by kernel_rfl) (by kernel_rfl) pok76) (by kernel_rfl) (by kernel_rfl) pok77) (by kernel_rfl) (by kernel_rfl) pok78) (by kernel_rfl) (by kernel_rfl) pok79
theorem enF11_16 : En PPF11 16 p16 := enter_prim (by rfl) (by kernel_rfl)
theorem enF11_17 : En PPF11 17 p17 := enter_prim (by rfl) (by kernel_rfl)
theorem enF11_19 : En PPF11 19 p19 := enter_prim (by rfl) (by kernel_rfl)
theorem enF11_22 : En PPF11 22 p22 := enter_prim (by rfl) (by kernel_rfl)
theorem enF11_24 : En PPF11 24 p24 := enter_prim (by rfl) (by kernel_rfl)
theorem enF11_30 : En PPF11 30 p30 := enter_prim (by rfl) (by kernel_rfl)
theorem enF11_31 : En PPF11 31 p31 := enter_prim (by rfl) (by kernel_rfl)
theorem enF11_34 : En PPF11 34 p34 := enter_prim (by rfl) (by kernel_rfl)
theorem enF11_70 : En PPF11 70 p70 := enter_prim (by rfl) (by kernel_rfl)
theorem enF11_71 : En PPF11 71 p71 := enter_prim (by rfl) (by kernel_rfl)
theorem enF11_72 : En PPF11 72 p72 := enter_prim (by rfl) (by kernel_rfl)
theorem enF11_73 : En PPF11 73 p73 := enter_prim (by rfl) (by kernel_rfl)
theorem enF11_74 : En PPF11 74 p74 := enter_prim (by rfl) (by kernel_rfl)
theorem enF11_75 : En PPF11 75 p75 := enter_prim (by rfl) (by kernel_rfl)
theorem enF11_76 : En PPF11 76 p76 := enter_prim (by rfl) (by kernel_rfl)
theorem enF11_77 : En PPF11 77 p77 := enter_prim (by rfl) (by kernel_rfl)
theorem enF11_78 : En PPF11 78 p78 := enter_prim (by rfl) (by kernel_rfl)
theorem enF11_79 : En PPF11 79 p79 := enter_prim (by rfl) (by kernel_rfl)
attribute [go_sem ↓] enF11_16 enF11_17 enF11_19 enF11_22 enF11_24 enF11_30 enF11_31 enF11_34 enF11_70 enF11_71 enF11_72 enF11_73 enF11_74 enF11_75 enF11_76 enF11_77 enF11_78 enF11_79
theorem c11 (n : Net) (a b : Pt) (l : List Leg) (hl : l.length ≤ 9223372036854775807) : ∀ lo H, CallOk NC lo 11 [.agg n.cells, .agg [.str a.1, i64 a.2, .str b.1, i64 b.2], .ps .unk (l.map Leg.row)] H (.bool true) H := by
  refine contract saneNC primsF11 (fn := Tryz.f11) (by kernel_rfl) Tryz.func11 rfl rfl (by rfl) (by rfl) ?_
  have e17 := pe17 n trivial
  have e70 := pe70 a.1 a.2 b.1 b.2
  have e31 := pe31 n
  simp only [Net.cells, i64] at e17 e70 e31
  cases hS : shortN n with
  | false =>
    simp only [hS] at e17
    simp only [go_sem, reduceIte, reduceEqDiff, reduceAdd, reduceMul, reduceSub, reduceLeDiff, reduceLT, Nat.reduceBEq, reduceCtorEq, Net.cells, e16, e17]
  | true =>
  simp only [hS] at e17
  cases hP : (shortB a.1 && shortB b.1) with
  | false =>
    simp only [hP] at e70
    simp only [go_sem, reduceIte, reduceEqDiff, reduceAdd, reduceMul, reduceSub, reduceLeDiff, reduceLT, Nat.reduceBEq, reduceCtorEq, Net.cells, e16, e17, e70]
  | true =>
  simp only [hP] at e70
  have hok := short_ok hS
  have e19 := pe19 n ⟨hok.fits, hok.sws, hok.sts⟩
  have e22 := pe22 n ⟨hok.fits, hok.sws, hok.sts⟩
  simp only [Net.cells, i64] at e19 e22
  rcases Classical.propComplete ((17 : Int) < l.length) with q17 | q17
  · rcases Classical.propComplete (netR n = 0) with z | z
    · cases hs : smallN n <;> simp only [hs] at e31 <;> simp only [go_sem, reduceIte, reduceEqDiff, reduceAdd, reduceMul, reduceSub, reduceLeDiff, reduceLT, Nat.reduceBEq, reduceCtorEq, Net.cells, List.length_map, e16, e17, e70, e22, e31, z, q17]
    · simp only [go_sem, reduceIte, reduceEqDiff, reduceAdd, reduceMul, reduceSub, reduceLeDiff, reduceLT, Nat.reduceBEq, reduceCtorEq, Net.cells, List.length_map, e16, e17, e70, e22, z, q17]
  have hl : l.length ≤ maxRows := by
    have : ¬ ((17 : Int) < l.length) := fun h => by rw [eq_true h] at q17; simp at q17
    unfold maxRows; omega
  have e71 := pe71 n a b hok
  have e72 := pe72 n a b l ⟨hok, hl⟩
  have e73 := pe73 l hl
  have e24a := pe24 (n, a.1, a.2) hok.fits
  have e24b := pe24 (n, b.1, b.2) hok.fits
  have e74 := pe74 n l ⟨hok.fits, hl⟩
  have e79n : p79 [.ps .unk []] = some (.ps .unk []) := pe79 [] (Nat.zero_le _)
  have e78n : p78 [.ps .unk [], .ps .unk []] = some (.bool true) := pe78 [] [] (Nat.zero_le _)
  simp only [Net.cells, i64, ptRow] at e71 e72 e73 e24a e24b e74
  rcases Classical.propComplete (netR n = 0) with z | z
  case inr =>
    have hz : ¬ (netR n = 0) := fun h => by rw [h] at z; simp at z
    have hpl : placesP n [a, b] = netR n := by rw [places2, if_neg hz]
    have hw : wayP n a b = [.ps .unk [], i64 0, i64 (netR n)] := by unfold wayP; rw [hpl, if_neg hz]
    have hc : checkWayP n a b l = [i64 0, i64 (netR n)] := by unfold checkWayP; rw [hpl, if_neg hz]
    rw [hw] at e71
    rw [hc] at e72
    generalize netR n = E at e22 e71 e72 z
    have hnum := num_bad z
    simp only [i64] at e71 e72
    simp only [go_sem, reduceIte, reduceEqDiff, reduceAdd, reduceMul, reduceSub, reduceLeDiff, reduceLT, Nat.reduceBEq, reduceCtorEq, Net.cells, List.length_map, e16, e17, e70, e22, z, q17]
    refine W_for (fun k T H M => M = [] ∧ getT T 2 = .ps .unk (l.map Leg.row) ∧ getT T 3 = .ptr 0 0 ∧ getT T 4 = .ptr 1 0 ∧ getT T 47 = .ps .unk (l.map Leg.row) ∧ getT T 48 = i64 (l.length : Nat) ∧ getT T 49 = i64 k ∧ 1 < H.n ∧ H.get 0 = .cells n.cells 26 ∧ H.get 1 = .cells [.str a.1, i64 a.2, .str b.1, i64 b.2] 137) l.length ?_ ?_ ?_
    · simp only [go_sem, reduceIte, reduceEqDiff, reduceAdd, reduceMul, reduceSub, reduceLeDiff, reduceLT, Nat.reduceBEq, reduceCtorEq, Net.cells, List.length_map]
    · rintro k T H M hk ⟨rfl, g2, g3, g4, g47, g48, g49, hn1, h0, h1⟩
      obtain ⟨x, hx⟩ : ∃ p, l[k]? = some p := ⟨l[k], by simp⟩
      have hr := map_at (f := Leg.row) hx
      have hw := wrap_succ hk hl
      have b0 : (0 = H.n) = False ∧ (1 = H.n) = False := by simp only [eq_iff_iff, iff_false]; omega
      obtain ⟨x1, x2, x3⟩ := x
      simp only [Leg.row] at hr
      rcases Classical.propComplete ((40 : Int) < x1.length) with q | q <;> simp only [go_sem, reduceIte, reduceEqDiff, reduceAdd, reduceMul, reduceSub, reduceLeDiff, reduceLT, Nat.reduceBEq, reduceCtorEq, g2, g3, g4, g47, g48, g49, hk, hr, hw, h0, h1, b0, q]
      try exact ⟨by omega, h0, h1⟩
      try omega
    · rintro T H M ⟨rfl, g2, g3, g4, g47, g48, g49, hn1, h0, h1⟩
      have h0' := h0
      simp only [Net.cells, i64] at h0' h1
      simp only [go_sem, reduceIte, reduceEqDiff, reduceAdd, reduceMul, reduceSub, reduceLeDiff, reduceLT, Nat.reduceBEq, reduceCtorEq, Net.cells, g2, g3, g4, g47, g48, g49, Nat.lt_irrefl, h0', h1, natOf_2, e19, e71, e72, e73, e22, z, e79n, e78n, e30, hnum]
  cases hsm : smallN n with
  | false =>
    simp only [hsm] at e31
    simp only [go_sem, reduceIte, reduceEqDiff, reduceAdd, reduceMul, reduceSub, reduceLeDiff, reduceLT, Nat.reduceBEq, reduceCtorEq, Net.cells, List.length_map, e16, e17, e70, e22, e31, z, q17]
  | true =>
  simp only [hsm] at e31
  obtain ⟨_, hz, hl4, hs4, _⟩ := small_fine hsm
  have hzp : netP n = 0 := by rw [net_same]; exact hz
  have hfine : FineN n := ⟨hzp, hok.fits, hs4⟩
  simp only [go_sem, reduceIte, reduceEqDiff, reduceAdd, reduceMul, reduceSub, reduceLeDiff, reduceLT, Nat.reduceBEq, reduceCtorEq, Net.cells, List.length_map, e16, e17, e70, e22, e31, z, q17]
  refine W_for (fun k T H M => M = [] ∧ getT T 2 = .ps .unk (l.map Leg.row) ∧ getT T 3 = .ptr 0 0 ∧ getT T 4 = .ptr 1 0 ∧ getT T 47 = .ps .unk (l.map Leg.row) ∧ getT T 48 = i64 (l.length : Nat) ∧ getT T 49 = i64 k ∧ 1 < H.n ∧ H.get 0 = .cells n.cells 26 ∧ H.get 1 = .cells [.str a.1, i64 a.2, .str b.1, i64 b.2] 137) l.length ?_ ?_ ?_
  · simp only [go_sem, reduceIte, reduceEqDiff, reduceAdd, reduceMul, reduceSub, reduceLeDiff, reduceLT, Nat.reduceBEq, reduceCtorEq, Net.cells, List.length_map]
  · rintro k T H M hk ⟨rfl, g2, g3, g4, g47, g48, g49, hn1, h0, h1⟩
    obtain ⟨x, hx⟩ : ∃ p, l[k]? = some p := ⟨l[k], by simp⟩
    have hr := map_at (f := Leg.row) hx
    have hw := wrap_succ hk hl
    have b0 : (0 = H.n) = False ∧ (1 = H.n) = False := by simp only [eq_iff_iff, iff_false]; omega
    obtain ⟨x1, x2, x3⟩ := x
    simp only [Leg.row] at hr
    rcases Classical.propComplete ((40 : Int) < x1.length) with q | q <;> simp only [go_sem, reduceIte, reduceEqDiff, reduceAdd, reduceMul, reduceSub, reduceLeDiff, reduceLT, Nat.reduceBEq, reduceCtorEq, g2, g3, g4, g47, g48, g49, hk, hr, hw, h0, h1, b0, q]
    try exact ⟨by omega, h0, h1⟩
    try omega
  · rintro T H M ⟨rfl, g2, g3, g4, g47, g48, g49, hn1, h0, h1⟩
    have h0' := h0
    simp only [Net.cells, i64] at h0' h1
    have hpl : placesP n [a, b] = firstI [hasI n.lines a.1 a.2, hasI n.lines b.1 b.2] := by rw [places2, if_pos hz]
    rcases Classical.propComplete (placesP n [a, b] = 0) with y | y
    case inr =>
      have hy : ¬ (placesP n [a, b] = 0) := fun h => by rw [h] at y; simp at y
      have hw : wayP n a b = [.ps .unk [], i64 0, i64 (placesP n [a, b])] := by unfold wayP; rw [if_neg hy]
      have hc : checkWayP n a b l = [i64 0, i64 (placesP n [a, b])] := by unfold checkWayP; rw [if_neg hy]
      rw [hw] at e71
      rw [hc] at e72
      rw [hpl] at e71 e72 y
      generalize hasI n.lines a.1 a.2 = E1 at e24a e71 e72 y
      generalize hasI n.lines b.1 b.2 = E2 at e24b e71 e72 y
      have e34 := e34_2 E1 E2
      generalize firstI [E1, E2] = E at e34 e71 e72 y
      have hnum := num_bad y
      simp only [i64] at e71 e72
      simp only [go_sem, reduceIte, reduceEqDiff, reduceAdd, reduceMul, reduceSub, reduceLeDiff, reduceLT, Nat.reduceBEq, reduceCtorEq, Net.cells, g2, g3, g4, g47, g48, g49, Nat.lt_irrefl, h0', h1, natOf_2, e19, e71, e72, e73, e22, e24a, e24b, e34, z, y, e79n, e78n, e30, hnum]
    have hy := of_eq_true y
    have hpz := places_zero hy
    have hA := place_in hzp (hpz.2 a (by simp))
    have hB := place_in hzp (hpz.2 b (by simp))
    obtain ⟨w, d, e, w1, w2, w3⟩ := way_same hzp hs4 hy
    have e75 := pe75 n a b ⟨hfine, hA.1, hA.2, hB.2⟩
    have e79 := pe79 w (by unfold maxRows; omega)
    have e78 := pe78 w w (by unfold maxRows; omega)
    rw [listB_me lgB_iff] at e78
    rw [w1] at e71
    rw [w2] at e75
    have hc : checkWayP n a b l = if legsP n l = 0 then (if goW n b a true l then [i64 (sumP l 0), i64 0] else [i64 0, i64 19]) else [i64 0, i64 (legsP n l)] := by unfold checkWayP; rw [if_pos hy]
    rw [hc] at e72
    have e34 := e34_2 (hasI n.lines a.1 a.2) (hasI n.lines b.1 b.2)
    rw [← hpl, hy] at e34
    generalize hasI n.lines a.1 a.2 = E1 at e24a e34
    generalize hasI n.lines b.1 b.2 = E2 at e24b e34
    rw [← legs_same] at e74
    simp only [i64, ptRow, Net.cells] at e71 e72 e74 e75 e78 e79
    rcases Classical.propComplete (legsP n l = 0) with x | x
    case inr =>
      generalize legsP n l = F at e72 e74 x
      simp only [x, if_false] at e72
      have hnum := num_bad x
      simp only [go_sem, reduceIte, reduceEqDiff, reduceAdd, reduceMul, reduceSub, reduceLeDiff, reduceLT, Nat.reduceBEq, reduceCtorEq, Net.cells, g2, g3, g4, g47, g48, g49, Nat.lt_irrefl, h0', h1, natOf_2, e19, e71, e72, e73, e22, e24a, e24b, e34, z, x, e74, e75, e79, e78, e30, hnum]
    have hx := of_eq_true x
    have hlz := legs_zero hx
    have e76 := pe76 n a b l ⟨⟨hok.fits, hok.sws, lks hzp⟩, hlz.1, hl⟩
    have e77 := pe77 l hl
    rw [hx] at e74
    simp only [x, if_true] at e72
    rw [goW_isWay hlz.1] at e72
    have hin : ∀ q ∈ l, inR q.fr ∧ inR q.to := fun q hq => ⟨(place_in hzp (hlz.2.2 q hq).1).2, (place_in hzp (hlz.2.2 q hq).2).2⟩
    have hss : sumP l 0 = sumR l 0 := by rw [sum_same hin (by omega) (by omega), sumR_eq hin (by omega) (by omega)]
    rw [hss] at e72
    generalize sumR l 0 = S at e72 e77
    simp only [i64, ptRow, Net.cells] at e76 e77
    cases hw : isWayR n a b l with
    | false =>
      simp only [hw, Bool.false_eq_true, if_false] at e72 e76
      have hnum : numB 0 19 19 0 = true := by decide
      simp only [go_sem, reduceIte, reduceEqDiff, reduceAdd, reduceMul, reduceSub, reduceLeDiff, reduceLT, Nat.reduceBEq, reduceCtorEq, Net.cells, g2, g3, g4, g47, g48, g49, Nat.lt_irrefl, h0', h1, natOf_2, e19, e71, e72, e73, e22, e24a, e24b, e34, z, e74, e75, e76, e79, e78, e30, hnum]
    | true =>
      simp only [hw, if_true] at e72 e76
      have hnum := num_good S
      simp only [go_sem, reduceIte, reduceEqDiff, reduceAdd, reduceMul, reduceSub, reduceLeDiff, reduceLT, Nat.reduceBEq, reduceCtorEq, Net.cells, g2, g3, g4, g47, g48, g49, Nat.lt_irrefl, h0', h1, natOf_2, e19, e71, e72, e73, e22, e24a, e24b, e34, z, e74, e75, e76, e77, e79, e78, e30, hnum]
end Go.Sim
