/-
The parts NetP3, NetP4, NetP5, NetP6, NetP7, NetR1, NetQ1, NetQ2, NetM1, NetR2, NetR3, NetApp, NetM5, NetAwake, NetZ1, NetN1, NetD1, NetD2, NetD4 of one proof, joined: each begins with a remark that says what it shows.
-/
import Derived.Test.YtepaopekeidlmaaGreatDoorT13
set_option linter.unusedSimpArgs false
set_option linter.unusedVariables false

/-
The program: CheckNetwork.
-/
namespace Go.Sim
open Go Go.Proofs
set_option maxRecDepth 100000
set_option maxHeartbeats 4000000
noncomputable def p177 : List AV → Option AV := primOf (α := Ln × Int) (fun x => [.agg x.1.row, i64 x.2]) (fun x => x.1.ps.length ≤ maxRows) (fun x => .bool (hasB x.1 x.2))
theorem pok177 : ∀ args v, p177 args = some v → ∀ lo H, CallOk NC lo 177 args H v H := by
  intro args v h
  obtain ⟨x, rfl, hp, rfl⟩ := primOf_inv h
  clear h
  revert x
  intro x hx; exact c177 x.1 x.2 hx
theorem pe177 (x : Ln × Int) (hp : (fun x => x.1.ps.length ≤ maxRows) x) : p177 ((fun x => [.agg x.1.row, i64 x.2]) x) = some ((fun x => .bool (hasB x.1 x.2)) x) := primOf_enc (by intro x y h; (obtain ⟨a, b⟩ := x; obtain ⟨c, d⟩ := y; simp only [List.cons.injEq, AV.agg.injEq, AV.int.injEq, true_and, and_true] at h; obtain ⟨h1, rfl⟩ := h; rw [Ln.row_inj _ _ h1])) x hp
noncomputable def p180 : List AV → Option AV := primOf (α := Pc) (fun x => [.agg x.row]) (fun _ => True) (fun x => i64 (pieceP x))
theorem pok180 : ∀ args v, p180 args = some v → ∀ lo H, CallOk NC lo 180 args H v H := by
  intro args v h
  obtain ⟨x, rfl, hp, rfl⟩ := primOf_inv h
  clear h
  revert x
  intro x; exact c180 x
theorem pe180 (x : Pc) (hp : (fun _ => True) x) : p180 ((fun x => [.agg x.row]) x) = some ((fun x => i64 (pieceP x)) x) := primOf_enc (by intro x y h; exact pc1_inj x y h) x hp
theorem e180 (l q : Int) (b : Bool) : p180 [.agg [.int .i64 l, .int .i64 q, .bool b]] = some (.int .i64 (pieceP ⟨l, q, b⟩)) := pe180 ⟨l, q, b⟩ trivial
noncomputable def p98 : List AV → Option AV := primOf (α := Net × List Nat) (fun x => [.agg x.1.cells, .str x.2]) (fun x => x.1.lines.length ≤ maxRows) (fun x => .tup [.agg (lnOf x.1.lines x.2).row, .bool (lnB x.1.lines x.2)])
theorem pok98 : ∀ args v, p98 args = some v → ∀ lo H, CallOk NC lo 98 args H v H := by
  intro args v h
  obtain ⟨x, rfl, hp, rfl⟩ := primOf_inv h
  clear h
  revert x
  intro x hx; exact c98 x.1 x.2 hx
theorem pe98 (x : Net × List Nat) (hp : (fun x => x.1.lines.length ≤ maxRows) x) : p98 ((fun x => [.agg x.1.cells, .str x.2]) x) = some ((fun x => .tup [.agg (lnOf x.1.lines x.2).row, .bool (lnB x.1.lines x.2)]) x) := primOf_enc (by intro x y h; (obtain ⟨a, b⟩ := x; obtain ⟨c, d⟩ := y; simp only [List.cons.injEq, AV.agg.injEq, AV.str.injEq, true_and, and_true] at h; obtain ⟨h1, rfl⟩ := h; rw [Net.cells_inj _ _ h1])) x hp
noncomputable def PPG : FuncId → Option (List AV → Option AV) := addPrim 98 p98 (addPrim 180 p180 (addPrim 177 p177 (PPF)))
theorem primsG : PrimsOk NC PPG := primsOk_add (primsOk_add (primsOk_add (primsF) (by kernel_rfl) (by kernel_rfl) pok177) (by kernel_rfl) (by kernel_rfl) pok180) (by kernel_rfl) (by kernel_rfl) pok98
theorem enG_48 {rec : Rec} {lo : Nat} {args : List AV} {H : Heap} {K : AV → Heap → Prop} : VO (aenter (NC.withPrims PPG) rec lo 48 args H) K = AO (p48 args) fun v => K v H := enter_prim (by rfl) (by kernel_rfl)
theorem enG_121 {rec : Rec} {lo : Nat} {args : List AV} {H : Heap} {K : AV → Heap → Prop} : VO (aenter (NC.withPrims PPG) rec lo 121 args H) K = AO (p121 args) fun v => K v H := enter_prim (by rfl) (by kernel_rfl)
theorem enG_34 {rec : Rec} {lo : Nat} {args : List AV} {H : Heap} {K : AV → Heap → Prop} : VO (aenter (NC.withPrims PPG) rec lo 34 args H) K = AO (p34 args) fun v => K v H := enter_prim (by rfl) (by kernel_rfl)
theorem enG_111 {rec : Rec} {lo : Nat} {args : List AV} {H : Heap} {K : AV → Heap → Prop} : VO (aenter (NC.withPrims PPG) rec lo 111 args H) K = AO (p111 args) fun v => K v H := enter_prim (by rfl) (by kernel_rfl)
theorem enG_26 {rec : Rec} {lo : Nat} {args : List AV} {H : Heap} {K : AV → Heap → Prop} : VO (aenter (NC.withPrims PPG) rec lo 26 args H) K = AO (p26 args) fun v => K v H := enter_prim (by rfl) (by kernel_rfl)
theorem enG_178 {rec : Rec} {lo : Nat} {args : List AV} {H : Heap} {K : AV → Heap → Prop} : VO (aenter (NC.withPrims PPG) rec lo 178 args H) K = AO (p178 args) fun v => K v H := enter_prim (by rfl) (by kernel_rfl)
theorem enG_109 {rec : Rec} {lo : Nat} {args : List AV} {H : Heap} {K : AV → Heap → Prop} : VO (aenter (NC.withPrims PPG) rec lo 109 args H) K = AO (p109 args) fun v => K v H := enter_prim (by rfl) (by kernel_rfl)
theorem enG_108 {rec : Rec} {lo : Nat} {args : List AV} {H : Heap} {K : AV → Heap → Prop} : VO (aenter (NC.withPrims PPG) rec lo 108 args H) K = AO (p108 args) fun v => K v H := enter_prim (by rfl) (by kernel_rfl)
theorem enG_27 {rec : Rec} {lo : Nat} {args : List AV} {H : Heap} {K : AV → Heap → Prop} : VO (aenter (NC.withPrims PPG) rec lo 27 args H) K = AO (p27 args) fun v => K v H := enter_prim (by rfl) (by kernel_rfl)
theorem enG_97 {rec : Rec} {lo : Nat} {args : List AV} {H : Heap} {K : AV → Heap → Prop} : VO (aenter (NC.withPrims PPG) rec lo 97 args H) K = AO (p97 args) fun v => K v H := enter_prim (by rfl) (by kernel_rfl)
theorem enG_122 {rec : Rec} {lo : Nat} {args : List AV} {H : Heap} {K : AV → Heap → Prop} : VO (aenter (NC.withPrims PPG) rec lo 122 args H) K = AO (p122 args) fun v => K v H := enter_prim (by rfl) (by kernel_rfl)
theorem enG_182 {rec : Rec} {lo : Nat} {args : List AV} {H : Heap} {K : AV → Heap → Prop} : VO (aenter (NC.withPrims PPG) rec lo 182 args H) K = AO (p182 args) fun v => K v H := enter_prim (by rfl) (by kernel_rfl)
theorem enG_35 {rec : Rec} {lo : Nat} {args : List AV} {H : Heap} {K : AV → Heap → Prop} : VO (aenter (NC.withPrims PPG) rec lo 35 args H) K = AO (p35 args) fun v => K v H := enter_prim (by rfl) (by kernel_rfl)
theorem enG_115 {rec : Rec} {lo : Nat} {args : List AV} {H : Heap} {K : AV → Heap → Prop} : VO (aenter (NC.withPrims PPG) rec lo 115 args H) K = AO (p115 args) fun v => K v H := enter_prim (by rfl) (by kernel_rfl)
theorem enG_36 {rec : Rec} {lo : Nat} {args : List AV} {H : Heap} {K : AV → Heap → Prop} : VO (aenter (NC.withPrims PPG) rec lo 36 args H) K = AO (p36 args) fun v => K v H := enter_prim (by rfl) (by kernel_rfl)
theorem enG_120 {rec : Rec} {lo : Nat} {args : List AV} {H : Heap} {K : AV → Heap → Prop} : VO (aenter (NC.withPrims PPG) rec lo 120 args H) K = AO (p120 args) fun v => K v H := enter_prim (by rfl) (by kernel_rfl)
theorem enG_106 {rec : Rec} {lo : Nat} {args : List AV} {H : Heap} {K : AV → Heap → Prop} : VO (aenter (NC.withPrims PPG) rec lo 106 args H) K = AO (p106 args) fun v => K v H := enter_prim (by rfl) (by kernel_rfl)
theorem enG_179 {rec : Rec} {lo : Nat} {args : List AV} {H : Heap} {K : AV → Heap → Prop} : VO (aenter (NC.withPrims PPG) rec lo 179 args H) K = AO (p179 args) fun v => K v H := enter_prim (by rfl) (by kernel_rfl)
theorem enG_126 {rec : Rec} {lo : Nat} {args : List AV} {H : Heap} {K : AV → Heap → Prop} : VO (aenter (NC.withPrims PPG) rec lo 126 args H) K = AO (p126 args) fun v => K v H := enter_prim (by rfl) (by kernel_rfl)
theorem enG_103 {rec : Rec} {lo : Nat} {args : List AV} {H : Heap} {K : AV → Heap → Prop} : VO (aenter (NC.withPrims PPG) rec lo 103 args H) K = AO (p103 args) fun v => K v H := enter_prim (by rfl) (by kernel_rfl)
theorem enG_104 {rec : Rec} {lo : Nat} {args : List AV} {H : Heap} {K : AV → Heap → Prop} : VO (aenter (NC.withPrims PPG) rec lo 104 args H) K = AO (p104 args) fun v => K v H := enter_prim (by rfl) (by kernel_rfl)
theorem enG_105 {rec : Rec} {lo : Nat} {args : List AV} {H : Heap} {K : AV → Heap → Prop} : VO (aenter (NC.withPrims PPG) rec lo 105 args H) K = AO (p105 args) fun v => K v H := enter_prim (by rfl) (by kernel_rfl)
theorem enG_99 {rec : Rec} {lo : Nat} {args : List AV} {H : Heap} {K : AV → Heap → Prop} : VO (aenter (NC.withPrims PPG) rec lo 99 args H) K = AO (p99 args) fun v => K v H := enter_prim (by rfl) (by kernel_rfl)
theorem enG_226 {rec : Rec} {lo : Nat} {args : List AV} {H : Heap} {K : AV → Heap → Prop} : VO (aenter (NC.withPrims PPG) rec lo 226 args H) K = AO (p226 args) fun v => K v H := enter_prim (by rfl) (by kernel_rfl)
theorem enG_134 {rec : Rec} {lo : Nat} {args : List AV} {H : Heap} {K : AV → Heap → Prop} : VO (aenter (NC.withPrims PPG) rec lo 134 args H) K = AO (p134 args) fun v => K v H := enter_prim (by rfl) (by kernel_rfl)
theorem enG_177 {rec : Rec} {lo : Nat} {args : List AV} {H : Heap} {K : AV → Heap → Prop} : VO (aenter (NC.withPrims PPG) rec lo 177 args H) K = AO (p177 args) fun v => K v H := enter_prim (by rfl) (by kernel_rfl)
theorem enG_180 {rec : Rec} {lo : Nat} {args : List AV} {H : Heap} {K : AV → Heap → Prop} : VO (aenter (NC.withPrims PPG) rec lo 180 args H) K = AO (p180 args) fun v => K v H := enter_prim (by rfl) (by kernel_rfl)
theorem enG_98 {rec : Rec} {lo : Nat} {args : List AV} {H : Heap} {K : AV → Heap → Prop} : VO (aenter (NC.withPrims PPG) rec lo 98 args H) K = AO (p98 args) fun v => K v H := enter_prim (by rfl) (by kernel_rfl)
attribute [go_sem ↓] enG_48 enG_121 enG_34 enG_111 enG_26 enG_178 enG_109 enG_108 enG_27 enG_97 enG_122 enG_182
attribute [go_sem ↓] enG_35 enG_115 enG_36 enG_120 enG_106 enG_179 enG_126 enG_103 enG_104 enG_105 enG_99 enG_226
attribute [go_sem ↓] enG_134 enG_177 enG_180 enG_98
def spanB (l : Ln) (fr till : Int) : Bool := !decide (fr < till) || !hasB l fr || decide (sumW l.ps 0 < till)
theorem c183 (l : Ln) (fr till : Int) (hl : l.ps.length ≤ maxRows) : ∀ lo H, CallOk NC lo 183 [.agg l.row, .agg [i64 fr, i64 till]] H (i64 (whenI (spanB l fr till) 14)) H := by
  refine contract saneNC primsG (fn := Tryz.f183) (by kernel_rfl) Tryz.func183 rfl rfl (by rfl) (by rfl) ?_
  have e99 := pe99 l hl
  have e177 := pe177 (l, fr) hl
  simp only [Ln.row, i64] at e99 e177
  cases h1 : hasB l fr <;> rcases Classical.propComplete (fr < till) with h2 | h2 <;> rcases Classical.propComplete (sumW l.ps 0 < till) with h3 | h3 <;> simp only [h1] at e177 <;> simp only [go_sem, reduceIte, Nat.reduceEqDiff, Nat.reduceAdd, Nat.reduceMul, Nat.reduceSub, Nat.reduceLeDiff, Nat.reduceLT, Nat.reduceBEq, reduceCtorEq, Ln.row, e99, e177, e121, h1, h2, h3] <;> simp [spanB, h1, h2, h3]
/-! ### The errors of a list of pieces -/
theorem intRows_all (es : List Int) : (intRows es).all (fun r => decide (r.length = 1)) = true := by
  rw [List.all_eq_true]
  intro r hr
  obtain ⟨e, _, rfl⟩ := List.mem_map.1 hr
  rfl
theorem c181 (ps : List Pc) (hl : ps.length ≤ maxRows) : ∀ lo H, CallOk NC lo 181 [.ps .unk (ps.map Pc.row), .fn 180 [] []] H (.ps .unk (intRows (ps.map pieceP))) H := by
  refine contract saneNC primsG (fn := Tryz.f181) (by kernel_rfl) Tryz.func181 rfl rfl (by rfl) (by rfl) ?_
  simp only [go_sem, reduceIte, Nat.reduceEqDiff, Nat.reduceAdd, Nat.reduceMul, Nat.reduceSub, Nat.reduceLeDiff, Nat.reduceLT, Nat.reduceBEq, reduceCtorEq]
  refine W_for (fun k T H M => M = [] ∧ getT T 8 = .ps .unk (ps.map Pc.row) ∧ getT T 1 = .fn 180 [] [] ∧ getT T 9 = i64 (ps.length : Nat) ∧ getT T 10 = i64 k ∧ ((k = 0 ∧ getT T 5 = .ps .nil []) ∨ ∃ j, getT T 5 = .ps (.tok j) (intRows ((ps.take k).map pieceP)) ∧ 0 < k ∧ j < H.n ∧ H.get j = .row [] 1 33)) ps.length ?_ ?_ ?_
  · simp only [go_sem, reduceIte, Nat.reduceEqDiff, Nat.reduceAdd, Nat.reduceMul, Nat.reduceSub, Nat.reduceLeDiff, Nat.reduceLT, Nat.reduceBEq, reduceCtorEq, List.length_map]
  · rintro k T H M hk ⟨rfl, g8, g1, g9, g10, hap⟩
    obtain ⟨p, hp⟩ : ∃ p, ps[k]? = some p := ⟨ps[k], by simp⟩
    have hpr := map_at (f := Pc.row) hp
    have hw := wrap_succ hk hl
    have htk : ps.take (k + 1) = ps.take k ++ [p] := by rw [List.take_add_one, hp]; rfl
    obtain ⟨pl, pq, pb⟩ := p
    simp only [Pc.row] at hpr
    rcases hap with ⟨hk0, g5⟩ | ⟨j, g5, hk0, hjn, hj⟩
    · have ha := fun H => app_first (lo := 0) (H := H) (sz := 1) (e := 33) (rx := [[.int .i64 (pieceP ⟨pl, pq, pb⟩)]]) (by simp) (by show 1 ≤ 1073741824; decide) rfl (by decide)
      simp only [go_sem, reduceIte, Nat.reduceEqDiff, Nat.reduceAdd, Nat.reduceMul, Nat.reduceSub, Nat.reduceLeDiff, Nat.reduceLT, Nat.reduceBEq, reduceCtorEq, g8, g1, g9, g10, g5, List.length_map, hk, hpr, hw, op_callV (f := 180) (first := []) (caps := []), e180, appO, isIntT_slice, rowsIn, ha]
      refine .inr ⟨H.n + 1, ?_, by omega, by omega, by simp⟩
      rw [htk, hk0]; rfl
    · have hj1 : ((H.push (.cells [.int .i64 0, .int .i64 0, .bool false] 200)).set H.n (.cells [.int .i64 pl, .int .i64 pq, .bool pb] 200)).get j = .row [] 1 33 := by
        rw [Heap.get_set, if_neg (by omega), Heap.get_push, if_neg (by omega)]; exact hj
      have ha := app_next (lo := 0) (rows := intRows ((ps.take k).map pieceP)) (rx := [[.int .i64 (pieceP ⟨pl, pq, pb⟩)]]) (e := 33) (sz := 1) (by simp) (by simp [intRows]; omega) rfl (by decide) (intRows_all _) hj1 (Nat.zero_le _) (by simp [intRows]; refine ⟨by omega, ?_⟩; intro e; rw [e] at hk; simp at hk)
      simp only [go_sem, reduceIte, Nat.reduceEqDiff, Nat.reduceAdd, Nat.reduceMul, Nat.reduceSub, Nat.reduceLeDiff, Nat.reduceLT, Nat.reduceBEq, reduceCtorEq, g8, g1, g9, g10, g5, List.length_map, hk, hpr, hw, op_callV (f := 180) (first := []) (caps := []), e180, appO, isIntT_slice, rowsIn, ha]
      refine .inr ⟨H.n + 1, ?_, by omega, by omega, by simp⟩
      rw [htk]
      simp [intRows]
  · rintro T H M ⟨rfl, g8, g1, g9, g10, hap⟩
    rcases hap with ⟨h0, g5⟩ | ⟨j, g5, hk0, hjn, hj⟩
    · simp only [go_sem, reduceIte, Nat.reduceEqDiff, Nat.reduceAdd, Nat.reduceMul, Nat.reduceSub, Nat.reduceLeDiff, Nat.reduceLT, Nat.reduceBEq, reduceCtorEq, g8, g1, g9, g10, g5, Nat.lt_irrefl]
      rw [List.length_eq_zero_iff.1 h0]; rfl
    · simp only [go_sem, reduceIte, Nat.reduceEqDiff, Nat.reduceAdd, Nat.reduceMul, Nat.reduceSub, Nat.reduceLeDiff, Nat.reduceLT, Nat.reduceBEq, reduceCtorEq, g8, g1, g9, g10, g5, Nat.lt_irrefl, List.take_length]
noncomputable def p181 : List AV → Option AV := primOf (α := List Pc) (fun x => [.ps .unk (x.map Pc.row), .fn 180 [] []]) (fun x => x.length ≤ maxRows) (fun x => .ps .unk (intRows (x.map pieceP)))
theorem pok181 : ∀ args v, p181 args = some v → ∀ lo H, CallOk NC lo 181 args H v H := by
  intro args v h
  obtain ⟨x, rfl, hp, rfl⟩ := primOf_inv h
  clear h
  revert x
  intro x hx; exact c181 x hx
theorem pe181 (x : List Pc) (hp : (fun x => x.length ≤ maxRows) x) : p181 ((fun x => [.ps .unk (x.map Pc.row), .fn 180 [] []]) x) = some ((fun x => .ps .unk (intRows (x.map pieceP))) x) := primOf_enc (by intro x y h; (simp only [List.cons.injEq, AV.ps.injEq, and_true, true_and] at h; exact map_inj Pc.row_inj h)) x hp
noncomputable def p183 : List AV → Option AV := primOf (α := Ln × Int × Int) (fun x => [.agg x.1.row, .agg [i64 x.2.1, i64 x.2.2]]) (fun x => x.1.ps.length ≤ maxRows) (fun x => i64 (whenI (spanB x.1 x.2.1 x.2.2) 14))
theorem pok183 : ∀ args v, p183 args = some v → ∀ lo H, CallOk NC lo 183 args H v H := by
  intro args v h
  obtain ⟨x, rfl, hp, rfl⟩ := primOf_inv h
  clear h
  revert x
  intro x hx; exact c183 x.1 x.2.1 x.2.2 hx
theorem pe183 (x : Ln × Int × Int) (hp : (fun x => x.1.ps.length ≤ maxRows) x) : p183 ((fun x => [.agg x.1.row, .agg [i64 x.2.1, i64 x.2.2]]) x) = some ((fun x => i64 (whenI (spanB x.1 x.2.1 x.2.2) 14)) x) := primOf_enc (by intro x y h; (obtain ⟨a, b, c⟩ := x; obtain ⟨d, e, f⟩ := y; simp only [List.cons.injEq, AV.agg.injEq, AV.int.injEq, true_and, and_true] at h; obtain ⟨h1, rfl, rfl⟩ := h; rw [Ln.row_inj _ _ h1])) x hp
noncomputable def PPH : FuncId → Option (List AV → Option AV) := addPrim 183 p183 (addPrim 181 p181 (PPG))
theorem primsH : PrimsOk NC PPH := primsOk_add (primsOk_add (primsG) (by kernel_rfl) (by kernel_rfl) pok181) (by kernel_rfl) (by kernel_rfl) pok183
theorem enH_48 {rec : Rec} {lo : Nat} {args : List AV} {H : Heap} {K : AV → Heap → Prop} : VO (aenter (NC.withPrims PPH) rec lo 48 args H) K = AO (p48 args) fun v => K v H := enter_prim (by rfl) (by kernel_rfl)
theorem enH_121 {rec : Rec} {lo : Nat} {args : List AV} {H : Heap} {K : AV → Heap → Prop} : VO (aenter (NC.withPrims PPH) rec lo 121 args H) K = AO (p121 args) fun v => K v H := enter_prim (by rfl) (by kernel_rfl)
theorem enH_34 {rec : Rec} {lo : Nat} {args : List AV} {H : Heap} {K : AV → Heap → Prop} : VO (aenter (NC.withPrims PPH) rec lo 34 args H) K = AO (p34 args) fun v => K v H := enter_prim (by rfl) (by kernel_rfl)
theorem enH_111 {rec : Rec} {lo : Nat} {args : List AV} {H : Heap} {K : AV → Heap → Prop} : VO (aenter (NC.withPrims PPH) rec lo 111 args H) K = AO (p111 args) fun v => K v H := enter_prim (by rfl) (by kernel_rfl)
theorem enH_26 {rec : Rec} {lo : Nat} {args : List AV} {H : Heap} {K : AV → Heap → Prop} : VO (aenter (NC.withPrims PPH) rec lo 26 args H) K = AO (p26 args) fun v => K v H := enter_prim (by rfl) (by kernel_rfl)
theorem enH_178 {rec : Rec} {lo : Nat} {args : List AV} {H : Heap} {K : AV → Heap → Prop} : VO (aenter (NC.withPrims PPH) rec lo 178 args H) K = AO (p178 args) fun v => K v H := enter_prim (by rfl) (by kernel_rfl)
theorem enH_109 {rec : Rec} {lo : Nat} {args : List AV} {H : Heap} {K : AV → Heap → Prop} : VO (aenter (NC.withPrims PPH) rec lo 109 args H) K = AO (p109 args) fun v => K v H := enter_prim (by rfl) (by kernel_rfl)
theorem enH_108 {rec : Rec} {lo : Nat} {args : List AV} {H : Heap} {K : AV → Heap → Prop} : VO (aenter (NC.withPrims PPH) rec lo 108 args H) K = AO (p108 args) fun v => K v H := enter_prim (by rfl) (by kernel_rfl)
theorem enH_27 {rec : Rec} {lo : Nat} {args : List AV} {H : Heap} {K : AV → Heap → Prop} : VO (aenter (NC.withPrims PPH) rec lo 27 args H) K = AO (p27 args) fun v => K v H := enter_prim (by rfl) (by kernel_rfl)
theorem enH_97 {rec : Rec} {lo : Nat} {args : List AV} {H : Heap} {K : AV → Heap → Prop} : VO (aenter (NC.withPrims PPH) rec lo 97 args H) K = AO (p97 args) fun v => K v H := enter_prim (by rfl) (by kernel_rfl)
theorem enH_122 {rec : Rec} {lo : Nat} {args : List AV} {H : Heap} {K : AV → Heap → Prop} : VO (aenter (NC.withPrims PPH) rec lo 122 args H) K = AO (p122 args) fun v => K v H := enter_prim (by rfl) (by kernel_rfl)
theorem enH_182 {rec : Rec} {lo : Nat} {args : List AV} {H : Heap} {K : AV → Heap → Prop} : VO (aenter (NC.withPrims PPH) rec lo 182 args H) K = AO (p182 args) fun v => K v H := enter_prim (by rfl) (by kernel_rfl)
theorem enH_35 {rec : Rec} {lo : Nat} {args : List AV} {H : Heap} {K : AV → Heap → Prop} : VO (aenter (NC.withPrims PPH) rec lo 35 args H) K = AO (p35 args) fun v => K v H := enter_prim (by rfl) (by kernel_rfl)
theorem enH_115 {rec : Rec} {lo : Nat} {args : List AV} {H : Heap} {K : AV → Heap → Prop} : VO (aenter (NC.withPrims PPH) rec lo 115 args H) K = AO (p115 args) fun v => K v H := enter_prim (by rfl) (by kernel_rfl)
theorem enH_36 {rec : Rec} {lo : Nat} {args : List AV} {H : Heap} {K : AV → Heap → Prop} : VO (aenter (NC.withPrims PPH) rec lo 36 args H) K = AO (p36 args) fun v => K v H := enter_prim (by rfl) (by kernel_rfl)
theorem enH_120 {rec : Rec} {lo : Nat} {args : List AV} {H : Heap} {K : AV → Heap → Prop} : VO (aenter (NC.withPrims PPH) rec lo 120 args H) K = AO (p120 args) fun v => K v H := enter_prim (by rfl) (by kernel_rfl)
theorem enH_106 {rec : Rec} {lo : Nat} {args : List AV} {H : Heap} {K : AV → Heap → Prop} : VO (aenter (NC.withPrims PPH) rec lo 106 args H) K = AO (p106 args) fun v => K v H := enter_prim (by rfl) (by kernel_rfl)
theorem enH_179 {rec : Rec} {lo : Nat} {args : List AV} {H : Heap} {K : AV → Heap → Prop} : VO (aenter (NC.withPrims PPH) rec lo 179 args H) K = AO (p179 args) fun v => K v H := enter_prim (by rfl) (by kernel_rfl)
theorem enH_126 {rec : Rec} {lo : Nat} {args : List AV} {H : Heap} {K : AV → Heap → Prop} : VO (aenter (NC.withPrims PPH) rec lo 126 args H) K = AO (p126 args) fun v => K v H := enter_prim (by rfl) (by kernel_rfl)
theorem enH_103 {rec : Rec} {lo : Nat} {args : List AV} {H : Heap} {K : AV → Heap → Prop} : VO (aenter (NC.withPrims PPH) rec lo 103 args H) K = AO (p103 args) fun v => K v H := enter_prim (by rfl) (by kernel_rfl)
theorem enH_104 {rec : Rec} {lo : Nat} {args : List AV} {H : Heap} {K : AV → Heap → Prop} : VO (aenter (NC.withPrims PPH) rec lo 104 args H) K = AO (p104 args) fun v => K v H := enter_prim (by rfl) (by kernel_rfl)
theorem enH_105 {rec : Rec} {lo : Nat} {args : List AV} {H : Heap} {K : AV → Heap → Prop} : VO (aenter (NC.withPrims PPH) rec lo 105 args H) K = AO (p105 args) fun v => K v H := enter_prim (by rfl) (by kernel_rfl)
theorem enH_99 {rec : Rec} {lo : Nat} {args : List AV} {H : Heap} {K : AV → Heap → Prop} : VO (aenter (NC.withPrims PPH) rec lo 99 args H) K = AO (p99 args) fun v => K v H := enter_prim (by rfl) (by kernel_rfl)
theorem enH_226 {rec : Rec} {lo : Nat} {args : List AV} {H : Heap} {K : AV → Heap → Prop} : VO (aenter (NC.withPrims PPH) rec lo 226 args H) K = AO (p226 args) fun v => K v H := enter_prim (by rfl) (by kernel_rfl)
theorem enH_134 {rec : Rec} {lo : Nat} {args : List AV} {H : Heap} {K : AV → Heap → Prop} : VO (aenter (NC.withPrims PPH) rec lo 134 args H) K = AO (p134 args) fun v => K v H := enter_prim (by rfl) (by kernel_rfl)
theorem enH_177 {rec : Rec} {lo : Nat} {args : List AV} {H : Heap} {K : AV → Heap → Prop} : VO (aenter (NC.withPrims PPH) rec lo 177 args H) K = AO (p177 args) fun v => K v H := enter_prim (by rfl) (by kernel_rfl)
theorem enH_180 {rec : Rec} {lo : Nat} {args : List AV} {H : Heap} {K : AV → Heap → Prop} : VO (aenter (NC.withPrims PPH) rec lo 180 args H) K = AO (p180 args) fun v => K v H := enter_prim (by rfl) (by kernel_rfl)
theorem enH_98 {rec : Rec} {lo : Nat} {args : List AV} {H : Heap} {K : AV → Heap → Prop} : VO (aenter (NC.withPrims PPH) rec lo 98 args H) K = AO (p98 args) fun v => K v H := enter_prim (by rfl) (by kernel_rfl)
theorem enH_181 {rec : Rec} {lo : Nat} {args : List AV} {H : Heap} {K : AV → Heap → Prop} : VO (aenter (NC.withPrims PPH) rec lo 181 args H) K = AO (p181 args) fun v => K v H := enter_prim (by rfl) (by kernel_rfl)
theorem enH_183 {rec : Rec} {lo : Nat} {args : List AV} {H : Heap} {K : AV → Heap → Prop} : VO (aenter (NC.withPrims PPH) rec lo 183 args H) K = AO (p183 args) fun v => K v H := enter_prim (by rfl) (by kernel_rfl)
attribute [go_sem ↓] enH_48 enH_121 enH_34 enH_111 enH_26 enH_178 enH_109 enH_108 enH_27 enH_97 enH_122 enH_182
attribute [go_sem ↓] enH_35 enH_115 enH_36 enH_120 enH_106 enH_179 enH_126 enH_103 enH_104 enH_105 enH_99 enH_226
attribute [go_sem ↓] enH_134 enH_177 enH_180 enH_98 enH_181 enH_183
def nameMap (l : List (List Nat)) : List (AV × AV) := l.map fun s => (.str s, .bool true)
theorem aeq9 (a b : List Nat) : aeqT NC.P 100 9 (.str a) (.str b) = some (beqL a b) := by
  have h : NC.P.underlying 9 = some .string := un_9
  unfold aeqT
  simp only [h]
theorem keyOk9 (s : List Nat) : keyOk NC.P 9 (.str s) = true := by
  unfold keyOk
  rw [aeq9]
  have : beqL s s = true := by
    induction s with
    | nil => rfl
    | cons a r ih => simp [beqL, ih]
  rw [this]
  have h : eqType NC.P 100 9 = true := by kernel_rfl
  rw [h]; rfl
theorem afind9 (s : List Nat) : ∀ (l : List (List Nat)) (i : Nat), (l.any (beqL s) = true → ∃ j k, afind NC.P 9 (.str s) (nameMap l) i = some (some (j, k, .bool true))) ∧ (l.any (beqL s) = false → afind NC.P 9 (.str s) (nameMap l) i = some none)
  | [], i => ⟨fun h => by simp at h, fun _ => rfl⟩
  | a :: r, i => by
    have ih := afind9 s r (i + 1)
    have hu : afind NC.P 9 (.str s) (nameMap (a :: r)) i = match aeqT NC.P 100 9 (.str s) (.str a) with
        | some true => some (some (i, .str a, .bool true))
        | some false => afind NC.P 9 (.str s) (nameMap r) (i + 1)
        | none => none := rfl
    rw [hu, aeq9]
    cases hb : beqL s a with
    | true => exact ⟨fun _ => ⟨_, _, rfl⟩, fun h => by simp [hb] at h⟩
    | false => simp only [List.any_cons, hb, Bool.false_or]; exact ih
theorem look9 {H : Heap} {m : Nat} {l : List (List Nat)} (h : H.get m = .map (nameMap l)) (s : List Nat) : alookup NC.P H 310 (.map m) (.str s) false = some (.bool (l.any (beqL s))) := by
  unfold alookup
  have hu : NC.P.underlying 310 = some (.map 9 4) := un_310
  have hz : zeroOf NC.P 4 = some (.bool false) := ze_4
  simp only [hu, keyOk9, if_true, hz, mapEntries, h]
  obtain ⟨h1, h2⟩ := afind9 s l 0
  cases hb : l.any (beqL s) with
  | true =>
    obtain ⟨j, k, e⟩ := h1 hb
    rw [e]; rfl
  | false => rw [h2 hb]; rfl
theorem upd9 {lo : Nat} {H : Heap} {m : Nat} {l : List (List Nat)} (h : H.get m = .map (nameMap l)) (hlo : lo ≤ m) (s : List Nat) (hs : l.any (beqL s) = false) : amapUpdate NC.P lo H 310 (.map m) (.str s) (.bool true) = some (H.set m (.map (nameMap (l ++ [s])))) := by
  unfold amapUpdate
  have hu : NC.P.underlying 310 = some (.map 9 4) := un_310
  obtain ⟨_, h2⟩ := afind9 s l 0
  simp only [hu, keyOk9, hlo, decide_true, Bool.and_self, if_true, h, h2 hs]
  simp [nameMap, AV.strip]
end Go.Sim

/-
The program: CheckNetwork, its parts.
-/
namespace Go.Sim
open Go Go.Proofs
set_option maxRecDepth 100000
set_option maxHeartbeats 8000000
theorem first4 (a b c d : Int) : firstI [a, b, c, d] = 0 → a = 0 ∧ b = 0 ∧ c = 0 ∧ d = 0 := by
  simp only [firstI]; split <;> (try split) <;> (try split) <;> (try split) <;> simp_all
def dupP (l : List (List Nat)) (s : List Nat) : Bool := l.any (beqL s)
def lineP (ls : List Ln) (i : Nat) : Int := match ls[i]? with
  | none => 0
  | some l =>
    let e := firstI [whenI (!nameB l.name) 8, whenI (dupP ((ls.take i).map Ln.name) l.name) 9, whenI (decide ((l.ps.length : Int) = 0)) 12, whenI (decide ((8 : Int) < l.ps.length)) 5]
    if e = 0 then firstI (l.ps.map pieceP) else e
def linesP (ls : List Ln) : Int := if (8 : Int) < ls.length then 5 else allR (lineP ls) ls.length
theorem c110 (ls : List Ln) (hl : ls.length ≤ maxRows) (hn : ∀ l ∈ ls, l.name.length ≤ maxRows ∧ l.ps.length ≤ maxRows) : ∀ lo H, CallOk NC lo 110 [.ps .unk (ls.map Ln.row)] H (i64 (linesP ls)) H := by
  refine contract saneNC primsH (fn := Tryz.f110) (by kernel_rfl) Tryz.func110 rfl rfl (by rfl) (by rfl) ?_
  rcases Classical.propComplete ((8 : Int) < ls.length) with q1 | q1
  · simp only [go_sem, reduceIte, Nat.reduceEqDiff, Nat.reduceAdd, Nat.reduceMul, Nat.reduceSub, Nat.reduceLeDiff, Nat.reduceLT, Nat.reduceBEq, reduceCtorEq, List.length_map, q1]
    simp [linesP, q1]
  simp only [go_sem, reduceIte, Nat.reduceEqDiff, Nat.reduceAdd, Nat.reduceMul, Nat.reduceSub, Nat.reduceLeDiff, Nat.reduceLT, Nat.reduceBEq, reduceCtorEq, List.length_map, q1]
  refine W_for (fun k T H M => M = [] ∧ getT T 13 = .ps .unk (ls.map Ln.row) ∧ getT T 14 = i64 (ls.length : Nat) ∧ getT T 15 = i64 k ∧ getT T 3 = .map 0 ∧ getT T 4 = .fn 180 [] [] ∧ H.get 0 = .map (nameMap ((ls.take k).map Ln.name)) ∧ 0 < H.n ∧ allR (lineP ls) ls.length = firstI (((List.range ls.length).map (lineP ls)).drop k)) ls.length ?_ ?_ ?_
  · simp only [go_sem, reduceIte, Nat.reduceEqDiff, Nat.reduceAdd, Nat.reduceMul, Nat.reduceSub, Nat.reduceLeDiff, Nat.reduceLT, Nat.reduceBEq, reduceCtorEq, List.length_map]; exact ⟨rfl, rfl⟩
  · rintro k T H M hk ⟨rfl, g13, g14, g15, g3, g4, gH, hn0, hf⟩
    obtain ⟨l, hp⟩ : ∃ p, ls[k]? = some p := ⟨ls[k], by simp⟩
    have hmem := List.mem_of_getElem? hp
    have hr := map_at (f := Ln.row) hp
    have hw := wrap_succ hk hl
    have hfd := allR_step (f := lineP ls) hk
    have htk : (ls.take (k + 1)).map Ln.name = (ls.take k).map Ln.name ++ [l.name] := by rw [List.take_add_one, hp]; simp
    simp only [Ln.row] at hr
    have e120' := e120 l.name (hn l hmem).1
    have e181' := pe181 l.ps (hn l hmem).2
    have e111' := pe111 (l.ps.map pieceP) (by simpa using (hn l hmem).2)
    have h0n : (0 = H.n) = False := by simp; omega
    have h0l : (0 < H.n + 1) = True := by simp
    have hHx : ((H.push (.cells [.str [], .ps .nil []] 196)).set H.n (.cells [.str l.name, .ps .unk (l.ps.map Pc.row)] 196)).get 0 = .map (nameMap ((ls.take k).map Ln.name)) := by
      rw [Heap.get_set, if_neg (by omega), Heap.get_push, if_neg (by omega)]; exact gH
    have hlk := look9 hHx l.name
    generalize hE : firstI [whenI (!nameB l.name) 8, whenI (dupP ((ls.take k).map Ln.name) l.name) 9, whenI (decide ((l.ps.length : Int) = 0)) 12, whenI (decide ((8 : Int) < l.ps.length)) 5] = E
    have hsp : lineP ls k = if E = 0 then firstI (l.ps.map pieceP) else E := by
      unfold lineP
      simp only [hp, hE]
    unfold dupP at hE
    rcases Classical.propComplete (E = 0) with z | z
    · have hdup : ((ls.take k).map Ln.name).any (beqL l.name) = false := by
        have := (first4 _ _ _ _ (hE.trans (of_eq_true z))).2.1
        cases hd : ((ls.take k).map Ln.name).any (beqL l.name) with
        | false => rfl
        | true => rw [hd] at this; simp [whenI] at this
      have hup := upd9 hHx (Nat.zero_le 0) l.name hdup
      rcases Classical.propComplete (firstI (l.ps.map pieceP) = 0) with z2 | z2
      · simp only [go_sem, reduceIte, Nat.reduceEqDiff, Nat.reduceAdd, Nat.reduceMul, Nat.reduceSub, Nat.reduceLeDiff, Nat.reduceLT, Nat.reduceBEq, reduceCtorEq, g13, g14, g15, g3, g4, List.length_map, hk, hr, hw, h0l, e120', hlk, e121, e111_4, hE, z, e181', e111', z2, hup]
        rw [htk]
        refine ⟨rfl, ?_⟩
        simp [hf, hfd, hsp, z, z2]
      · simp only [go_sem, reduceIte, Nat.reduceEqDiff, Nat.reduceAdd, Nat.reduceMul, Nat.reduceSub, Nat.reduceLeDiff, Nat.reduceLT, Nat.reduceBEq, reduceCtorEq, g13, g14, g15, g3, g4, List.length_map, hk, hr, hw, h0l, e120', hlk, e121, e111_4, hE, z, e181', e111', z2]
        simp [linesP, q1, hf, hfd, hsp, z, z2]
    · simp only [go_sem, reduceIte, Nat.reduceEqDiff, Nat.reduceAdd, Nat.reduceMul, Nat.reduceSub, Nat.reduceLeDiff, Nat.reduceLT, Nat.reduceBEq, reduceCtorEq, g13, g14, g15, g3, g4, List.length_map, hk, hr, hw, h0l, e120', hlk, e121, e111_4, hE, z]
      simp [linesP, q1, hf, hfd, hsp, z]
  · rintro T H M ⟨rfl, g13, g14, g15, g3, g4, gH, hn0, hf⟩
    rw [allR_end] at hf
    simp only [go_sem, reduceIte, Nat.reduceEqDiff, Nat.reduceAdd, Nat.reduceMul, Nat.reduceSub, Nat.reduceLeDiff, Nat.reduceLT, Nat.reduceBEq, reduceCtorEq, g13, g14, g15, List.length_map, Nat.lt_irrefl]
    simp [linesP, q1, hf]
/-! ### Switches -/
theorem lnOf_fits {ls : List Ln} {s : List Nat} (h : ∀ l ∈ ls, l.ps.length ≤ maxRows) : (lnOf ls s).ps.length ≤ maxRows := by
  unfold lnOf
  cases hf : findL ls s with
  | none => simp
  | some i =>
    obtain ⟨l, hl, _, hm⟩ := findL_at hf
    simp only [List.getD_eq_getElem?_getD, hl, Option.getD_some]
    exact h l hm
theorem first6 (a b c d e f : Int) : firstI [a, b, c, d, e, f] = 0 → b = 0 := by
  simp only [firstI]; split <;> (try split) <;> simp_all
theorem first5 (a b c d e : Int) : firstI [a, b, c, d, e] = 0 → b = 0 := by
  simp only [firstI]; split <;> (try split) <;> simp_all
def switchP (n : Net) (i : Nat) : Int := match n.sws[i]? with
  | none => 0
  | some s => firstI [whenI (!nameB s.name) 8, whenI (dupP ((n.sws.take i).map Sw.name) s.name) 9, whenI (!lnB n.lines s.line) 10, whenI (!hasB (lnOf n.lines s.line) s.metre) 14, whenI (!lnB n.lines s.other) 10, whenI (beqL s.line s.other) 24]
def switchesP (n : Net) : Int := if (8 : Int) < n.sws.length then 5 else allR (switchP n) n.sws.length
theorem c112 (n : Net) (hl : n.lines.length ≤ maxRows) (hps : ∀ l ∈ n.lines, l.ps.length ≤ maxRows) (hs : n.sws.length ≤ maxRows) (hn : ∀ s ∈ n.sws, s.name.length ≤ maxRows) : ∀ lo H, CallOk NC lo 112 [.agg n.cells] H (i64 (switchesP n)) H := by
  refine contract saneNC primsH (fn := Tryz.f112) (by kernel_rfl) Tryz.func112 rfl rfl (by rfl) (by rfl) ?_
  rcases Classical.propComplete ((8 : Int) < n.sws.length) with q1 | q1
  · simp only [go_sem, reduceIte, Nat.reduceEqDiff, Nat.reduceAdd, Nat.reduceMul, Nat.reduceSub, Nat.reduceLeDiff, Nat.reduceLT, Nat.reduceBEq, reduceCtorEq, Net.cells, List.length_map, q1]
    simp [switchesP, q1]
  simp only [go_sem, reduceIte, Nat.reduceEqDiff, Nat.reduceAdd, Nat.reduceMul, Nat.reduceSub, Nat.reduceLeDiff, Nat.reduceLT, Nat.reduceBEq, reduceCtorEq, Net.cells, List.length_map, q1]
  refine W_for (fun k T H M => M = [] ∧ getT T 1 = .ptr 0 0 ∧ H.get 0 = .cells n.cells 40 ∧ getT T 17 = .ps .unk (n.sws.map Sw.row) ∧ getT T 18 = i64 (n.sws.length : Nat) ∧ getT T 19 = i64 k ∧ getT T 3 = .map 1 ∧ H.get 1 = .map (nameMap ((n.sws.take k).map Sw.name)) ∧ 1 < H.n ∧ allR (switchP n) n.sws.length = firstI (((List.range n.sws.length).map (switchP n)).drop k)) n.sws.length ?_ ?_ ?_
  · simp only [go_sem, reduceIte, Nat.reduceEqDiff, Nat.reduceAdd, Nat.reduceMul, Nat.reduceSub, Nat.reduceLeDiff, Nat.reduceLT, Nat.reduceBEq, reduceCtorEq, List.length_map, Net.cells]; exact ⟨rfl, rfl⟩
  · rintro k T H M hk ⟨rfl, g1, gH0, g17, g18, g19, g3, gH, hn0, hf⟩
    obtain ⟨s, hp⟩ : ∃ p, n.sws[k]? = some p := ⟨n.sws[k], by simp⟩
    have hmem := List.mem_of_getElem? hp
    have hr := map_at (f := Sw.row) hp
    have hw := wrap_succ hk hs
    have hfd := allR_step (f := switchP n) hk
    have htk : (n.sws.take (k + 1)).map Sw.name = (n.sws.take k).map Sw.name ++ [s.name] := by rw [List.take_add_one, hp]; simp
    simp only [Sw.row] at hr
    have e120' := e120 s.name (hn s hmem)
    have e98a := pe98 (n, s.line) hl
    have e98b := pe98 (n, s.other) hl
    have e177' := pe177 (lnOf n.lines s.line, s.metre) (lnOf_fits hps)
    simp only [Net.cells, Ln.row, i64] at e98a e98b e177'
    have b0 : (0 = H.n) = False := by simp; omega
    have b1 : (1 = H.n) = False := by simp; omega
    have b00 : (0 = H.n + 1) = False := by simp
    have b01 : (0 = H.n + 1 + 1) = False := by simp
    have b10 : (1 = H.n + 1) = False := by simp; omega
    have b11 : (1 = H.n + 1 + 1) = False := by simp
    have b2 : (H.n = H.n + 1) = False := by simp
    have b3 : (H.n = H.n + 1 + 1) = False := by simp; omega
    have b4 : (H.n + 1 = H.n + 1 + 1) = False := by simp
    have b5 : (1 < H.n + 1 + 1 + 1) = True := by simp
    generalize hE : firstI [whenI (!nameB s.name) 8, whenI (dupP ((n.sws.take k).map Sw.name) s.name) 9, whenI (!lnB n.lines s.line) 10, whenI (!hasB (lnOf n.lines s.line) s.metre) 14, whenI (!lnB n.lines s.other) 10, whenI (beqL s.line s.other) 24] = E
    have hsp : switchP n k = E := by
      unfold switchP
      simp only [hp, hE]
    unfold dupP at hE
    have hlk : ∀ H2 : Heap, H2.get 1 = .map (nameMap ((n.sws.take k).map Sw.name)) → alookup NC.P H2 310 (.map 1) (.str s.name) false = some (.bool (((n.sws.take k).map Sw.name).any (beqL s.name))) := fun H2 h2 => look9 h2 s.name
    rcases Classical.propComplete (E = 0) with z | z
    · have hdup : ((n.sws.take k).map Sw.name).any (beqL s.name) = false := by
        have := first6 _ _ _ _ _ _ (hE.trans (of_eq_true z))
        cases hd : ((n.sws.take k).map Sw.name).any (beqL s.name) with
        | false => rfl
        | true => rw [hd] at this; simp [whenI] at this
      have hup : ∀ H2 : Heap, H2.get 1 = .map (nameMap ((n.sws.take k).map Sw.name)) → amapUpdate NC.P 0 H2 310 (.map 1) (.str s.name) (.bool true) = some (H2.set 1 (.map (nameMap ((n.sws.take k).map Sw.name ++ [s.name])))) := fun H2 h2 => upd9 h2 (Nat.zero_le 1) s.name hdup
      simp only [go_sem, reduceIte, Nat.reduceEqDiff, Nat.reduceAdd, Nat.reduceMul, Nat.reduceSub, Nat.reduceLeDiff, Nat.reduceLT, Nat.reduceBEq, reduceCtorEq, g1, gH0, g17, g18, g19, g3, gH, Net.cells, Ln.row, List.length_map, hk, hr, hw, b0, b1, b00, b01, b10, b11, b2, b3, b4, b5, e120', e98a, e98b, e177', hlk, e121, e111_6, hE, z, hup]
      rw [htk]
      refine ⟨rfl, ?_⟩
      simp [hf, hfd, hsp, z]
    · simp only [go_sem, reduceIte, Nat.reduceEqDiff, Nat.reduceAdd, Nat.reduceMul, Nat.reduceSub, Nat.reduceLeDiff, Nat.reduceLT, Nat.reduceBEq, reduceCtorEq, g1, gH0, g17, g18, g19, g3, gH, Net.cells, Ln.row, List.length_map, hk, hr, hw, b0, b1, b00, b01, b10, b11, b2, b3, b4, b5, e120', e98a, e98b, e177', hlk, e121, e111_6, hE, z]
      simp [switchesP, q1, hf, hfd, hsp, z]
  · rintro T H M ⟨rfl, g1, gH0, g17, g18, g19, g3, gH, hn0, hf⟩
    rw [allR_end] at hf
    simp only [go_sem, reduceIte, Nat.reduceEqDiff, Nat.reduceAdd, Nat.reduceMul, Nat.reduceSub, Nat.reduceLeDiff, Nat.reduceLT, Nat.reduceBEq, reduceCtorEq, g17, g18, g19, List.length_map, Nat.lt_irrefl]
    simp [switchesP, q1, hf]
/-! ### Structures -/
def structP (n : Net) (i : Nat) : Int := match n.sts[i]? with
  | none => 0
  | some s => firstI [whenI (!nameB s.name) 8, whenI (dupP ((n.sts.take i).map Stc.name) s.name) 9, whenI (!nameB s.kind) 13, whenI (!lnB n.lines s.line) 10, whenI (spanB (lnOf n.lines s.line) s.fr s.till) 14]
def structsP (n : Net) : Int := if (16 : Int) < n.sts.length then 5 else allR (structP n) n.sts.length
theorem c113 (n : Net) (hl : n.lines.length ≤ maxRows) (hps : ∀ l ∈ n.lines, l.ps.length ≤ maxRows) (hs : n.sts.length ≤ maxRows) (hn : ∀ s ∈ n.sts, s.name.length ≤ maxRows ∧ s.kind.length ≤ maxRows) : ∀ lo H, CallOk NC lo 113 [.agg n.cells] H (i64 (structsP n)) H := by
  refine contract saneNC primsH (fn := Tryz.f113) (by kernel_rfl) Tryz.func113 rfl rfl (by rfl) (by rfl) ?_
  rcases Classical.propComplete ((16 : Int) < n.sts.length) with q1 | q1
  · simp only [go_sem, reduceIte, Nat.reduceEqDiff, Nat.reduceAdd, Nat.reduceMul, Nat.reduceSub, Nat.reduceLeDiff, Nat.reduceLT, Nat.reduceBEq, reduceCtorEq, Net.cells, List.length_map, q1]
    simp [structsP, q1]
  simp only [go_sem, reduceIte, Nat.reduceEqDiff, Nat.reduceAdd, Nat.reduceMul, Nat.reduceSub, Nat.reduceLeDiff, Nat.reduceLT, Nat.reduceBEq, reduceCtorEq, Net.cells, List.length_map, q1]
  refine W_for (fun k T H M => M = [] ∧ getT T 1 = .ptr 0 0 ∧ H.get 0 = .cells n.cells 40 ∧ getT T 15 = .ps .unk (n.sts.map Stc.row) ∧ getT T 16 = i64 (n.sts.length : Nat) ∧ getT T 17 = i64 k ∧ getT T 3 = .map 1 ∧ H.get 1 = .map (nameMap ((n.sts.take k).map Stc.name)) ∧ 1 < H.n ∧ allR (structP n) n.sts.length = firstI (((List.range n.sts.length).map (structP n)).drop k)) n.sts.length ?_ ?_ ?_
  · simp only [go_sem, reduceIte, Nat.reduceEqDiff, Nat.reduceAdd, Nat.reduceMul, Nat.reduceSub, Nat.reduceLeDiff, Nat.reduceLT, Nat.reduceBEq, reduceCtorEq, List.length_map, Net.cells]; exact ⟨rfl, rfl⟩
  · rintro k T H M hk ⟨rfl, g1, gH0, g17, g18, g19, g3, gH, hn0, hf⟩
    obtain ⟨s, hp⟩ : ∃ p, n.sts[k]? = some p := ⟨n.sts[k], by simp⟩
    have hmem := List.mem_of_getElem? hp
    have hr := map_at (f := Stc.row) hp
    have hw := wrap_succ hk hs
    have hfd := allR_step (f := structP n) hk
    have htk : (n.sts.take (k + 1)).map Stc.name = (n.sts.take k).map Stc.name ++ [s.name] := by rw [List.take_add_one, hp]; simp
    simp only [Stc.row] at hr
    have e120' := e120 s.name (hn s hmem).1
    have e182' := e182 s.kind (hn s hmem).2
    have e98a := pe98 (n, s.line) hl
    have e183' := pe183 (lnOf n.lines s.line, s.fr, s.till) (lnOf_fits hps)
    simp only [Net.cells, Ln.row, i64] at e98a e183'
    have b0 : (0 = H.n) = False := by simp; omega
    have b1 : (1 = H.n) = False := by simp; omega
    have b00 : (0 = H.n + 1) = False := by simp
    have b10 : (1 = H.n + 1) = False := by simp; omega
    have b2 : (H.n = H.n + 1) = False := by simp
    have b5 : (1 < H.n + 1 + 1) = True := by simp
    generalize hE : firstI [whenI (!nameB s.name) 8, whenI (dupP ((n.sts.take k).map Stc.name) s.name) 9, whenI (!nameB s.kind) 13, whenI (!lnB n.lines s.line) 10, whenI (spanB (lnOf n.lines s.line) s.fr s.till) 14] = E
    have hsp : structP n k = E := by
      unfold structP
      simp only [hp, hE]
    unfold dupP at hE
    have hlk : ∀ H2 : Heap, H2.get 1 = .map (nameMap ((n.sts.take k).map Stc.name)) → alookup NC.P H2 310 (.map 1) (.str s.name) false = some (.bool (((n.sts.take k).map Stc.name).any (beqL s.name))) := fun H2 h2 => look9 h2 s.name
    rcases Classical.propComplete (E = 0) with z | z
    · have hdup : ((n.sts.take k).map Stc.name).any (beqL s.name) = false := by
        have := first5 _ _ _ _ _ (hE.trans (of_eq_true z))
        cases hd : ((n.sts.take k).map Stc.name).any (beqL s.name) with
        | false => rfl
        | true => rw [hd] at this; simp [whenI] at this
      have hup : ∀ H2 : Heap, H2.get 1 = .map (nameMap ((n.sts.take k).map Stc.name)) → amapUpdate NC.P 0 H2 310 (.map 1) (.str s.name) (.bool true) = some (H2.set 1 (.map (nameMap ((n.sts.take k).map Stc.name ++ [s.name])))) := fun H2 h2 => upd9 h2 (Nat.zero_le 1) s.name hdup
      simp only [go_sem, reduceIte, Nat.reduceEqDiff, Nat.reduceAdd, Nat.reduceMul, Nat.reduceSub, Nat.reduceLeDiff, Nat.reduceLT, Nat.reduceBEq, reduceCtorEq, g1, gH0, g17, g18, g19, g3, gH, Net.cells, Ln.row, List.length_map, hk, hr, hw, b0, b1, b00, b10, b2, b5, e120', e182', e98a, e183', hlk, e121, e111_5, hE, z, hup]
      rw [htk]
      refine ⟨rfl, ?_⟩
      simp [hf, hfd, hsp, z]
    · simp only [go_sem, reduceIte, Nat.reduceEqDiff, Nat.reduceAdd, Nat.reduceMul, Nat.reduceSub, Nat.reduceLeDiff, Nat.reduceLT, Nat.reduceBEq, reduceCtorEq, g1, gH0, g17, g18, g19, g3, gH, Net.cells, Ln.row, List.length_map, hk, hr, hw, b0, b1, b00, b10, b2, b5, e120', e182', e98a, e183', hlk, e121, e111_5, hE, z]
      simp [structsP, q1, hf, hfd, hsp, z]
  · rintro T H M ⟨rfl, g1, gH0, g17, g18, g19, g3, gH, hn0, hf⟩
    rw [allR_end] at hf
    simp only [go_sem, reduceIte, Nat.reduceEqDiff, Nat.reduceAdd, Nat.reduceMul, Nat.reduceSub, Nat.reduceLeDiff, Nat.reduceLT, Nat.reduceBEq, reduceCtorEq, g17, g18, g19, List.length_map, Nat.lt_irrefl]
    simp [structsP, q1, hf]
end Go.Sim

/-
The program: CheckNetwork, Length, Addressed, Placed.
-/
namespace Go.Sim
open Go Go.Proofs
set_option maxRecDepth 100000
set_option maxHeartbeats 8000000
structure Net.Ok (n : Net) : Prop where
  lines : n.lines.length ≤ maxRows
  line : ∀ l ∈ n.lines, l.name.length ≤ maxRows ∧ l.ps.length ≤ maxRows
  sws : n.sws.length ≤ maxRows
  sw : ∀ s ∈ n.sws, s.name.length ≤ maxRows
  sts : n.sts.length ≤ maxRows
  st : ∀ s ∈ n.sts, s.name.length ≤ maxRows ∧ s.kind.length ≤ maxRows
theorem Net.Ok.fits {n : Net} (h : n.Ok) : n.fits := ⟨h.lines, fun l hl => (h.line l hl).2⟩
theorem cells1_inj (x y : Net) (h : [AV.agg x.cells] = [AV.agg y.cells]) : x = y := by
  simp only [List.cons.injEq, AV.agg.injEq, and_true] at h; exact Net.cells_inj _ _ h
noncomputable def p110 : List AV → Option AV := primOf (α := List Ln) (fun x => [.ps .unk (x.map Ln.row)]) (fun x => (x.length ≤ maxRows ∧ ∀ l ∈ x, l.name.length ≤ maxRows ∧ l.ps.length ≤ maxRows)) (fun x => i64 (linesP x))
theorem pok110 : ∀ args v, p110 args = some v → ∀ lo H, CallOk NC lo 110 args H v H := by
  intro args v h
  obtain ⟨x, rfl, hp, rfl⟩ := primOf_inv h
  clear h
  revert x
  intro x hx; exact c110 x hx.1 hx.2
theorem pe110 (x : List Ln) (hp : (fun x => (x.length ≤ maxRows ∧ ∀ l ∈ x, l.name.length ≤ maxRows ∧ l.ps.length ≤ maxRows)) x) : p110 ((fun x => [.ps .unk (x.map Ln.row)]) x) = some ((fun x => i64 (linesP x)) x) := primOf_enc (by intro x y h; (simp only [List.cons.injEq, AV.ps.injEq, and_true, true_and] at h; exact map_inj Ln.row_inj h)) x hp
noncomputable def p112 : List AV → Option AV := primOf (α := Net) (fun x => [.agg x.cells]) (fun x => x.Ok) (fun x => i64 (switchesP x))
theorem pok112 : ∀ args v, p112 args = some v → ∀ lo H, CallOk NC lo 112 args H v H := by
  intro args v h
  obtain ⟨x, rfl, hp, rfl⟩ := primOf_inv h
  clear h
  revert x
  intro x hx; exact c112 x hx.lines (fun l hl => (hx.line l hl).2) hx.sws hx.sw
theorem pe112 (x : Net) (hp : (fun x => x.Ok) x) : p112 ((fun x => [.agg x.cells]) x) = some ((fun x => i64 (switchesP x)) x) := primOf_enc (by intro x y h; exact cells1_inj x y h) x hp
noncomputable def p113 : List AV → Option AV := primOf (α := Net) (fun x => [.agg x.cells]) (fun x => x.Ok) (fun x => i64 (structsP x))
theorem pok113 : ∀ args v, p113 args = some v → ∀ lo H, CallOk NC lo 113 args H v H := by
  intro args v h
  obtain ⟨x, rfl, hp, rfl⟩ := primOf_inv h
  clear h
  revert x
  intro x hx; exact c113 x hx.lines (fun l hl => (hx.line l hl).2) hx.sts hx.st
theorem pe113 (x : Net) (hp : (fun x => x.Ok) x) : p113 ((fun x => [.agg x.cells]) x) = some ((fun x => i64 (structsP x)) x) := primOf_enc (by intro x y h; exact cells1_inj x y h) x hp
noncomputable def PPI : FuncId → Option (List AV → Option AV) := addPrim 113 p113 (addPrim 112 p112 (addPrim 110 p110 (PPH)))
theorem primsI : PrimsOk NC PPI := primsOk_add (primsOk_add (primsOk_add (primsH) (by kernel_rfl) (by kernel_rfl) pok110) (by kernel_rfl) (by kernel_rfl) pok112) (by kernel_rfl) (by kernel_rfl) pok113
theorem enI_48 {rec : Rec} {lo : Nat} {args : List AV} {H : Heap} {K : AV → Heap → Prop} : VO (aenter (NC.withPrims PPI) rec lo 48 args H) K = AO (p48 args) fun v => K v H := enter_prim (by rfl) (by kernel_rfl)
theorem enI_121 {rec : Rec} {lo : Nat} {args : List AV} {H : Heap} {K : AV → Heap → Prop} : VO (aenter (NC.withPrims PPI) rec lo 121 args H) K = AO (p121 args) fun v => K v H := enter_prim (by rfl) (by kernel_rfl)
theorem enI_34 {rec : Rec} {lo : Nat} {args : List AV} {H : Heap} {K : AV → Heap → Prop} : VO (aenter (NC.withPrims PPI) rec lo 34 args H) K = AO (p34 args) fun v => K v H := enter_prim (by rfl) (by kernel_rfl)
theorem enI_111 {rec : Rec} {lo : Nat} {args : List AV} {H : Heap} {K : AV → Heap → Prop} : VO (aenter (NC.withPrims PPI) rec lo 111 args H) K = AO (p111 args) fun v => K v H := enter_prim (by rfl) (by kernel_rfl)
theorem enI_26 {rec : Rec} {lo : Nat} {args : List AV} {H : Heap} {K : AV → Heap → Prop} : VO (aenter (NC.withPrims PPI) rec lo 26 args H) K = AO (p26 args) fun v => K v H := enter_prim (by rfl) (by kernel_rfl)
theorem enI_178 {rec : Rec} {lo : Nat} {args : List AV} {H : Heap} {K : AV → Heap → Prop} : VO (aenter (NC.withPrims PPI) rec lo 178 args H) K = AO (p178 args) fun v => K v H := enter_prim (by rfl) (by kernel_rfl)
theorem enI_109 {rec : Rec} {lo : Nat} {args : List AV} {H : Heap} {K : AV → Heap → Prop} : VO (aenter (NC.withPrims PPI) rec lo 109 args H) K = AO (p109 args) fun v => K v H := enter_prim (by rfl) (by kernel_rfl)
theorem enI_108 {rec : Rec} {lo : Nat} {args : List AV} {H : Heap} {K : AV → Heap → Prop} : VO (aenter (NC.withPrims PPI) rec lo 108 args H) K = AO (p108 args) fun v => K v H := enter_prim (by rfl) (by kernel_rfl)
theorem enI_27 {rec : Rec} {lo : Nat} {args : List AV} {H : Heap} {K : AV → Heap → Prop} : VO (aenter (NC.withPrims PPI) rec lo 27 args H) K = AO (p27 args) fun v => K v H := enter_prim (by rfl) (by kernel_rfl)
theorem enI_97 {rec : Rec} {lo : Nat} {args : List AV} {H : Heap} {K : AV → Heap → Prop} : VO (aenter (NC.withPrims PPI) rec lo 97 args H) K = AO (p97 args) fun v => K v H := enter_prim (by rfl) (by kernel_rfl)
theorem enI_122 {rec : Rec} {lo : Nat} {args : List AV} {H : Heap} {K : AV → Heap → Prop} : VO (aenter (NC.withPrims PPI) rec lo 122 args H) K = AO (p122 args) fun v => K v H := enter_prim (by rfl) (by kernel_rfl)
theorem enI_182 {rec : Rec} {lo : Nat} {args : List AV} {H : Heap} {K : AV → Heap → Prop} : VO (aenter (NC.withPrims PPI) rec lo 182 args H) K = AO (p182 args) fun v => K v H := enter_prim (by rfl) (by kernel_rfl)
theorem enI_35 {rec : Rec} {lo : Nat} {args : List AV} {H : Heap} {K : AV → Heap → Prop} : VO (aenter (NC.withPrims PPI) rec lo 35 args H) K = AO (p35 args) fun v => K v H := enter_prim (by rfl) (by kernel_rfl)
theorem enI_115 {rec : Rec} {lo : Nat} {args : List AV} {H : Heap} {K : AV → Heap → Prop} : VO (aenter (NC.withPrims PPI) rec lo 115 args H) K = AO (p115 args) fun v => K v H := enter_prim (by rfl) (by kernel_rfl)
theorem enI_36 {rec : Rec} {lo : Nat} {args : List AV} {H : Heap} {K : AV → Heap → Prop} : VO (aenter (NC.withPrims PPI) rec lo 36 args H) K = AO (p36 args) fun v => K v H := enter_prim (by rfl) (by kernel_rfl)
theorem enI_120 {rec : Rec} {lo : Nat} {args : List AV} {H : Heap} {K : AV → Heap → Prop} : VO (aenter (NC.withPrims PPI) rec lo 120 args H) K = AO (p120 args) fun v => K v H := enter_prim (by rfl) (by kernel_rfl)
theorem enI_106 {rec : Rec} {lo : Nat} {args : List AV} {H : Heap} {K : AV → Heap → Prop} : VO (aenter (NC.withPrims PPI) rec lo 106 args H) K = AO (p106 args) fun v => K v H := enter_prim (by rfl) (by kernel_rfl)
theorem enI_179 {rec : Rec} {lo : Nat} {args : List AV} {H : Heap} {K : AV → Heap → Prop} : VO (aenter (NC.withPrims PPI) rec lo 179 args H) K = AO (p179 args) fun v => K v H := enter_prim (by rfl) (by kernel_rfl)
theorem enI_126 {rec : Rec} {lo : Nat} {args : List AV} {H : Heap} {K : AV → Heap → Prop} : VO (aenter (NC.withPrims PPI) rec lo 126 args H) K = AO (p126 args) fun v => K v H := enter_prim (by rfl) (by kernel_rfl)
theorem enI_103 {rec : Rec} {lo : Nat} {args : List AV} {H : Heap} {K : AV → Heap → Prop} : VO (aenter (NC.withPrims PPI) rec lo 103 args H) K = AO (p103 args) fun v => K v H := enter_prim (by rfl) (by kernel_rfl)
theorem enI_104 {rec : Rec} {lo : Nat} {args : List AV} {H : Heap} {K : AV → Heap → Prop} : VO (aenter (NC.withPrims PPI) rec lo 104 args H) K = AO (p104 args) fun v => K v H := enter_prim (by rfl) (by kernel_rfl)
theorem enI_105 {rec : Rec} {lo : Nat} {args : List AV} {H : Heap} {K : AV → Heap → Prop} : VO (aenter (NC.withPrims PPI) rec lo 105 args H) K = AO (p105 args) fun v => K v H := enter_prim (by rfl) (by kernel_rfl)
theorem enI_99 {rec : Rec} {lo : Nat} {args : List AV} {H : Heap} {K : AV → Heap → Prop} : VO (aenter (NC.withPrims PPI) rec lo 99 args H) K = AO (p99 args) fun v => K v H := enter_prim (by rfl) (by kernel_rfl)
theorem enI_226 {rec : Rec} {lo : Nat} {args : List AV} {H : Heap} {K : AV → Heap → Prop} : VO (aenter (NC.withPrims PPI) rec lo 226 args H) K = AO (p226 args) fun v => K v H := enter_prim (by rfl) (by kernel_rfl)
theorem enI_134 {rec : Rec} {lo : Nat} {args : List AV} {H : Heap} {K : AV → Heap → Prop} : VO (aenter (NC.withPrims PPI) rec lo 134 args H) K = AO (p134 args) fun v => K v H := enter_prim (by rfl) (by kernel_rfl)
theorem enI_177 {rec : Rec} {lo : Nat} {args : List AV} {H : Heap} {K : AV → Heap → Prop} : VO (aenter (NC.withPrims PPI) rec lo 177 args H) K = AO (p177 args) fun v => K v H := enter_prim (by rfl) (by kernel_rfl)
theorem enI_180 {rec : Rec} {lo : Nat} {args : List AV} {H : Heap} {K : AV → Heap → Prop} : VO (aenter (NC.withPrims PPI) rec lo 180 args H) K = AO (p180 args) fun v => K v H := enter_prim (by rfl) (by kernel_rfl)
theorem enI_98 {rec : Rec} {lo : Nat} {args : List AV} {H : Heap} {K : AV → Heap → Prop} : VO (aenter (NC.withPrims PPI) rec lo 98 args H) K = AO (p98 args) fun v => K v H := enter_prim (by rfl) (by kernel_rfl)
theorem enI_181 {rec : Rec} {lo : Nat} {args : List AV} {H : Heap} {K : AV → Heap → Prop} : VO (aenter (NC.withPrims PPI) rec lo 181 args H) K = AO (p181 args) fun v => K v H := enter_prim (by rfl) (by kernel_rfl)
theorem enI_183 {rec : Rec} {lo : Nat} {args : List AV} {H : Heap} {K : AV → Heap → Prop} : VO (aenter (NC.withPrims PPI) rec lo 183 args H) K = AO (p183 args) fun v => K v H := enter_prim (by rfl) (by kernel_rfl)
theorem enI_110 {rec : Rec} {lo : Nat} {args : List AV} {H : Heap} {K : AV → Heap → Prop} : VO (aenter (NC.withPrims PPI) rec lo 110 args H) K = AO (p110 args) fun v => K v H := enter_prim (by rfl) (by kernel_rfl)
theorem enI_112 {rec : Rec} {lo : Nat} {args : List AV} {H : Heap} {K : AV → Heap → Prop} : VO (aenter (NC.withPrims PPI) rec lo 112 args H) K = AO (p112 args) fun v => K v H := enter_prim (by rfl) (by kernel_rfl)
theorem enI_113 {rec : Rec} {lo : Nat} {args : List AV} {H : Heap} {K : AV → Heap → Prop} : VO (aenter (NC.withPrims PPI) rec lo 113 args H) K = AO (p113 args) fun v => K v H := enter_prim (by rfl) (by kernel_rfl)
attribute [go_sem ↓] enI_48 enI_121 enI_34 enI_111 enI_26 enI_178 enI_109 enI_108 enI_27 enI_97 enI_122 enI_182
attribute [go_sem ↓] enI_35 enI_115 enI_36 enI_120 enI_106 enI_179 enI_126 enI_103 enI_104 enI_105 enI_99 enI_226
attribute [go_sem ↓] enI_134 enI_177 enI_180 enI_98 enI_181 enI_183 enI_110 enI_112 enI_113
def netP (n : Net) : Int := if linesP n.lines = 0 then firstI [switchesP n, structsP n] else linesP n.lines
theorem c29 (n : Net) (hn : n.Ok) : ∀ lo H, CallOk NC lo 29 [.agg n.cells] H (i64 (netP n)) H := by
  refine contract saneNC primsI (fn := Tryz.f29) (by kernel_rfl) Tryz.func29 rfl rfl (by rfl) (by rfl) ?_
  have e110 := pe110 n.lines ⟨hn.lines, hn.line⟩
  have e112 := pe112 n hn
  have e113 := pe113 n hn
  simp only [Net.cells, i64] at e110 e112 e113
  generalize hE : linesP n.lines = E at e110
  rcases Classical.propComplete (E = 0) with z | z
  · simp only [go_sem, reduceIte, Nat.reduceEqDiff, Nat.reduceAdd, Nat.reduceMul, Nat.reduceSub, Nat.reduceLeDiff, Nat.reduceLT, Nat.reduceBEq, reduceCtorEq, Net.cells, e110, e112, e113, e111_2, z]
    simp [netP, hE, z]
  · simp only [go_sem, reduceIte, Nat.reduceEqDiff, Nat.reduceAdd, Nat.reduceMul, Nat.reduceSub, Nat.reduceLeDiff, Nat.reduceLT, Nat.reduceBEq, reduceCtorEq, Net.cells, e110, e112, e113, e111_2, z]
    simp [netP, hE, z]
noncomputable def p29 : List AV → Option AV := primOf (α := Net) (fun x => [.agg x.cells]) (fun x => x.Ok) (fun x => i64 (netP x))
theorem pok29 : ∀ args v, p29 args = some v → ∀ lo H, CallOk NC lo 29 args H v H := by
  intro args v h
  obtain ⟨x, rfl, hp, rfl⟩ := primOf_inv h
  clear h
  revert x
  intro x hx; exact c29 x hx
theorem pe29 (x : Net) (hp : (fun x => x.Ok) x) : p29 ((fun x => [.agg x.cells]) x) = some ((fun x => i64 (netP x)) x) := primOf_enc (by intro x y h; exact cells1_inj x y h) x hp
noncomputable def PPJ : FuncId → Option (List AV → Option AV) := addPrim 29 p29 (PPI)
theorem primsJ : PrimsOk NC PPJ := primsOk_add (primsI) (by kernel_rfl) (by kernel_rfl) pok29
theorem enJ_48 {rec : Rec} {lo : Nat} {args : List AV} {H : Heap} {K : AV → Heap → Prop} : VO (aenter (NC.withPrims PPJ) rec lo 48 args H) K = AO (p48 args) fun v => K v H := enter_prim (by rfl) (by kernel_rfl)
theorem enJ_121 {rec : Rec} {lo : Nat} {args : List AV} {H : Heap} {K : AV → Heap → Prop} : VO (aenter (NC.withPrims PPJ) rec lo 121 args H) K = AO (p121 args) fun v => K v H := enter_prim (by rfl) (by kernel_rfl)
theorem enJ_34 {rec : Rec} {lo : Nat} {args : List AV} {H : Heap} {K : AV → Heap → Prop} : VO (aenter (NC.withPrims PPJ) rec lo 34 args H) K = AO (p34 args) fun v => K v H := enter_prim (by rfl) (by kernel_rfl)
theorem enJ_111 {rec : Rec} {lo : Nat} {args : List AV} {H : Heap} {K : AV → Heap → Prop} : VO (aenter (NC.withPrims PPJ) rec lo 111 args H) K = AO (p111 args) fun v => K v H := enter_prim (by rfl) (by kernel_rfl)
theorem enJ_26 {rec : Rec} {lo : Nat} {args : List AV} {H : Heap} {K : AV → Heap → Prop} : VO (aenter (NC.withPrims PPJ) rec lo 26 args H) K = AO (p26 args) fun v => K v H := enter_prim (by rfl) (by kernel_rfl)
theorem enJ_178 {rec : Rec} {lo : Nat} {args : List AV} {H : Heap} {K : AV → Heap → Prop} : VO (aenter (NC.withPrims PPJ) rec lo 178 args H) K = AO (p178 args) fun v => K v H := enter_prim (by rfl) (by kernel_rfl)
theorem enJ_109 {rec : Rec} {lo : Nat} {args : List AV} {H : Heap} {K : AV → Heap → Prop} : VO (aenter (NC.withPrims PPJ) rec lo 109 args H) K = AO (p109 args) fun v => K v H := enter_prim (by rfl) (by kernel_rfl)
theorem enJ_108 {rec : Rec} {lo : Nat} {args : List AV} {H : Heap} {K : AV → Heap → Prop} : VO (aenter (NC.withPrims PPJ) rec lo 108 args H) K = AO (p108 args) fun v => K v H := enter_prim (by rfl) (by kernel_rfl)
theorem enJ_27 {rec : Rec} {lo : Nat} {args : List AV} {H : Heap} {K : AV → Heap → Prop} : VO (aenter (NC.withPrims PPJ) rec lo 27 args H) K = AO (p27 args) fun v => K v H := enter_prim (by rfl) (by kernel_rfl)
theorem enJ_97 {rec : Rec} {lo : Nat} {args : List AV} {H : Heap} {K : AV → Heap → Prop} : VO (aenter (NC.withPrims PPJ) rec lo 97 args H) K = AO (p97 args) fun v => K v H := enter_prim (by rfl) (by kernel_rfl)
theorem enJ_122 {rec : Rec} {lo : Nat} {args : List AV} {H : Heap} {K : AV → Heap → Prop} : VO (aenter (NC.withPrims PPJ) rec lo 122 args H) K = AO (p122 args) fun v => K v H := enter_prim (by rfl) (by kernel_rfl)
theorem enJ_182 {rec : Rec} {lo : Nat} {args : List AV} {H : Heap} {K : AV → Heap → Prop} : VO (aenter (NC.withPrims PPJ) rec lo 182 args H) K = AO (p182 args) fun v => K v H := enter_prim (by rfl) (by kernel_rfl)
theorem enJ_35 {rec : Rec} {lo : Nat} {args : List AV} {H : Heap} {K : AV → Heap → Prop} : VO (aenter (NC.withPrims PPJ) rec lo 35 args H) K = AO (p35 args) fun v => K v H := enter_prim (by rfl) (by kernel_rfl)
theorem enJ_115 {rec : Rec} {lo : Nat} {args : List AV} {H : Heap} {K : AV → Heap → Prop} : VO (aenter (NC.withPrims PPJ) rec lo 115 args H) K = AO (p115 args) fun v => K v H := enter_prim (by rfl) (by kernel_rfl)
theorem enJ_36 {rec : Rec} {lo : Nat} {args : List AV} {H : Heap} {K : AV → Heap → Prop} : VO (aenter (NC.withPrims PPJ) rec lo 36 args H) K = AO (p36 args) fun v => K v H := enter_prim (by rfl) (by kernel_rfl)
theorem enJ_120 {rec : Rec} {lo : Nat} {args : List AV} {H : Heap} {K : AV → Heap → Prop} : VO (aenter (NC.withPrims PPJ) rec lo 120 args H) K = AO (p120 args) fun v => K v H := enter_prim (by rfl) (by kernel_rfl)
theorem enJ_106 {rec : Rec} {lo : Nat} {args : List AV} {H : Heap} {K : AV → Heap → Prop} : VO (aenter (NC.withPrims PPJ) rec lo 106 args H) K = AO (p106 args) fun v => K v H := enter_prim (by rfl) (by kernel_rfl)
theorem enJ_179 {rec : Rec} {lo : Nat} {args : List AV} {H : Heap} {K : AV → Heap → Prop} : VO (aenter (NC.withPrims PPJ) rec lo 179 args H) K = AO (p179 args) fun v => K v H := enter_prim (by rfl) (by kernel_rfl)
theorem enJ_126 {rec : Rec} {lo : Nat} {args : List AV} {H : Heap} {K : AV → Heap → Prop} : VO (aenter (NC.withPrims PPJ) rec lo 126 args H) K = AO (p126 args) fun v => K v H := enter_prim (by rfl) (by kernel_rfl)
theorem enJ_103 {rec : Rec} {lo : Nat} {args : List AV} {H : Heap} {K : AV → Heap → Prop} : VO (aenter (NC.withPrims PPJ) rec lo 103 args H) K = AO (p103 args) fun v => K v H := enter_prim (by rfl) (by kernel_rfl)
theorem enJ_104 {rec : Rec} {lo : Nat} {args : List AV} {H : Heap} {K : AV → Heap → Prop} : VO (aenter (NC.withPrims PPJ) rec lo 104 args H) K = AO (p104 args) fun v => K v H := enter_prim (by rfl) (by kernel_rfl)
theorem enJ_105 {rec : Rec} {lo : Nat} {args : List AV} {H : Heap} {K : AV → Heap → Prop} : VO (aenter (NC.withPrims PPJ) rec lo 105 args H) K = AO (p105 args) fun v => K v H := enter_prim (by rfl) (by kernel_rfl)
theorem enJ_99 {rec : Rec} {lo : Nat} {args : List AV} {H : Heap} {K : AV → Heap → Prop} : VO (aenter (NC.withPrims PPJ) rec lo 99 args H) K = AO (p99 args) fun v => K v H := enter_prim (by rfl) (by kernel_rfl)
theorem enJ_226 {rec : Rec} {lo : Nat} {args : List AV} {H : Heap} {K : AV → Heap → Prop} : VO (aenter (NC.withPrims PPJ) rec lo 226 args H) K = AO (p226 args) fun v => K v H := enter_prim (by rfl) (by kernel_rfl)
theorem enJ_134 {rec : Rec} {lo : Nat} {args : List AV} {H : Heap} {K : AV → Heap → Prop} : VO (aenter (NC.withPrims PPJ) rec lo 134 args H) K = AO (p134 args) fun v => K v H := enter_prim (by rfl) (by kernel_rfl)
theorem enJ_177 {rec : Rec} {lo : Nat} {args : List AV} {H : Heap} {K : AV → Heap → Prop} : VO (aenter (NC.withPrims PPJ) rec lo 177 args H) K = AO (p177 args) fun v => K v H := enter_prim (by rfl) (by kernel_rfl)
theorem enJ_180 {rec : Rec} {lo : Nat} {args : List AV} {H : Heap} {K : AV → Heap → Prop} : VO (aenter (NC.withPrims PPJ) rec lo 180 args H) K = AO (p180 args) fun v => K v H := enter_prim (by rfl) (by kernel_rfl)
theorem enJ_98 {rec : Rec} {lo : Nat} {args : List AV} {H : Heap} {K : AV → Heap → Prop} : VO (aenter (NC.withPrims PPJ) rec lo 98 args H) K = AO (p98 args) fun v => K v H := enter_prim (by rfl) (by kernel_rfl)
theorem enJ_181 {rec : Rec} {lo : Nat} {args : List AV} {H : Heap} {K : AV → Heap → Prop} : VO (aenter (NC.withPrims PPJ) rec lo 181 args H) K = AO (p181 args) fun v => K v H := enter_prim (by rfl) (by kernel_rfl)
theorem enJ_183 {rec : Rec} {lo : Nat} {args : List AV} {H : Heap} {K : AV → Heap → Prop} : VO (aenter (NC.withPrims PPJ) rec lo 183 args H) K = AO (p183 args) fun v => K v H := enter_prim (by rfl) (by kernel_rfl)
theorem enJ_110 {rec : Rec} {lo : Nat} {args : List AV} {H : Heap} {K : AV → Heap → Prop} : VO (aenter (NC.withPrims PPJ) rec lo 110 args H) K = AO (p110 args) fun v => K v H := enter_prim (by rfl) (by kernel_rfl)
theorem enJ_112 {rec : Rec} {lo : Nat} {args : List AV} {H : Heap} {K : AV → Heap → Prop} : VO (aenter (NC.withPrims PPJ) rec lo 112 args H) K = AO (p112 args) fun v => K v H := enter_prim (by rfl) (by kernel_rfl)
theorem enJ_113 {rec : Rec} {lo : Nat} {args : List AV} {H : Heap} {K : AV → Heap → Prop} : VO (aenter (NC.withPrims PPJ) rec lo 113 args H) K = AO (p113 args) fun v => K v H := enter_prim (by rfl) (by kernel_rfl)
theorem enJ_29 {rec : Rec} {lo : Nat} {args : List AV} {H : Heap} {K : AV → Heap → Prop} : VO (aenter (NC.withPrims PPJ) rec lo 29 args H) K = AO (p29 args) fun v => K v H := enter_prim (by rfl) (by kernel_rfl)
attribute [go_sem ↓] enJ_48 enJ_121 enJ_34 enJ_111 enJ_26 enJ_178 enJ_109 enJ_108 enJ_27 enJ_97 enJ_122 enJ_182
attribute [go_sem ↓] enJ_35 enJ_115 enJ_36 enJ_120 enJ_106 enJ_179 enJ_126 enJ_103 enJ_104 enJ_105 enJ_99 enJ_226
attribute [go_sem ↓] enJ_134 enJ_177 enJ_180 enJ_98 enJ_181 enJ_183 enJ_110 enJ_112 enJ_113 enJ_29
theorem c18 (n : Net) (s : List Nat) (hn : n.Ok) : ∀ lo H, CallOk NC lo 18 [.agg n.cells, .str s] H (.tup (if netP n = 0 then (if lnB n.lines s then [i64 (sumW (lnOf n.lines s).ps 0), i64 0] else [i64 0, i64 10]) else [i64 0, i64 (netP n)])) H := by
  refine contract saneNC primsJ (fn := Tryz.f18) (by kernel_rfl) Tryz.func18 rfl rfl (by rfl) (by split <;> (try split) <;> rfl) ?_
  have e29 := pe29 n hn
  have e98 := pe98 (n, s) hn.lines
  have e99 := pe99 (lnOf n.lines s) (lnOf_fits fun l hl => (hn.line l hl).2)
  simp only [Net.cells, Ln.row, i64] at e29 e98 e99
  generalize hE : netP n = E at e29 ⊢
  generalize hB : lnB n.lines s = B at e98 ⊢
  rcases Classical.propComplete (E = 0) with z | z
  · cases B <;> simp only [go_sem, reduceIte, Nat.reduceEqDiff, Nat.reduceAdd, Nat.reduceMul, Nat.reduceSub, Nat.reduceLeDiff, Nat.reduceLT, Nat.reduceBEq, reduceCtorEq, Net.cells, Ln.row, e29, e98, e99, z, Bool.false_eq_true]
  · simp only [go_sem, reduceIte, Nat.reduceEqDiff, Nat.reduceAdd, Nat.reduceMul, Nat.reduceSub, Nat.reduceLeDiff, Nat.reduceLT, Nat.reduceBEq, reduceCtorEq, Net.cells, e29, z]
def placeP (n : Net) (s : List Nat) (m : Int) : Int := firstI [whenI (!lnB n.lines s) 10, whenI (!hasB (lnOf n.lines s) m) 14]
theorem c100 (n : Net) (s : List Nat) (m : Int) (hn : n.Ok) : ∀ lo H, CallOk NC lo 100 [.agg n.cells, .agg [.str s, i64 m]] H (i64 (placeP n s m)) H := by
  refine contract saneNC primsJ (fn := Tryz.f100) (by kernel_rfl) Tryz.func100 rfl rfl (by rfl) (by rfl) ?_
  have e98 := pe98 (n, s) hn.lines
  have e177 := pe177 (lnOf n.lines s, m) (lnOf_fits fun l hl => (hn.line l hl).2)
  simp only [Net.cells, Ln.row, i64] at e98 e177
  simp only [go_sem, reduceIte, Nat.reduceEqDiff, Nat.reduceAdd, Nat.reduceMul, Nat.reduceSub, Nat.reduceLeDiff, Nat.reduceLT, Nat.reduceBEq, reduceCtorEq, Net.cells, Ln.row, e98, e177, e121, e111_2]
  rfl
end Go.Sim

/-
The program: Addressed, Placed.
-/
namespace Go.Sim
open Go Go.Proofs
set_option maxRecDepth 100000
set_option maxHeartbeats 8000000
noncomputable def p100 : List AV → Option AV := primOf (α := Net × List Nat × Int) (fun x => [.agg x.1.cells, .agg [.str x.2.1, i64 x.2.2]]) (fun x => x.1.Ok) (fun x => i64 (placeP x.1 x.2.1 x.2.2))
theorem pok100 : ∀ args v, p100 args = some v → ∀ lo H, CallOk NC lo 100 args H v H := by
  intro args v h
  obtain ⟨x, rfl, hp, rfl⟩ := primOf_inv h
  clear h
  revert x
  intro x hx; exact c100 x.1 x.2.1 x.2.2 hx
theorem pe100 (x : Net × List Nat × Int) (hp : (fun x => x.1.Ok) x) : p100 ((fun x => [.agg x.1.cells, .agg [.str x.2.1, i64 x.2.2]]) x) = some ((fun x => i64 (placeP x.1 x.2.1 x.2.2)) x) := primOf_enc (by intro x y h; (obtain ⟨a, b, c⟩ := x; obtain ⟨d, e, f⟩ := y; simp only [List.cons.injEq, AV.agg.injEq, AV.str.injEq, AV.int.injEq, true_and, and_true] at h; obtain ⟨h1, rfl, rfl⟩ := h; rw [Net.cells_inj _ _ h1])) x hp
noncomputable def PPK : FuncId → Option (List AV → Option AV) := addPrim 100 p100 (PPJ)
theorem primsK : PrimsOk NC PPK := primsOk_add (primsJ) (by kernel_rfl) (by kernel_rfl) pok100
theorem enK_48 {rec : Rec} {lo : Nat} {args : List AV} {H : Heap} {K : AV → Heap → Prop} : VO (aenter (NC.withPrims PPK) rec lo 48 args H) K = AO (p48 args) fun v => K v H := enter_prim (by rfl) (by kernel_rfl)
theorem enK_121 {rec : Rec} {lo : Nat} {args : List AV} {H : Heap} {K : AV → Heap → Prop} : VO (aenter (NC.withPrims PPK) rec lo 121 args H) K = AO (p121 args) fun v => K v H := enter_prim (by rfl) (by kernel_rfl)
theorem enK_34 {rec : Rec} {lo : Nat} {args : List AV} {H : Heap} {K : AV → Heap → Prop} : VO (aenter (NC.withPrims PPK) rec lo 34 args H) K = AO (p34 args) fun v => K v H := enter_prim (by rfl) (by kernel_rfl)
theorem enK_111 {rec : Rec} {lo : Nat} {args : List AV} {H : Heap} {K : AV → Heap → Prop} : VO (aenter (NC.withPrims PPK) rec lo 111 args H) K = AO (p111 args) fun v => K v H := enter_prim (by rfl) (by kernel_rfl)
theorem enK_26 {rec : Rec} {lo : Nat} {args : List AV} {H : Heap} {K : AV → Heap → Prop} : VO (aenter (NC.withPrims PPK) rec lo 26 args H) K = AO (p26 args) fun v => K v H := enter_prim (by rfl) (by kernel_rfl)
theorem enK_178 {rec : Rec} {lo : Nat} {args : List AV} {H : Heap} {K : AV → Heap → Prop} : VO (aenter (NC.withPrims PPK) rec lo 178 args H) K = AO (p178 args) fun v => K v H := enter_prim (by rfl) (by kernel_rfl)
theorem enK_109 {rec : Rec} {lo : Nat} {args : List AV} {H : Heap} {K : AV → Heap → Prop} : VO (aenter (NC.withPrims PPK) rec lo 109 args H) K = AO (p109 args) fun v => K v H := enter_prim (by rfl) (by kernel_rfl)
theorem enK_108 {rec : Rec} {lo : Nat} {args : List AV} {H : Heap} {K : AV → Heap → Prop} : VO (aenter (NC.withPrims PPK) rec lo 108 args H) K = AO (p108 args) fun v => K v H := enter_prim (by rfl) (by kernel_rfl)
theorem enK_27 {rec : Rec} {lo : Nat} {args : List AV} {H : Heap} {K : AV → Heap → Prop} : VO (aenter (NC.withPrims PPK) rec lo 27 args H) K = AO (p27 args) fun v => K v H := enter_prim (by rfl) (by kernel_rfl)
theorem enK_97 {rec : Rec} {lo : Nat} {args : List AV} {H : Heap} {K : AV → Heap → Prop} : VO (aenter (NC.withPrims PPK) rec lo 97 args H) K = AO (p97 args) fun v => K v H := enter_prim (by rfl) (by kernel_rfl)
theorem enK_122 {rec : Rec} {lo : Nat} {args : List AV} {H : Heap} {K : AV → Heap → Prop} : VO (aenter (NC.withPrims PPK) rec lo 122 args H) K = AO (p122 args) fun v => K v H := enter_prim (by rfl) (by kernel_rfl)
theorem enK_182 {rec : Rec} {lo : Nat} {args : List AV} {H : Heap} {K : AV → Heap → Prop} : VO (aenter (NC.withPrims PPK) rec lo 182 args H) K = AO (p182 args) fun v => K v H := enter_prim (by rfl) (by kernel_rfl)
theorem enK_35 {rec : Rec} {lo : Nat} {args : List AV} {H : Heap} {K : AV → Heap → Prop} : VO (aenter (NC.withPrims PPK) rec lo 35 args H) K = AO (p35 args) fun v => K v H := enter_prim (by rfl) (by kernel_rfl)
theorem enK_115 {rec : Rec} {lo : Nat} {args : List AV} {H : Heap} {K : AV → Heap → Prop} : VO (aenter (NC.withPrims PPK) rec lo 115 args H) K = AO (p115 args) fun v => K v H := enter_prim (by rfl) (by kernel_rfl)
theorem enK_36 {rec : Rec} {lo : Nat} {args : List AV} {H : Heap} {K : AV → Heap → Prop} : VO (aenter (NC.withPrims PPK) rec lo 36 args H) K = AO (p36 args) fun v => K v H := enter_prim (by rfl) (by kernel_rfl)
theorem enK_120 {rec : Rec} {lo : Nat} {args : List AV} {H : Heap} {K : AV → Heap → Prop} : VO (aenter (NC.withPrims PPK) rec lo 120 args H) K = AO (p120 args) fun v => K v H := enter_prim (by rfl) (by kernel_rfl)
theorem enK_106 {rec : Rec} {lo : Nat} {args : List AV} {H : Heap} {K : AV → Heap → Prop} : VO (aenter (NC.withPrims PPK) rec lo 106 args H) K = AO (p106 args) fun v => K v H := enter_prim (by rfl) (by kernel_rfl)
theorem enK_179 {rec : Rec} {lo : Nat} {args : List AV} {H : Heap} {K : AV → Heap → Prop} : VO (aenter (NC.withPrims PPK) rec lo 179 args H) K = AO (p179 args) fun v => K v H := enter_prim (by rfl) (by kernel_rfl)
theorem enK_126 {rec : Rec} {lo : Nat} {args : List AV} {H : Heap} {K : AV → Heap → Prop} : VO (aenter (NC.withPrims PPK) rec lo 126 args H) K = AO (p126 args) fun v => K v H := enter_prim (by rfl) (by kernel_rfl)
theorem enK_103 {rec : Rec} {lo : Nat} {args : List AV} {H : Heap} {K : AV → Heap → Prop} : VO (aenter (NC.withPrims PPK) rec lo 103 args H) K = AO (p103 args) fun v => K v H := enter_prim (by rfl) (by kernel_rfl)
theorem enK_104 {rec : Rec} {lo : Nat} {args : List AV} {H : Heap} {K : AV → Heap → Prop} : VO (aenter (NC.withPrims PPK) rec lo 104 args H) K = AO (p104 args) fun v => K v H := enter_prim (by rfl) (by kernel_rfl)
theorem enK_105 {rec : Rec} {lo : Nat} {args : List AV} {H : Heap} {K : AV → Heap → Prop} : VO (aenter (NC.withPrims PPK) rec lo 105 args H) K = AO (p105 args) fun v => K v H := enter_prim (by rfl) (by kernel_rfl)
theorem enK_99 {rec : Rec} {lo : Nat} {args : List AV} {H : Heap} {K : AV → Heap → Prop} : VO (aenter (NC.withPrims PPK) rec lo 99 args H) K = AO (p99 args) fun v => K v H := enter_prim (by rfl) (by kernel_rfl)
theorem enK_226 {rec : Rec} {lo : Nat} {args : List AV} {H : Heap} {K : AV → Heap → Prop} : VO (aenter (NC.withPrims PPK) rec lo 226 args H) K = AO (p226 args) fun v => K v H := enter_prim (by rfl) (by kernel_rfl)
theorem enK_134 {rec : Rec} {lo : Nat} {args : List AV} {H : Heap} {K : AV → Heap → Prop} : VO (aenter (NC.withPrims PPK) rec lo 134 args H) K = AO (p134 args) fun v => K v H := enter_prim (by rfl) (by kernel_rfl)
theorem enK_177 {rec : Rec} {lo : Nat} {args : List AV} {H : Heap} {K : AV → Heap → Prop} : VO (aenter (NC.withPrims PPK) rec lo 177 args H) K = AO (p177 args) fun v => K v H := enter_prim (by rfl) (by kernel_rfl)
theorem enK_180 {rec : Rec} {lo : Nat} {args : List AV} {H : Heap} {K : AV → Heap → Prop} : VO (aenter (NC.withPrims PPK) rec lo 180 args H) K = AO (p180 args) fun v => K v H := enter_prim (by rfl) (by kernel_rfl)
theorem enK_98 {rec : Rec} {lo : Nat} {args : List AV} {H : Heap} {K : AV → Heap → Prop} : VO (aenter (NC.withPrims PPK) rec lo 98 args H) K = AO (p98 args) fun v => K v H := enter_prim (by rfl) (by kernel_rfl)
theorem enK_181 {rec : Rec} {lo : Nat} {args : List AV} {H : Heap} {K : AV → Heap → Prop} : VO (aenter (NC.withPrims PPK) rec lo 181 args H) K = AO (p181 args) fun v => K v H := enter_prim (by rfl) (by kernel_rfl)
theorem enK_183 {rec : Rec} {lo : Nat} {args : List AV} {H : Heap} {K : AV → Heap → Prop} : VO (aenter (NC.withPrims PPK) rec lo 183 args H) K = AO (p183 args) fun v => K v H := enter_prim (by rfl) (by kernel_rfl)
theorem enK_110 {rec : Rec} {lo : Nat} {args : List AV} {H : Heap} {K : AV → Heap → Prop} : VO (aenter (NC.withPrims PPK) rec lo 110 args H) K = AO (p110 args) fun v => K v H := enter_prim (by rfl) (by kernel_rfl)
theorem enK_112 {rec : Rec} {lo : Nat} {args : List AV} {H : Heap} {K : AV → Heap → Prop} : VO (aenter (NC.withPrims PPK) rec lo 112 args H) K = AO (p112 args) fun v => K v H := enter_prim (by rfl) (by kernel_rfl)
theorem enK_113 {rec : Rec} {lo : Nat} {args : List AV} {H : Heap} {K : AV → Heap → Prop} : VO (aenter (NC.withPrims PPK) rec lo 113 args H) K = AO (p113 args) fun v => K v H := enter_prim (by rfl) (by kernel_rfl)
theorem enK_29 {rec : Rec} {lo : Nat} {args : List AV} {H : Heap} {K : AV → Heap → Prop} : VO (aenter (NC.withPrims PPK) rec lo 29 args H) K = AO (p29 args) fun v => K v H := enter_prim (by rfl) (by kernel_rfl)
theorem enK_100 {rec : Rec} {lo : Nat} {args : List AV} {H : Heap} {K : AV → Heap → Prop} : VO (aenter (NC.withPrims PPK) rec lo 100 args H) K = AO (p100 args) fun v => K v H := enter_prim (by rfl) (by kernel_rfl)
attribute [go_sem ↓] enK_48 enK_121 enK_34 enK_111 enK_26 enK_178 enK_109 enK_108 enK_27 enK_97 enK_122 enK_182
attribute [go_sem ↓] enK_35 enK_115 enK_36 enK_120 enK_106 enK_179 enK_126 enK_103 enK_104 enK_105 enK_99 enK_226
attribute [go_sem ↓] enK_134 enK_177 enK_180 enK_98 enK_181 enK_183 enK_110 enK_112 enK_113 enK_29 enK_100
def addrK (l : Ln) (m : Int) : Nat → Int × Int
  | 0 => (0, 0)
  | k + 1 => match l.ps[k]? with
    | none => addrK l m k
    | some p => if !decide (m < begI l k) && decide (m < begI l (k + 1)) then ((k : Int), wrapq .i64 (Int.add p.post (wrapq .i64 (Int.mul (stepI p.back) (wrapq .i64 (Int.sub m (begI l k))))))) else addrK l m k
theorem c101 (n : Net) (s : List Nat) (m : Int) (hn : n.Ok) : ∀ lo H, CallOk NC lo 101 [.agg n.cells, .agg [.str s, i64 m]] H (.agg [.str s, i64 (addrK (lnOf n.lines s) m (lnOf n.lines s).ps.length).1, i64 (addrK (lnOf n.lines s) m (lnOf n.lines s).ps.length).2]) H := by
  refine contract saneNC primsK (fn := Tryz.f101) (by kernel_rfl) Tryz.func101 rfl rfl (by rfl) (by rfl) ?_
  have e98 := pe98 (n, s) hn.lines
  have hfit : (lnOf n.lines s).ps.length ≤ maxRows := lnOf_fits fun l hl => (hn.line l hl).2
  simp only [Net.cells, Ln.row, i64] at e98
  generalize lnOf n.lines s = l at e98 hfit ⊢
  generalize lnB n.lines s = B at e98
  have r := fun lo H => r176 (P := PPK) lo l H
  simp only [Ln.row] at r
  simp only [go_sem, reduceIte, Nat.reduceEqDiff, Nat.reduceAdd, Nat.reduceMul, Nat.reduceSub, Nat.reduceLeDiff, Nat.reduceLT, Nat.reduceBEq, reduceCtorEq, Net.cells, Ln.row, e98, en176 rfl (show PPK 176 = none from rfl), r, ofVal_v, ofVal_H]
  refine W_pieces (l := l) (c := 6) rfl hfit (Nat.zero_le _) (by simp only [go_sem, reduceIte, Nat.reduceEqDiff, Nat.reduceAdd, Nat.reduceMul, Nat.reduceSub, Nat.reduceLeDiff, Nat.reduceLT, Nat.reduceBEq, reduceCtorEq]) (by simp only [go_sem, reduceIte, Nat.reduceEqDiff, Nat.reduceAdd, Nat.reduceMul, Nat.reduceSub, Nat.reduceLeDiff, Nat.reduceLT, Nat.reduceBEq, reduceCtorEq]) (fun k i => match i with | 0 => .cells n.cells 40 | 1 => .cells [.str s, i64 m] 45 | 2 => .cells [.str [], i64 0, i64 0] 42 | 3 => .cells l.row 196 | 4 => .cells [.str s, i64 (addrK l m k).1, i64 (addrK l m k).2] 42 | 5 => .cells [i64 k] 3 | 6 => .cells l.row 196 | _ => .dead) (fun _ _ => False) ?_ (fun k => rfl) ?_ ?_ ?_
  · intro i hi
    simp only [go_sem, reduceIte, Nat.reduceEqDiff, Nat.reduceAdd, Nat.reduceMul, Nat.reduceSub, Nat.reduceLeDiff, Nat.reduceLT, Nat.reduceBEq, reduceCtorEq] at hi
    match i, hi with
    | 0, _ => simp only [go_sem, reduceIte, Nat.reduceEqDiff, Nat.reduceAdd, Nat.reduceMul, Nat.reduceSub, Nat.reduceLeDiff, Nat.reduceLT, Nat.reduceBEq, reduceCtorEq] <;> rfl
    | 1, _ => simp only [go_sem, reduceIte, Nat.reduceEqDiff, Nat.reduceAdd, Nat.reduceMul, Nat.reduceSub, Nat.reduceLeDiff, Nat.reduceLT, Nat.reduceBEq, reduceCtorEq] <;> rfl
    | 2, _ => simp only [go_sem, reduceIte, Nat.reduceEqDiff, Nat.reduceAdd, Nat.reduceMul, Nat.reduceSub, Nat.reduceLeDiff, Nat.reduceLT, Nat.reduceBEq, reduceCtorEq] <;> rfl
    | 3, _ => simp only [go_sem, reduceIte, Nat.reduceEqDiff, Nat.reduceAdd, Nat.reduceMul, Nat.reduceSub, Nat.reduceLeDiff, Nat.reduceLT, Nat.reduceBEq, reduceCtorEq] <;> rfl
    | 4, _ => simp only [go_sem, reduceIte, Nat.reduceEqDiff, Nat.reduceAdd, Nat.reduceMul, Nat.reduceSub, Nat.reduceLeDiff, Nat.reduceLT, Nat.reduceBEq, reduceCtorEq] <;> rfl
    | 5, _ => simp only [go_sem, reduceIte, Nat.reduceEqDiff, Nat.reduceAdd, Nat.reduceMul, Nat.reduceSub, Nat.reduceLeDiff, Nat.reduceLT, Nat.reduceBEq, reduceCtorEq] <;> rfl
    | 6, _ => simp only [go_sem, reduceIte, Nat.reduceEqDiff, Nat.reduceAdd, Nat.reduceMul, Nat.reduceSub, Nat.reduceLeDiff, Nat.reduceLT, Nat.reduceBEq, reduceCtorEq] <;> rfl
    | i + 7, hi => omega
  · intro k p Hk q hp hq hB
    simp only [go_sem, reduceIte, Nat.reduceEqDiff, Nat.reduceAdd, Nat.reduceMul, Nat.reduceSub, Nat.reduceLeDiff, Nat.reduceLT, Nat.reduceBEq, reduceCtorEq] at hq hB
    have h1 := hB 1 (by omega)
    have h4 := hB 4 (by omega)
    have h5 := hB 5 (by omega)
    have hbs := begI_succ hp
    have hw := wrap_succ (List.getElem?_eq_some_iff.1 hp).1 hfit
    obtain ⟨pl, pq, pb⟩ := p
    simp only at h1 h4 h5 hbs
    simp only [go_sem, reduceIte, Nat.reduceEqDiff, Nat.reduceAdd, Nat.reduceMul, Nat.reduceSub, Nat.reduceLeDiff, Nat.reduceLT, Nat.reduceBEq, reduceCtorEq, Pc.row, hq]
    refine ⟨fun j _ hj => by rw [if_neg (by omega), if_neg (by omega)], fun r => ?_⟩
    rcases Classical.propComplete (m < begI l k) with c1 | c1 <;> rcases Classical.propComplete (m < begI l (k + 1)) with c2 | c2 <;> simp only [go_sem, reduceIte, Nat.reduceEqDiff, Nat.reduceAdd, Nat.reduceMul, Nat.reduceSub, Nat.reduceLeDiff, Nat.reduceLT, Nat.reduceBEq, reduceCtorEq, hq, h1, h4, h5, ← hbs, e178, hw, c1, c2]
    all_goals
      refine ⟨by omega, fun j h3 hj hj2 => ?_, fun i hi => ?_⟩
      · repeat (rw [if_neg (by omega)])
      · match i, hi with
        | 0, _ => simp [hB 0 (by omega)]
        | 1, _ => simp [hB 1 (by omega)]
        | 2, _ => simp [hB 2 (by omega)]
        | 3, _ => simp [hB 3 (by omega)]
        | 4, _ => simp [h4, addrK, hp, c1, c2]
        | 5, _ => simp
        | 6, _ => simp [hB 6 (by omega)]
        | i + 7, hi => omega
  · intro H4 hB hd
    simp only [go_sem, reduceIte, Nat.reduceEqDiff, Nat.reduceAdd, Nat.reduceMul, Nat.reduceSub, Nat.reduceLeDiff, Nat.reduceLT, Nat.reduceBEq, reduceCtorEq] at hB hd
    have h4 := hB 4 (by omega)
    have h2 := hB 2 (by omega)
    simp only at h4 h2
    simp only [go_sem, reduceIte, Nat.reduceEqDiff, Nat.reduceAdd, Nat.reduceMul, Nat.reduceSub, Nat.reduceLeDiff, Nat.reduceLT, Nat.reduceBEq, reduceCtorEq, h2, h4, hd, shutMarks_cons]
  · intro e H3 H4 _ h
    exact h.elim
end Go.Sim

/-
The program: Placed; the calls that check first.
-/
namespace Go.Sim
open Go Go.Proofs
set_option maxRecDepth 100000
set_option maxHeartbeats 8000000
noncomputable def p101 : List AV → Option AV := primOf (α := Net × List Nat × Int) (fun x => [.agg x.1.cells, .agg [.str x.2.1, i64 x.2.2]]) (fun x => x.1.Ok) (fun x => .agg [.str x.2.1, i64 (addrK (lnOf x.1.lines x.2.1) x.2.2 (lnOf x.1.lines x.2.1).ps.length).1, i64 (addrK (lnOf x.1.lines x.2.1) x.2.2 (lnOf x.1.lines x.2.1).ps.length).2])
theorem pok101 : ∀ args v, p101 args = some v → ∀ lo H, CallOk NC lo 101 args H v H := by
  intro args v h
  obtain ⟨x, rfl, hp, rfl⟩ := primOf_inv h
  clear h
  revert x
  intro x hx; exact c101 x.1 x.2.1 x.2.2 hx
theorem pe101 (x : Net × List Nat × Int) (hp : (fun x => x.1.Ok) x) : p101 ((fun x => [.agg x.1.cells, .agg [.str x.2.1, i64 x.2.2]]) x) = some ((fun x => .agg [.str x.2.1, i64 (addrK (lnOf x.1.lines x.2.1) x.2.2 (lnOf x.1.lines x.2.1).ps.length).1, i64 (addrK (lnOf x.1.lines x.2.1) x.2.2 (lnOf x.1.lines x.2.1).ps.length).2]) x) := primOf_enc (by intro x y h; (obtain ⟨a, b, c⟩ := x; obtain ⟨d, e, f⟩ := y; simp only [List.cons.injEq, AV.agg.injEq, AV.str.injEq, AV.int.injEq, true_and, and_true] at h; obtain ⟨h1, rfl, rfl⟩ := h; rw [Net.cells_inj _ _ h1])) x hp
noncomputable def PPL : FuncId → Option (List AV → Option AV) := addPrim 101 p101 (PPK)
theorem primsL : PrimsOk NC PPL := primsOk_add (primsK) (by kernel_rfl) (by kernel_rfl) pok101
theorem enL_48 {rec : Rec} {lo : Nat} {args : List AV} {H : Heap} {K : AV → Heap → Prop} : VO (aenter (NC.withPrims PPL) rec lo 48 args H) K = AO (p48 args) fun v => K v H := enter_prim (by rfl) (by kernel_rfl)
theorem enL_121 {rec : Rec} {lo : Nat} {args : List AV} {H : Heap} {K : AV → Heap → Prop} : VO (aenter (NC.withPrims PPL) rec lo 121 args H) K = AO (p121 args) fun v => K v H := enter_prim (by rfl) (by kernel_rfl)
theorem enL_34 {rec : Rec} {lo : Nat} {args : List AV} {H : Heap} {K : AV → Heap → Prop} : VO (aenter (NC.withPrims PPL) rec lo 34 args H) K = AO (p34 args) fun v => K v H := enter_prim (by rfl) (by kernel_rfl)
theorem enL_111 {rec : Rec} {lo : Nat} {args : List AV} {H : Heap} {K : AV → Heap → Prop} : VO (aenter (NC.withPrims PPL) rec lo 111 args H) K = AO (p111 args) fun v => K v H := enter_prim (by rfl) (by kernel_rfl)
theorem enL_26 {rec : Rec} {lo : Nat} {args : List AV} {H : Heap} {K : AV → Heap → Prop} : VO (aenter (NC.withPrims PPL) rec lo 26 args H) K = AO (p26 args) fun v => K v H := enter_prim (by rfl) (by kernel_rfl)
theorem enL_178 {rec : Rec} {lo : Nat} {args : List AV} {H : Heap} {K : AV → Heap → Prop} : VO (aenter (NC.withPrims PPL) rec lo 178 args H) K = AO (p178 args) fun v => K v H := enter_prim (by rfl) (by kernel_rfl)
theorem enL_109 {rec : Rec} {lo : Nat} {args : List AV} {H : Heap} {K : AV → Heap → Prop} : VO (aenter (NC.withPrims PPL) rec lo 109 args H) K = AO (p109 args) fun v => K v H := enter_prim (by rfl) (by kernel_rfl)
theorem enL_108 {rec : Rec} {lo : Nat} {args : List AV} {H : Heap} {K : AV → Heap → Prop} : VO (aenter (NC.withPrims PPL) rec lo 108 args H) K = AO (p108 args) fun v => K v H := enter_prim (by rfl) (by kernel_rfl)
theorem enL_27 {rec : Rec} {lo : Nat} {args : List AV} {H : Heap} {K : AV → Heap → Prop} : VO (aenter (NC.withPrims PPL) rec lo 27 args H) K = AO (p27 args) fun v => K v H := enter_prim (by rfl) (by kernel_rfl)
theorem enL_97 {rec : Rec} {lo : Nat} {args : List AV} {H : Heap} {K : AV → Heap → Prop} : VO (aenter (NC.withPrims PPL) rec lo 97 args H) K = AO (p97 args) fun v => K v H := enter_prim (by rfl) (by kernel_rfl)
theorem enL_122 {rec : Rec} {lo : Nat} {args : List AV} {H : Heap} {K : AV → Heap → Prop} : VO (aenter (NC.withPrims PPL) rec lo 122 args H) K = AO (p122 args) fun v => K v H := enter_prim (by rfl) (by kernel_rfl)
theorem enL_182 {rec : Rec} {lo : Nat} {args : List AV} {H : Heap} {K : AV → Heap → Prop} : VO (aenter (NC.withPrims PPL) rec lo 182 args H) K = AO (p182 args) fun v => K v H := enter_prim (by rfl) (by kernel_rfl)
theorem enL_35 {rec : Rec} {lo : Nat} {args : List AV} {H : Heap} {K : AV → Heap → Prop} : VO (aenter (NC.withPrims PPL) rec lo 35 args H) K = AO (p35 args) fun v => K v H := enter_prim (by rfl) (by kernel_rfl)
theorem enL_115 {rec : Rec} {lo : Nat} {args : List AV} {H : Heap} {K : AV → Heap → Prop} : VO (aenter (NC.withPrims PPL) rec lo 115 args H) K = AO (p115 args) fun v => K v H := enter_prim (by rfl) (by kernel_rfl)
theorem enL_36 {rec : Rec} {lo : Nat} {args : List AV} {H : Heap} {K : AV → Heap → Prop} : VO (aenter (NC.withPrims PPL) rec lo 36 args H) K = AO (p36 args) fun v => K v H := enter_prim (by rfl) (by kernel_rfl)
theorem enL_120 {rec : Rec} {lo : Nat} {args : List AV} {H : Heap} {K : AV → Heap → Prop} : VO (aenter (NC.withPrims PPL) rec lo 120 args H) K = AO (p120 args) fun v => K v H := enter_prim (by rfl) (by kernel_rfl)
theorem enL_106 {rec : Rec} {lo : Nat} {args : List AV} {H : Heap} {K : AV → Heap → Prop} : VO (aenter (NC.withPrims PPL) rec lo 106 args H) K = AO (p106 args) fun v => K v H := enter_prim (by rfl) (by kernel_rfl)
theorem enL_179 {rec : Rec} {lo : Nat} {args : List AV} {H : Heap} {K : AV → Heap → Prop} : VO (aenter (NC.withPrims PPL) rec lo 179 args H) K = AO (p179 args) fun v => K v H := enter_prim (by rfl) (by kernel_rfl)
theorem enL_126 {rec : Rec} {lo : Nat} {args : List AV} {H : Heap} {K : AV → Heap → Prop} : VO (aenter (NC.withPrims PPL) rec lo 126 args H) K = AO (p126 args) fun v => K v H := enter_prim (by rfl) (by kernel_rfl)
theorem enL_103 {rec : Rec} {lo : Nat} {args : List AV} {H : Heap} {K : AV → Heap → Prop} : VO (aenter (NC.withPrims PPL) rec lo 103 args H) K = AO (p103 args) fun v => K v H := enter_prim (by rfl) (by kernel_rfl)
theorem enL_104 {rec : Rec} {lo : Nat} {args : List AV} {H : Heap} {K : AV → Heap → Prop} : VO (aenter (NC.withPrims PPL) rec lo 104 args H) K = AO (p104 args) fun v => K v H := enter_prim (by rfl) (by kernel_rfl)
theorem enL_105 {rec : Rec} {lo : Nat} {args : List AV} {H : Heap} {K : AV → Heap → Prop} : VO (aenter (NC.withPrims PPL) rec lo 105 args H) K = AO (p105 args) fun v => K v H := enter_prim (by rfl) (by kernel_rfl)
theorem enL_99 {rec : Rec} {lo : Nat} {args : List AV} {H : Heap} {K : AV → Heap → Prop} : VO (aenter (NC.withPrims PPL) rec lo 99 args H) K = AO (p99 args) fun v => K v H := enter_prim (by rfl) (by kernel_rfl)
theorem enL_226 {rec : Rec} {lo : Nat} {args : List AV} {H : Heap} {K : AV → Heap → Prop} : VO (aenter (NC.withPrims PPL) rec lo 226 args H) K = AO (p226 args) fun v => K v H := enter_prim (by rfl) (by kernel_rfl)
theorem enL_134 {rec : Rec} {lo : Nat} {args : List AV} {H : Heap} {K : AV → Heap → Prop} : VO (aenter (NC.withPrims PPL) rec lo 134 args H) K = AO (p134 args) fun v => K v H := enter_prim (by rfl) (by kernel_rfl)
theorem enL_177 {rec : Rec} {lo : Nat} {args : List AV} {H : Heap} {K : AV → Heap → Prop} : VO (aenter (NC.withPrims PPL) rec lo 177 args H) K = AO (p177 args) fun v => K v H := enter_prim (by rfl) (by kernel_rfl)
theorem enL_180 {rec : Rec} {lo : Nat} {args : List AV} {H : Heap} {K : AV → Heap → Prop} : VO (aenter (NC.withPrims PPL) rec lo 180 args H) K = AO (p180 args) fun v => K v H := enter_prim (by rfl) (by kernel_rfl)
theorem enL_98 {rec : Rec} {lo : Nat} {args : List AV} {H : Heap} {K : AV → Heap → Prop} : VO (aenter (NC.withPrims PPL) rec lo 98 args H) K = AO (p98 args) fun v => K v H := enter_prim (by rfl) (by kernel_rfl)
theorem enL_181 {rec : Rec} {lo : Nat} {args : List AV} {H : Heap} {K : AV → Heap → Prop} : VO (aenter (NC.withPrims PPL) rec lo 181 args H) K = AO (p181 args) fun v => K v H := enter_prim (by rfl) (by kernel_rfl)
theorem enL_183 {rec : Rec} {lo : Nat} {args : List AV} {H : Heap} {K : AV → Heap → Prop} : VO (aenter (NC.withPrims PPL) rec lo 183 args H) K = AO (p183 args) fun v => K v H := enter_prim (by rfl) (by kernel_rfl)
theorem enL_110 {rec : Rec} {lo : Nat} {args : List AV} {H : Heap} {K : AV → Heap → Prop} : VO (aenter (NC.withPrims PPL) rec lo 110 args H) K = AO (p110 args) fun v => K v H := enter_prim (by rfl) (by kernel_rfl)
theorem enL_112 {rec : Rec} {lo : Nat} {args : List AV} {H : Heap} {K : AV → Heap → Prop} : VO (aenter (NC.withPrims PPL) rec lo 112 args H) K = AO (p112 args) fun v => K v H := enter_prim (by rfl) (by kernel_rfl)
theorem enL_113 {rec : Rec} {lo : Nat} {args : List AV} {H : Heap} {K : AV → Heap → Prop} : VO (aenter (NC.withPrims PPL) rec lo 113 args H) K = AO (p113 args) fun v => K v H := enter_prim (by rfl) (by kernel_rfl)
theorem enL_29 {rec : Rec} {lo : Nat} {args : List AV} {H : Heap} {K : AV → Heap → Prop} : VO (aenter (NC.withPrims PPL) rec lo 29 args H) K = AO (p29 args) fun v => K v H := enter_prim (by rfl) (by kernel_rfl)
theorem enL_100 {rec : Rec} {lo : Nat} {args : List AV} {H : Heap} {K : AV → Heap → Prop} : VO (aenter (NC.withPrims PPL) rec lo 100 args H) K = AO (p100 args) fun v => K v H := enter_prim (by rfl) (by kernel_rfl)
theorem enL_101 {rec : Rec} {lo : Nat} {args : List AV} {H : Heap} {K : AV → Heap → Prop} : VO (aenter (NC.withPrims PPL) rec lo 101 args H) K = AO (p101 args) fun v => K v H := enter_prim (by rfl) (by kernel_rfl)
attribute [go_sem ↓] enL_48 enL_121 enL_34 enL_111 enL_26 enL_178 enL_109 enL_108 enL_27 enL_97 enL_122 enL_182
attribute [go_sem ↓] enL_35 enL_115 enL_36 enL_120 enL_106 enL_179 enL_126 enL_103 enL_104 enL_105 enL_99 enL_226
attribute [go_sem ↓] enL_134 enL_177 enL_180 enL_98 enL_181 enL_183 enL_110 enL_112 enL_113 enL_29 enL_100 enL_101
def noAddr : AV := .agg [.str [], i64 0, i64 0]
def noPlace : AV := .agg [.str [], i64 0]
theorem c20 (n : Net) (s : List Nat) (m : Int) (hn : n.Ok) : ∀ lo H, CallOk NC lo 20 [.agg n.cells, .agg [.str s, i64 m]] H (.tup (if netP n = 0 then (if placeP n s m = 0 then [.agg [.str s, i64 (addrK (lnOf n.lines s) m (lnOf n.lines s).ps.length).1, i64 (addrK (lnOf n.lines s) m (lnOf n.lines s).ps.length).2], i64 0] else [noAddr, i64 (placeP n s m)]) else [noAddr, i64 (netP n)])) H := by
  refine contract saneNC primsL (fn := Tryz.f20) (by kernel_rfl) Tryz.func20 rfl rfl (by rfl) (by split <;> (try split) <;> rfl) ?_
  have e29 := pe29 n hn
  have e100 := pe100 (n, s, m) hn
  have e101 := pe101 (n, s, m) hn
  simp only [Net.cells, i64] at e29 e100 e101
  generalize hE : netP n = E at e29 ⊢
  generalize hF : placeP n s m = F at e100 ⊢
  rcases Classical.propComplete (E = 0) with z | z <;> rcases Classical.propComplete (F = 0) with z2 | z2 <;> simp only [go_sem, reduceIte, Nat.reduceEqDiff, Nat.reduceAdd, Nat.reduceMul, Nat.reduceSub, Nat.reduceLeDiff, Nat.reduceLT, Nat.reduceBEq, reduceCtorEq, Net.cells, e29, e100, e101, z, z2, noAddr]
def hitB (l : Ln) (piece post : Int) (k : Nat) : Bool := match l.ps[k]? with
  | none => false
  | some p => metreB p post && decide ((k : Int) = piece)
def placedV (l : Ln) (s : List Nat) (piece post : Int) : List AV := match l.ps[piece.toNat]? with
  | none => [noPlace, i64 14]
  | some p => if metreB p post && decide (0 ≤ piece) then [.agg [.str s, i64 (wrapq .i64 (Int.add (begI l piece.toNat) (metreI p post)))], i64 0] else [noPlace, i64 14]
def placedP (n : Net) (s : List Nat) (piece post : Int) : List AV :=
  let e := firstI [whenI (!lnB n.lines s) 10, whenI (decide (piece < 0) || !decide (piece < ((lnOf n.lines s).ps.length : Nat))) 7]
  if e = 0 then (if rangeI post 0 9999999 = 0 then placedV (lnOf n.lines s) s piece post else [noPlace, i64 14]) else [noPlace, i64 e]
theorem placedV_hit {l : Ln} {s : List Nat} {piece post : Int} {k : Nat} {p : Pc} (hp : l.ps[k]? = some p) (hm : metreB p post = true) (hk : (k : Int) = piece) : placedV l s piece post = [.agg [.str s, i64 (wrapq .i64 (Int.add (begI l k) (metreI p post)))], i64 0] := by
  subst hk
  unfold placedV
  simp [hp, hm]
theorem placedV_none {l : Ln} {s : List Nat} {piece post : Int} (h : ∀ k, k < l.ps.length → hitB l piece post k = false) : placedV l s piece post = [noPlace, i64 14] := by
  unfold placedV
  cases hp : l.ps[piece.toNat]? with
  | none => rfl
  | some p =>
    by_cases h0 : 0 ≤ piece
    · have := h piece.toNat (List.getElem?_eq_some_iff.1 hp).1
      unfold hitB at this
      rw [hp] at this
      have e : ((piece.toNat : Nat) : Int) = piece := Int.toNat_of_nonneg h0
      simp only [e, decide_true, Bool.and_true] at this
      simp [this]
    · simp [h0]
theorem placedP_pure (n : Net) (s : List Nat) (piece post : Int) : (AV.tup (placedP n s piece post)).pure = true := by
  unfold placedP placedV
  simp only []
  split
  · split
    · split
      · rfl
      · split <;> rfl
    · rfl
  · rfl
theorem first2 (a b : Int) : firstI [a, b] = 0 → a = 0 ∧ b = 0 := by
  simp only [firstI]; split <;> (try split) <;> simp_all
theorem c102 (n : Net) (s : List Nat) (piece post : Int) (hn : n.Ok) : ∀ lo H, CallOk NC lo 102 [.agg n.cells, .agg [.str s, i64 piece, i64 post]] H (.tup (placedP n s piece post)) H := by
  refine contract saneNC primsL (fn := Tryz.f102) (by kernel_rfl) Tryz.func102 rfl rfl (by rfl) (placedP_pure ..) ?_
  have e98 := pe98 (n, s) hn.lines
  have hfit : (lnOf n.lines s).ps.length ≤ maxRows := lnOf_fits fun l hl => (hn.line l hl).2
  have hsp : placedP n s piece post = (let e := firstI [whenI (!lnB n.lines s) 10, whenI (decide (piece < 0) || !decide (piece < ((lnOf n.lines s).ps.length : Nat))) 7]
    if e = 0 then (if rangeI post 0 9999999 = 0 then placedV (lnOf n.lines s) s piece post else [noPlace, i64 14]) else [noPlace, i64 e]) := rfl
  simp only [Net.cells, Ln.row, i64] at e98
  rw [hsp]
  simp only []
  generalize lnOf n.lines s = l at e98 hfit ⊢
  generalize lnB n.lines s = B at e98 ⊢
  have r := fun lo H => r176 (P := PPL) lo l H
  simp only [Ln.row] at r
  generalize hE : firstI [whenI (!B) 10, whenI (decide (piece < 0) || !decide (piece < (l.ps.length : Nat))) 7] = E
  generalize hF : rangeI post 0 9999999 = F
  rcases Classical.propComplete (E = 0) with z | z
  case inr =>
    rcases Classical.propComplete (piece < 0) with c1 | c1 <;> rcases Classical.propComplete (piece < (l.ps.length : Nat)) with c2 | c2 <;> simp only [c1, c2, decide_true, decide_false, Bool.true_or, Bool.or_true, Bool.not_true, Bool.not_false, Bool.or_false, Bool.false_or] at hE <;> simp only [go_sem, reduceIte, Nat.reduceEqDiff, Nat.reduceAdd, Nat.reduceMul, Nat.reduceSub, Nat.reduceLeDiff, Nat.reduceLT, Nat.reduceBEq, reduceCtorEq, Net.cells, Ln.row, e98, e121, e111_2, List.length_map, c1, c2, hE, z, noPlace]
  rcases Classical.propComplete (F = 0) with z2 | z2
  case inr =>
    rcases Classical.propComplete (piece < 0) with c1 | c1 <;> rcases Classical.propComplete (piece < (l.ps.length : Nat)) with c2 | c2 <;> simp only [c1, c2, decide_true, decide_false, Bool.true_or, Bool.or_true, Bool.not_true, Bool.not_false, Bool.or_false, Bool.false_or] at hE <;> simp only [go_sem, reduceIte, Nat.reduceEqDiff, Nat.reduceAdd, Nat.reduceMul, Nat.reduceSub, Nat.reduceLeDiff, Nat.reduceLT, Nat.reduceBEq, reduceCtorEq, Net.cells, Ln.row, e98, e121, e111_2, e115, hF, List.length_map, c1, c2, hE, z, z2, noPlace]
  have h2 := first2 _ _ (hE.trans (of_eq_true z))
  have c1 : (piece < 0) = False := by
    rcases Classical.propComplete (piece < 0) with c1 | c1
    · have := h2.2; simp [c1, whenI] at this
    · exact c1
  have c2 : (piece < (l.ps.length : Nat)) = True := by
    rcases Classical.propComplete (piece < (l.ps.length : Nat)) with c2 | c2
    · exact c2
    · have := h2.2; simp [c2, whenI] at this
  have e134 : ∀ (a b : Int) (d : Bool), p134 [.agg [.int .i64 a, .int .i64 b, .bool d], .int .i64 post] = some (.tup [.int .i64 (metreI ⟨a, b, d⟩ post), .bool (metreB ⟨a, b, d⟩ post)]) := fun a b d => pe134 (⟨a, b, d⟩, post) trivial
  simp only [c1, c2, decide_true, decide_false, Bool.true_or, Bool.or_true, Bool.not_true, Bool.not_false, Bool.or_false, Bool.false_or] at hE
  simp only [go_sem, reduceIte, Nat.reduceEqDiff, Nat.reduceAdd, Nat.reduceMul, Nat.reduceSub, Nat.reduceLeDiff, Nat.reduceLT, Nat.reduceBEq, reduceCtorEq, Net.cells, Ln.row, e98, e121, e111_2, e115, hF, List.length_map, c1, c2, hE, z, z2, en176 rfl (show PPL 176 = none from rfl), r, ofVal_v, ofVal_H]
  refine W_piecesG (l := l) (c := 6) rfl hfit (Nat.zero_le _) (by simp only [go_sem, reduceIte, Nat.reduceEqDiff, Nat.reduceAdd, Nat.reduceMul, Nat.reduceSub, Nat.reduceLeDiff, Nat.reduceLT, Nat.reduceBEq, reduceCtorEq]) (by simp only [go_sem, reduceIte, Nat.reduceEqDiff, Nat.reduceAdd, Nat.reduceMul, Nat.reduceSub, Nat.reduceLeDiff, Nat.reduceLT, Nat.reduceBEq, reduceCtorEq]) (fun k => ∀ j, j < k → hitB l piece post j = false) (fun j hj => by omega) (fun k i => match i with | 0 => .cells n.cells 40 | 1 => .cells [.str s, i64 piece, i64 post] 42 | 2 => .cells [.str [], i64 0] 45 | 3 => .cells [i64 0] 33 | 4 => .cells l.row 196 | 5 => .cells [i64 k] 3 | 6 => .cells l.row 196 | _ => .dead)
    (fun e H3 => e = .ret ∧ ∃ (k : Nat) (p : Pc), l.ps[k]? = some p ∧ metreB p post = true ∧ (k : Int) = piece ∧ H3.get 2 = .cells [.str s, i64 (wrapq .i64 (Int.add (begI l k) (metreI p post)))] 45 ∧ H3.get 3 = .cells [i64 0] 33) ?_ (fun k => rfl) ?_ ?_ ?_
  · intro i hi
    simp only [go_sem, reduceIte, Nat.reduceEqDiff, Nat.reduceAdd, Nat.reduceMul, Nat.reduceSub, Nat.reduceLeDiff, Nat.reduceLT, Nat.reduceBEq, reduceCtorEq] at hi
    match i, hi with
    | 0, _ => simp only [go_sem, reduceIte, Nat.reduceEqDiff, Nat.reduceAdd, Nat.reduceMul, Nat.reduceSub, Nat.reduceLeDiff, Nat.reduceLT, Nat.reduceBEq, reduceCtorEq] <;> rfl
    | 1, _ => simp only [go_sem, reduceIte, Nat.reduceEqDiff, Nat.reduceAdd, Nat.reduceMul, Nat.reduceSub, Nat.reduceLeDiff, Nat.reduceLT, Nat.reduceBEq, reduceCtorEq] <;> rfl
    | 2, _ => simp only [go_sem, reduceIte, Nat.reduceEqDiff, Nat.reduceAdd, Nat.reduceMul, Nat.reduceSub, Nat.reduceLeDiff, Nat.reduceLT, Nat.reduceBEq, reduceCtorEq] <;> rfl
    | 3, _ => simp only [go_sem, reduceIte, Nat.reduceEqDiff, Nat.reduceAdd, Nat.reduceMul, Nat.reduceSub, Nat.reduceLeDiff, Nat.reduceLT, Nat.reduceBEq, reduceCtorEq] <;> rfl
    | 4, _ => simp only [go_sem, reduceIte, Nat.reduceEqDiff, Nat.reduceAdd, Nat.reduceMul, Nat.reduceSub, Nat.reduceLeDiff, Nat.reduceLT, Nat.reduceBEq, reduceCtorEq] <;> rfl
    | 5, _ => simp only [go_sem, reduceIte, Nat.reduceEqDiff, Nat.reduceAdd, Nat.reduceMul, Nat.reduceSub, Nat.reduceLeDiff, Nat.reduceLT, Nat.reduceBEq, reduceCtorEq] <;> rfl
    | 6, _ => simp only [go_sem, reduceIte, Nat.reduceEqDiff, Nat.reduceAdd, Nat.reduceMul, Nat.reduceSub, Nat.reduceLeDiff, Nat.reduceLT, Nat.reduceBEq, reduceCtorEq] <;> rfl
    | i + 7, hi => omega
  · intro k p Hk q hp hq hB hG
    simp only [go_sem, reduceIte, Nat.reduceEqDiff, Nat.reduceAdd, Nat.reduceMul, Nat.reduceSub, Nat.reduceLeDiff, Nat.reduceLT, Nat.reduceBEq, reduceCtorEq] at hq hB
    have h1 := hB 1 (by omega)
    have h2 := hB 2 (by omega)
    have h3 := hB 3 (by omega)
    have h5 := hB 5 (by omega)
    have hw := wrap_succ (List.getElem?_eq_some_iff.1 hp).1 hfit
    obtain ⟨pl, pq, pb⟩ := p
    simp only at h1 h2 h3 h5
    simp only [go_sem, reduceIte, Nat.reduceEqDiff, Nat.reduceAdd, Nat.reduceMul, Nat.reduceSub, Nat.reduceLeDiff, Nat.reduceLT, Nat.reduceBEq, reduceCtorEq, Pc.row, hq]
    refine ⟨fun j _ hj => by rw [if_neg (by omega), if_neg (by omega)], fun r => ?_⟩
    have hh : hitB l piece post k = (metreB ⟨pl, pq, pb⟩ post && decide ((k : Int) = piece)) := by unfold hitB; rw [hp]
    cases d1 : metreB ⟨pl, pq, pb⟩ post <;> rcases Classical.propComplete ((k : Int) = piece) with d2 | d2 <;> simp only [go_sem, reduceIte, Nat.reduceEqDiff, Nat.reduceAdd, Nat.reduceMul, Nat.reduceSub, Nat.reduceLeDiff, Nat.reduceLT, Nat.reduceBEq, reduceCtorEq, hq, h1, h2, h3, h5, e134, hw, d1, d2]
    case true.inl =>
      refine ⟨by omega, fun j h3 hj hj2 => by repeat (rw [if_neg (by omega)]), k, ⟨pl, pq, pb⟩, hp, d1, of_eq_true d2, ?_⟩
      simp
    all_goals
      refine ⟨by omega, fun j h3 hj hj2 => ?_, fun i hi => ?_, fun j hj => ?_⟩
      · repeat (rw [if_neg (by omega)])
      · match i, hi with
        | 0, _ => simp [hB 0 (by omega)]
        | 1, _ => simp [hB 1 (by omega)]
        | 2, _ => simp [hB 2 (by omega)]
        | 3, _ => simp [hB 3 (by omega)]
        | 4, _ => simp [hB 4 (by omega)]
        | 5, _ => simp
        | 6, _ => simp [hB 6 (by omega)]
        | i + 7, hi => omega
      · by_cases e : j = k
        · subst e; rw [hh]; simp [d1, d2]
        · exact hG j (by omega)
  · intro H4 hB hG hd
    simp only [go_sem, reduceIte, Nat.reduceEqDiff, Nat.reduceAdd, Nat.reduceMul, Nat.reduceSub, Nat.reduceLeDiff, Nat.reduceLT, Nat.reduceBEq, reduceCtorEq] at hB hd
    have h2 := hB 2 (by omega)
    have h3 := hB 3 (by omega)
    simp only at h2 h3
    simp only [go_sem, reduceIte, Nat.reduceEqDiff, Nat.reduceAdd, Nat.reduceMul, Nat.reduceSub, Nat.reduceLeDiff, Nat.reduceLT, Nat.reduceBEq, reduceCtorEq, h2, h3, hd, shutMarks_cons]
    rw [placedV_none hG]; simp [z, z2, noPlace]
  · rintro e H3 H4 _ ⟨rfl, k, p, hp, hm, hk, q2, q3⟩ hH hd
    simp only [go_sem, reduceIte, Nat.reduceEqDiff, Nat.reduceAdd, Nat.reduceMul, Nat.reduceSub, Nat.reduceLeDiff, Nat.reduceLT, Nat.reduceBEq, reduceCtorEq] at hH hd
    have h2 := (hH 2 (by omega)).trans q2
    have h3 := (hH 3 (by omega)).trans q3
    have h7 := (hH 7 (by omega)).trans hd
    simp only [go_sem, reduceIte, Nat.reduceEqDiff, Nat.reduceAdd, Nat.reduceMul, Nat.reduceSub, Nat.reduceLeDiff, Nat.reduceLT, Nat.reduceBEq, reduceCtorEq, h2, h3, h7, shutMarks_cons]
    rw [placedV_hit hp hm hk]; simp [z, z2]
noncomputable def p102 : List AV → Option AV := primOf (α := Net × List Nat × Int × Int) (fun x => [.agg x.1.cells, .agg [.str x.2.1, i64 x.2.2.1, i64 x.2.2.2]]) (fun x => x.1.Ok) (fun x => .tup (placedP x.1 x.2.1 x.2.2.1 x.2.2.2))
theorem pok102 : ∀ args v, p102 args = some v → ∀ lo H, CallOk NC lo 102 args H v H := by
  intro args v h
  obtain ⟨x, rfl, hp, rfl⟩ := primOf_inv h
  clear h
  revert x
  intro x hx; exact c102 x.1 x.2.1 x.2.2.1 x.2.2.2 hx
theorem pe102 (x : Net × List Nat × Int × Int) (hp : (fun x => x.1.Ok) x) : p102 ((fun x => [.agg x.1.cells, .agg [.str x.2.1, i64 x.2.2.1, i64 x.2.2.2]]) x) = some ((fun x => .tup (placedP x.1 x.2.1 x.2.2.1 x.2.2.2)) x) := primOf_enc (by intro x y h; (obtain ⟨a, b, c, d⟩ := x; obtain ⟨a', b', c', d'⟩ := y; simp only [List.cons.injEq, AV.agg.injEq, AV.str.injEq, AV.int.injEq, true_and, and_true] at h; obtain ⟨h1, rfl, rfl, rfl⟩ := h; rw [Net.cells_inj _ _ h1])) x hp
noncomputable def PPM : FuncId → Option (List AV → Option AV) := addPrim 102 p102 (PPL)
theorem primsM : PrimsOk NC PPM := primsOk_add (primsL) (by kernel_rfl) (by kernel_rfl) pok102
theorem enM_48 {rec : Rec} {lo : Nat} {args : List AV} {H : Heap} {K : AV → Heap → Prop} : VO (aenter (NC.withPrims PPM) rec lo 48 args H) K = AO (p48 args) fun v => K v H := enter_prim (by rfl) (by kernel_rfl)
theorem enM_121 {rec : Rec} {lo : Nat} {args : List AV} {H : Heap} {K : AV → Heap → Prop} : VO (aenter (NC.withPrims PPM) rec lo 121 args H) K = AO (p121 args) fun v => K v H := enter_prim (by rfl) (by kernel_rfl)
theorem enM_34 {rec : Rec} {lo : Nat} {args : List AV} {H : Heap} {K : AV → Heap → Prop} : VO (aenter (NC.withPrims PPM) rec lo 34 args H) K = AO (p34 args) fun v => K v H := enter_prim (by rfl) (by kernel_rfl)
theorem enM_111 {rec : Rec} {lo : Nat} {args : List AV} {H : Heap} {K : AV → Heap → Prop} : VO (aenter (NC.withPrims PPM) rec lo 111 args H) K = AO (p111 args) fun v => K v H := enter_prim (by rfl) (by kernel_rfl)
theorem enM_26 {rec : Rec} {lo : Nat} {args : List AV} {H : Heap} {K : AV → Heap → Prop} : VO (aenter (NC.withPrims PPM) rec lo 26 args H) K = AO (p26 args) fun v => K v H := enter_prim (by rfl) (by kernel_rfl)
theorem enM_178 {rec : Rec} {lo : Nat} {args : List AV} {H : Heap} {K : AV → Heap → Prop} : VO (aenter (NC.withPrims PPM) rec lo 178 args H) K = AO (p178 args) fun v => K v H := enter_prim (by rfl) (by kernel_rfl)
theorem enM_109 {rec : Rec} {lo : Nat} {args : List AV} {H : Heap} {K : AV → Heap → Prop} : VO (aenter (NC.withPrims PPM) rec lo 109 args H) K = AO (p109 args) fun v => K v H := enter_prim (by rfl) (by kernel_rfl)
theorem enM_108 {rec : Rec} {lo : Nat} {args : List AV} {H : Heap} {K : AV → Heap → Prop} : VO (aenter (NC.withPrims PPM) rec lo 108 args H) K = AO (p108 args) fun v => K v H := enter_prim (by rfl) (by kernel_rfl)
theorem enM_27 {rec : Rec} {lo : Nat} {args : List AV} {H : Heap} {K : AV → Heap → Prop} : VO (aenter (NC.withPrims PPM) rec lo 27 args H) K = AO (p27 args) fun v => K v H := enter_prim (by rfl) (by kernel_rfl)
theorem enM_97 {rec : Rec} {lo : Nat} {args : List AV} {H : Heap} {K : AV → Heap → Prop} : VO (aenter (NC.withPrims PPM) rec lo 97 args H) K = AO (p97 args) fun v => K v H := enter_prim (by rfl) (by kernel_rfl)
theorem enM_122 {rec : Rec} {lo : Nat} {args : List AV} {H : Heap} {K : AV → Heap → Prop} : VO (aenter (NC.withPrims PPM) rec lo 122 args H) K = AO (p122 args) fun v => K v H := enter_prim (by rfl) (by kernel_rfl)
theorem enM_182 {rec : Rec} {lo : Nat} {args : List AV} {H : Heap} {K : AV → Heap → Prop} : VO (aenter (NC.withPrims PPM) rec lo 182 args H) K = AO (p182 args) fun v => K v H := enter_prim (by rfl) (by kernel_rfl)
theorem enM_35 {rec : Rec} {lo : Nat} {args : List AV} {H : Heap} {K : AV → Heap → Prop} : VO (aenter (NC.withPrims PPM) rec lo 35 args H) K = AO (p35 args) fun v => K v H := enter_prim (by rfl) (by kernel_rfl)
theorem enM_115 {rec : Rec} {lo : Nat} {args : List AV} {H : Heap} {K : AV → Heap → Prop} : VO (aenter (NC.withPrims PPM) rec lo 115 args H) K = AO (p115 args) fun v => K v H := enter_prim (by rfl) (by kernel_rfl)
theorem enM_36 {rec : Rec} {lo : Nat} {args : List AV} {H : Heap} {K : AV → Heap → Prop} : VO (aenter (NC.withPrims PPM) rec lo 36 args H) K = AO (p36 args) fun v => K v H := enter_prim (by rfl) (by kernel_rfl)
theorem enM_120 {rec : Rec} {lo : Nat} {args : List AV} {H : Heap} {K : AV → Heap → Prop} : VO (aenter (NC.withPrims PPM) rec lo 120 args H) K = AO (p120 args) fun v => K v H := enter_prim (by rfl) (by kernel_rfl)
theorem enM_106 {rec : Rec} {lo : Nat} {args : List AV} {H : Heap} {K : AV → Heap → Prop} : VO (aenter (NC.withPrims PPM) rec lo 106 args H) K = AO (p106 args) fun v => K v H := enter_prim (by rfl) (by kernel_rfl)
theorem enM_179 {rec : Rec} {lo : Nat} {args : List AV} {H : Heap} {K : AV → Heap → Prop} : VO (aenter (NC.withPrims PPM) rec lo 179 args H) K = AO (p179 args) fun v => K v H := enter_prim (by rfl) (by kernel_rfl)
theorem enM_126 {rec : Rec} {lo : Nat} {args : List AV} {H : Heap} {K : AV → Heap → Prop} : VO (aenter (NC.withPrims PPM) rec lo 126 args H) K = AO (p126 args) fun v => K v H := enter_prim (by rfl) (by kernel_rfl)
theorem enM_103 {rec : Rec} {lo : Nat} {args : List AV} {H : Heap} {K : AV → Heap → Prop} : VO (aenter (NC.withPrims PPM) rec lo 103 args H) K = AO (p103 args) fun v => K v H := enter_prim (by rfl) (by kernel_rfl)
theorem enM_104 {rec : Rec} {lo : Nat} {args : List AV} {H : Heap} {K : AV → Heap → Prop} : VO (aenter (NC.withPrims PPM) rec lo 104 args H) K = AO (p104 args) fun v => K v H := enter_prim (by rfl) (by kernel_rfl)
theorem enM_105 {rec : Rec} {lo : Nat} {args : List AV} {H : Heap} {K : AV → Heap → Prop} : VO (aenter (NC.withPrims PPM) rec lo 105 args H) K = AO (p105 args) fun v => K v H := enter_prim (by rfl) (by kernel_rfl)
theorem enM_99 {rec : Rec} {lo : Nat} {args : List AV} {H : Heap} {K : AV → Heap → Prop} : VO (aenter (NC.withPrims PPM) rec lo 99 args H) K = AO (p99 args) fun v => K v H := enter_prim (by rfl) (by kernel_rfl)
theorem enM_226 {rec : Rec} {lo : Nat} {args : List AV} {H : Heap} {K : AV → Heap → Prop} : VO (aenter (NC.withPrims PPM) rec lo 226 args H) K = AO (p226 args) fun v => K v H := enter_prim (by rfl) (by kernel_rfl)
theorem enM_134 {rec : Rec} {lo : Nat} {args : List AV} {H : Heap} {K : AV → Heap → Prop} : VO (aenter (NC.withPrims PPM) rec lo 134 args H) K = AO (p134 args) fun v => K v H := enter_prim (by rfl) (by kernel_rfl)
theorem enM_177 {rec : Rec} {lo : Nat} {args : List AV} {H : Heap} {K : AV → Heap → Prop} : VO (aenter (NC.withPrims PPM) rec lo 177 args H) K = AO (p177 args) fun v => K v H := enter_prim (by rfl) (by kernel_rfl)
theorem enM_180 {rec : Rec} {lo : Nat} {args : List AV} {H : Heap} {K : AV → Heap → Prop} : VO (aenter (NC.withPrims PPM) rec lo 180 args H) K = AO (p180 args) fun v => K v H := enter_prim (by rfl) (by kernel_rfl)
theorem enM_98 {rec : Rec} {lo : Nat} {args : List AV} {H : Heap} {K : AV → Heap → Prop} : VO (aenter (NC.withPrims PPM) rec lo 98 args H) K = AO (p98 args) fun v => K v H := enter_prim (by rfl) (by kernel_rfl)
theorem enM_181 {rec : Rec} {lo : Nat} {args : List AV} {H : Heap} {K : AV → Heap → Prop} : VO (aenter (NC.withPrims PPM) rec lo 181 args H) K = AO (p181 args) fun v => K v H := enter_prim (by rfl) (by kernel_rfl)
theorem enM_183 {rec : Rec} {lo : Nat} {args : List AV} {H : Heap} {K : AV → Heap → Prop} : VO (aenter (NC.withPrims PPM) rec lo 183 args H) K = AO (p183 args) fun v => K v H := enter_prim (by rfl) (by kernel_rfl)
theorem enM_110 {rec : Rec} {lo : Nat} {args : List AV} {H : Heap} {K : AV → Heap → Prop} : VO (aenter (NC.withPrims PPM) rec lo 110 args H) K = AO (p110 args) fun v => K v H := enter_prim (by rfl) (by kernel_rfl)
theorem enM_112 {rec : Rec} {lo : Nat} {args : List AV} {H : Heap} {K : AV → Heap → Prop} : VO (aenter (NC.withPrims PPM) rec lo 112 args H) K = AO (p112 args) fun v => K v H := enter_prim (by rfl) (by kernel_rfl)
theorem enM_113 {rec : Rec} {lo : Nat} {args : List AV} {H : Heap} {K : AV → Heap → Prop} : VO (aenter (NC.withPrims PPM) rec lo 113 args H) K = AO (p113 args) fun v => K v H := enter_prim (by rfl) (by kernel_rfl)
theorem enM_29 {rec : Rec} {lo : Nat} {args : List AV} {H : Heap} {K : AV → Heap → Prop} : VO (aenter (NC.withPrims PPM) rec lo 29 args H) K = AO (p29 args) fun v => K v H := enter_prim (by rfl) (by kernel_rfl)
theorem enM_100 {rec : Rec} {lo : Nat} {args : List AV} {H : Heap} {K : AV → Heap → Prop} : VO (aenter (NC.withPrims PPM) rec lo 100 args H) K = AO (p100 args) fun v => K v H := enter_prim (by rfl) (by kernel_rfl)
theorem enM_101 {rec : Rec} {lo : Nat} {args : List AV} {H : Heap} {K : AV → Heap → Prop} : VO (aenter (NC.withPrims PPM) rec lo 101 args H) K = AO (p101 args) fun v => K v H := enter_prim (by rfl) (by kernel_rfl)
theorem enM_102 {rec : Rec} {lo : Nat} {args : List AV} {H : Heap} {K : AV → Heap → Prop} : VO (aenter (NC.withPrims PPM) rec lo 102 args H) K = AO (p102 args) fun v => K v H := enter_prim (by rfl) (by kernel_rfl)
attribute [go_sem ↓] enM_48 enM_121 enM_34 enM_111 enM_26 enM_178 enM_109 enM_108 enM_27 enM_97 enM_122 enM_182
attribute [go_sem ↓] enM_35 enM_115 enM_36 enM_120 enM_106 enM_179 enM_126 enM_103 enM_104 enM_105 enM_99 enM_226
attribute [go_sem ↓] enM_134 enM_177 enM_180 enM_98 enM_181 enM_183 enM_110 enM_112 enM_113 enM_29 enM_100 enM_101
attribute [go_sem ↓] enM_102
theorem placedP_shape (n : Net) (s : List Nat) (piece post : Int) : ∃ s' m' e, placedP n s piece post = [.agg [.str s', .int .i64 m'], .int .i64 e] := by
  unfold placedP placedV
  simp only []
  split
  · split
    · split
      · exact ⟨_, _, _, rfl⟩
      · split <;> exact ⟨_, _, _, rfl⟩
    · exact ⟨_, _, _, rfl⟩
  · exact ⟨_, _, _, rfl⟩
theorem c21 (n : Net) (s : List Nat) (piece post : Int) (hn : n.Ok) : ∀ lo H, CallOk NC lo 21 [.agg n.cells, .agg [.str s, i64 piece, i64 post]] H (.tup (if netP n = 0 then placedP n s piece post else [noPlace, i64 (netP n)])) H := by
  refine contract saneNC primsM (fn := Tryz.f21) (by kernel_rfl) Tryz.func21 rfl rfl (by rfl) (by split; exact placedP_pure ..; rfl) ?_
  have e29 := pe29 n hn
  have e102 := pe102 (n, s, piece, post) hn
  obtain ⟨s', m', e, hpl⟩ := placedP_shape n s piece post
  simp only [Net.cells, i64, hpl] at e29 e102 ⊢
  generalize hE : netP n = E at e29 ⊢
  rcases Classical.propComplete (E = 0) with z | z <;> simp only [go_sem, reduceIte, Nat.reduceEqDiff, Nat.reduceAdd, Nat.reduceMul, Nat.reduceSub, Nat.reduceLeDiff, Nat.reduceLT, Nat.reduceBEq, reduceCtorEq, Net.cells, e29, e102, z, noPlace, hpl]
end Go.Sim

/-
The reference: Addressed, Placed.
-/
namespace Go.Sim
open Go Go.Proofs
set_option maxRecDepth 100000
set_option maxHeartbeats 8000000
def offI (p : Pc) (post : Int) : Int := if p.back then wrapq .i64 (Int.sub p.post post) else wrapq .i64 (Int.sub post p.post)
def metreOfI (l : Ln) (k : Nat) (post : Int) : Int := match l.ps[k]? with
  | none => 0
  | some p => if decide (offI p post < 0) || !decide (offI p post < p.len) then -1 else wrapq .i64 (Int.add (begI l k) (offI p post))
theorem c107 (l : Ln) (k : Nat) (post : Int) (hl : l.ps.length ≤ maxRows) (hk : k < l.ps.length) : ∀ lo H, CallOk NC lo 107 [.agg l.row, i64 k, i64 post] H (i64 (metreOfI l k post)) H := by
  refine contract saneNC primsM (fn := Tryz.f107) (by kernel_rfl) Tryz.func107 rfl rfl (by rfl) (by rfl) ?_
  obtain ⟨p, hp⟩ : ∃ p, l.ps[k]? = some p := ⟨l.ps[k], by simp⟩
  have hr := map_at (f := Pc.row) hp
  have e108 := pe108 (l, k) ⟨Nat.le_of_lt hk, hl⟩
  obtain ⟨pl, pq, pb⟩ := p
  simp only [Pc.row] at hr
  simp only [Ln.row, i64] at e108
  have hbeg : sumW (l.ps.take k) 0 = begI l k := rfl
  rw [hbeg] at e108
  cases pb with
  | true =>
    generalize hE : wrapq .i64 (Int.sub pq post) = E
    have hsp : metreOfI l k post = if decide (E < 0) || !decide (E < pl) then -1 else wrapq .i64 (Int.add (begI l k) E) := by
      unfold metreOfI offI; simp only [hp, hE, if_true]
    rcases Classical.propComplete (E < 0) with c1 | c1 <;> rcases Classical.propComplete (E < pl) with c2 | c2 <;> simp only [go_sem, reduceIte, Nat.reduceEqDiff, Nat.reduceAdd, Nat.reduceMul, Nat.reduceSub, Nat.reduceLeDiff, Nat.reduceLT, Nat.reduceBEq, reduceCtorEq, Ln.row, List.length_map, hk, hr, e108, hE, c1, c2] <;> simp [hsp, c1, c2] <;> rfl
  | false =>
    generalize hE : wrapq .i64 (Int.sub post pq) = E
    have hsp : metreOfI l k post = if decide (E < 0) || !decide (E < pl) then -1 else wrapq .i64 (Int.add (begI l k) E) := by
      unfold metreOfI offI; simp only [hp, hE, Bool.false_eq_true, if_false]
    rcases Classical.propComplete (E < 0) with c1 | c1 <;> rcases Classical.propComplete (E < pl) with c2 | c2 <;> simp only [go_sem, reduceIte, Nat.reduceEqDiff, Nat.reduceAdd, Nat.reduceMul, Nat.reduceSub, Nat.reduceLeDiff, Nat.reduceLT, Nat.reduceBEq, reduceCtorEq, Ln.row, List.length_map, hk, hr, e108, hE, c1, c2] <;> simp [hsp, c1, c2] <;> rfl
noncomputable def p107 : List AV → Option AV := primOf (α := Ln × Nat × Int) (fun x => [.agg x.1.row, i64 x.2.1, i64 x.2.2]) (fun x => x.1.ps.length ≤ maxRows ∧ x.2.1 < x.1.ps.length) (fun x => i64 (metreOfI x.1 x.2.1 x.2.2))
theorem pok107 : ∀ args v, p107 args = some v → ∀ lo H, CallOk NC lo 107 args H v H := by
  intro args v h
  obtain ⟨x, rfl, hp, rfl⟩ := primOf_inv h
  clear h
  revert x
  intro x hx; exact c107 x.1 x.2.1 x.2.2 hx.1 hx.2
noncomputable def PPN : FuncId → Option (List AV → Option AV) := addPrim 107 p107 (PPM)
theorem primsN : PrimsOk NC PPN := primsOk_add (primsM) (by kernel_rfl) (by kernel_rfl) pok107
theorem enN_48 {rec : Rec} {lo : Nat} {args : List AV} {H : Heap} {K : AV → Heap → Prop} : VO (aenter (NC.withPrims PPN) rec lo 48 args H) K = AO (p48 args) fun v => K v H := enter_prim (by rfl) (by kernel_rfl)
theorem enN_121 {rec : Rec} {lo : Nat} {args : List AV} {H : Heap} {K : AV → Heap → Prop} : VO (aenter (NC.withPrims PPN) rec lo 121 args H) K = AO (p121 args) fun v => K v H := enter_prim (by rfl) (by kernel_rfl)
theorem enN_34 {rec : Rec} {lo : Nat} {args : List AV} {H : Heap} {K : AV → Heap → Prop} : VO (aenter (NC.withPrims PPN) rec lo 34 args H) K = AO (p34 args) fun v => K v H := enter_prim (by rfl) (by kernel_rfl)
theorem enN_111 {rec : Rec} {lo : Nat} {args : List AV} {H : Heap} {K : AV → Heap → Prop} : VO (aenter (NC.withPrims PPN) rec lo 111 args H) K = AO (p111 args) fun v => K v H := enter_prim (by rfl) (by kernel_rfl)
theorem enN_26 {rec : Rec} {lo : Nat} {args : List AV} {H : Heap} {K : AV → Heap → Prop} : VO (aenter (NC.withPrims PPN) rec lo 26 args H) K = AO (p26 args) fun v => K v H := enter_prim (by rfl) (by kernel_rfl)
theorem enN_178 {rec : Rec} {lo : Nat} {args : List AV} {H : Heap} {K : AV → Heap → Prop} : VO (aenter (NC.withPrims PPN) rec lo 178 args H) K = AO (p178 args) fun v => K v H := enter_prim (by rfl) (by kernel_rfl)
theorem enN_109 {rec : Rec} {lo : Nat} {args : List AV} {H : Heap} {K : AV → Heap → Prop} : VO (aenter (NC.withPrims PPN) rec lo 109 args H) K = AO (p109 args) fun v => K v H := enter_prim (by rfl) (by kernel_rfl)
theorem enN_108 {rec : Rec} {lo : Nat} {args : List AV} {H : Heap} {K : AV → Heap → Prop} : VO (aenter (NC.withPrims PPN) rec lo 108 args H) K = AO (p108 args) fun v => K v H := enter_prim (by rfl) (by kernel_rfl)
theorem enN_27 {rec : Rec} {lo : Nat} {args : List AV} {H : Heap} {K : AV → Heap → Prop} : VO (aenter (NC.withPrims PPN) rec lo 27 args H) K = AO (p27 args) fun v => K v H := enter_prim (by rfl) (by kernel_rfl)
theorem enN_97 {rec : Rec} {lo : Nat} {args : List AV} {H : Heap} {K : AV → Heap → Prop} : VO (aenter (NC.withPrims PPN) rec lo 97 args H) K = AO (p97 args) fun v => K v H := enter_prim (by rfl) (by kernel_rfl)
theorem enN_122 {rec : Rec} {lo : Nat} {args : List AV} {H : Heap} {K : AV → Heap → Prop} : VO (aenter (NC.withPrims PPN) rec lo 122 args H) K = AO (p122 args) fun v => K v H := enter_prim (by rfl) (by kernel_rfl)
theorem enN_182 {rec : Rec} {lo : Nat} {args : List AV} {H : Heap} {K : AV → Heap → Prop} : VO (aenter (NC.withPrims PPN) rec lo 182 args H) K = AO (p182 args) fun v => K v H := enter_prim (by rfl) (by kernel_rfl)
theorem enN_35 {rec : Rec} {lo : Nat} {args : List AV} {H : Heap} {K : AV → Heap → Prop} : VO (aenter (NC.withPrims PPN) rec lo 35 args H) K = AO (p35 args) fun v => K v H := enter_prim (by rfl) (by kernel_rfl)
theorem enN_115 {rec : Rec} {lo : Nat} {args : List AV} {H : Heap} {K : AV → Heap → Prop} : VO (aenter (NC.withPrims PPN) rec lo 115 args H) K = AO (p115 args) fun v => K v H := enter_prim (by rfl) (by kernel_rfl)
theorem enN_36 {rec : Rec} {lo : Nat} {args : List AV} {H : Heap} {K : AV → Heap → Prop} : VO (aenter (NC.withPrims PPN) rec lo 36 args H) K = AO (p36 args) fun v => K v H := enter_prim (by rfl) (by kernel_rfl)
theorem enN_120 {rec : Rec} {lo : Nat} {args : List AV} {H : Heap} {K : AV → Heap → Prop} : VO (aenter (NC.withPrims PPN) rec lo 120 args H) K = AO (p120 args) fun v => K v H := enter_prim (by rfl) (by kernel_rfl)
theorem enN_106 {rec : Rec} {lo : Nat} {args : List AV} {H : Heap} {K : AV → Heap → Prop} : VO (aenter (NC.withPrims PPN) rec lo 106 args H) K = AO (p106 args) fun v => K v H := enter_prim (by rfl) (by kernel_rfl)
theorem enN_179 {rec : Rec} {lo : Nat} {args : List AV} {H : Heap} {K : AV → Heap → Prop} : VO (aenter (NC.withPrims PPN) rec lo 179 args H) K = AO (p179 args) fun v => K v H := enter_prim (by rfl) (by kernel_rfl)
theorem enN_126 {rec : Rec} {lo : Nat} {args : List AV} {H : Heap} {K : AV → Heap → Prop} : VO (aenter (NC.withPrims PPN) rec lo 126 args H) K = AO (p126 args) fun v => K v H := enter_prim (by rfl) (by kernel_rfl)
theorem enN_103 {rec : Rec} {lo : Nat} {args : List AV} {H : Heap} {K : AV → Heap → Prop} : VO (aenter (NC.withPrims PPN) rec lo 103 args H) K = AO (p103 args) fun v => K v H := enter_prim (by rfl) (by kernel_rfl)
theorem enN_104 {rec : Rec} {lo : Nat} {args : List AV} {H : Heap} {K : AV → Heap → Prop} : VO (aenter (NC.withPrims PPN) rec lo 104 args H) K = AO (p104 args) fun v => K v H := enter_prim (by rfl) (by kernel_rfl)
theorem enN_105 {rec : Rec} {lo : Nat} {args : List AV} {H : Heap} {K : AV → Heap → Prop} : VO (aenter (NC.withPrims PPN) rec lo 105 args H) K = AO (p105 args) fun v => K v H := enter_prim (by rfl) (by kernel_rfl)
theorem enN_99 {rec : Rec} {lo : Nat} {args : List AV} {H : Heap} {K : AV → Heap → Prop} : VO (aenter (NC.withPrims PPN) rec lo 99 args H) K = AO (p99 args) fun v => K v H := enter_prim (by rfl) (by kernel_rfl)
theorem enN_226 {rec : Rec} {lo : Nat} {args : List AV} {H : Heap} {K : AV → Heap → Prop} : VO (aenter (NC.withPrims PPN) rec lo 226 args H) K = AO (p226 args) fun v => K v H := enter_prim (by rfl) (by kernel_rfl)
theorem enN_134 {rec : Rec} {lo : Nat} {args : List AV} {H : Heap} {K : AV → Heap → Prop} : VO (aenter (NC.withPrims PPN) rec lo 134 args H) K = AO (p134 args) fun v => K v H := enter_prim (by rfl) (by kernel_rfl)
theorem enN_177 {rec : Rec} {lo : Nat} {args : List AV} {H : Heap} {K : AV → Heap → Prop} : VO (aenter (NC.withPrims PPN) rec lo 177 args H) K = AO (p177 args) fun v => K v H := enter_prim (by rfl) (by kernel_rfl)
theorem enN_180 {rec : Rec} {lo : Nat} {args : List AV} {H : Heap} {K : AV → Heap → Prop} : VO (aenter (NC.withPrims PPN) rec lo 180 args H) K = AO (p180 args) fun v => K v H := enter_prim (by rfl) (by kernel_rfl)
theorem enN_98 {rec : Rec} {lo : Nat} {args : List AV} {H : Heap} {K : AV → Heap → Prop} : VO (aenter (NC.withPrims PPN) rec lo 98 args H) K = AO (p98 args) fun v => K v H := enter_prim (by rfl) (by kernel_rfl)
theorem enN_181 {rec : Rec} {lo : Nat} {args : List AV} {H : Heap} {K : AV → Heap → Prop} : VO (aenter (NC.withPrims PPN) rec lo 181 args H) K = AO (p181 args) fun v => K v H := enter_prim (by rfl) (by kernel_rfl)
theorem enN_183 {rec : Rec} {lo : Nat} {args : List AV} {H : Heap} {K : AV → Heap → Prop} : VO (aenter (NC.withPrims PPN) rec lo 183 args H) K = AO (p183 args) fun v => K v H := enter_prim (by rfl) (by kernel_rfl)
theorem enN_110 {rec : Rec} {lo : Nat} {args : List AV} {H : Heap} {K : AV → Heap → Prop} : VO (aenter (NC.withPrims PPN) rec lo 110 args H) K = AO (p110 args) fun v => K v H := enter_prim (by rfl) (by kernel_rfl)
theorem enN_112 {rec : Rec} {lo : Nat} {args : List AV} {H : Heap} {K : AV → Heap → Prop} : VO (aenter (NC.withPrims PPN) rec lo 112 args H) K = AO (p112 args) fun v => K v H := enter_prim (by rfl) (by kernel_rfl)
theorem enN_113 {rec : Rec} {lo : Nat} {args : List AV} {H : Heap} {K : AV → Heap → Prop} : VO (aenter (NC.withPrims PPN) rec lo 113 args H) K = AO (p113 args) fun v => K v H := enter_prim (by rfl) (by kernel_rfl)
theorem enN_29 {rec : Rec} {lo : Nat} {args : List AV} {H : Heap} {K : AV → Heap → Prop} : VO (aenter (NC.withPrims PPN) rec lo 29 args H) K = AO (p29 args) fun v => K v H := enter_prim (by rfl) (by kernel_rfl)
theorem enN_100 {rec : Rec} {lo : Nat} {args : List AV} {H : Heap} {K : AV → Heap → Prop} : VO (aenter (NC.withPrims PPN) rec lo 100 args H) K = AO (p100 args) fun v => K v H := enter_prim (by rfl) (by kernel_rfl)
theorem enN_101 {rec : Rec} {lo : Nat} {args : List AV} {H : Heap} {K : AV → Heap → Prop} : VO (aenter (NC.withPrims PPN) rec lo 101 args H) K = AO (p101 args) fun v => K v H := enter_prim (by rfl) (by kernel_rfl)
theorem enN_102 {rec : Rec} {lo : Nat} {args : List AV} {H : Heap} {K : AV → Heap → Prop} : VO (aenter (NC.withPrims PPN) rec lo 102 args H) K = AO (p102 args) fun v => K v H := enter_prim (by rfl) (by kernel_rfl)
theorem enN_107 {rec : Rec} {lo : Nat} {args : List AV} {H : Heap} {K : AV → Heap → Prop} : VO (aenter (NC.withPrims PPN) rec lo 107 args H) K = AO (p107 args) fun v => K v H := enter_prim (by rfl) (by kernel_rfl)
attribute [go_sem ↓] enN_48 enN_121 enN_34 enN_111 enN_26 enN_178 enN_109 enN_108 enN_27 enN_97 enN_122 enN_182
attribute [go_sem ↓] enN_35 enN_115 enN_36 enN_120 enN_106 enN_179 enN_126 enN_103 enN_104 enN_105 enN_99 enN_226
attribute [go_sem ↓] enN_134 enN_177 enN_180 enN_98 enN_181 enN_183 enN_110 enN_112 enN_113 enN_29 enN_100 enN_101
attribute [go_sem ↓] enN_102 enN_107
end Go.Sim

/-
The plain law: the program's errors are the reference's.
-/
namespace Go.Sim
open Go
theorem whenI_false (e : Int) : whenI false e = 0 := rfl
theorem firstI_cons (e : Int) (r : List Int) : firstI (e :: r) = if e = 0 then firstI r else e := rfl
theorem firstI_nil : firstI [] = 0 := rfl
theorem beqL_iff : ∀ (a b : List Nat), beqL a b = true ↔ a = b
  | [], [] => by simp [beqL]
  | [], _ :: _ => by simp [beqL]
  | _ :: _, [] => by simp [beqL]
  | a :: x, b :: y => by
    unfold beqL
    by_cases h : a = b
    · subst h
      have : Nat.beq a a = true := Nat.beq_refl a
      rw [this]
      simp [beqL_iff x y]
    · have : Nat.beq a b = false := by
        cases hb : Nat.beq a b with
        | false => rfl
        | true => exact absurd (Nat.eq_of_beq_eq_true hb) h
      rw [this]
      simp [h]
theorem rangeI_zero {n a b : Int} (h : rangeI n a b = 0) : a ≤ n ∧ n ≤ b := by
  unfold rangeI whenI at h
  by_cases h1 : n < a
  · simp [h1] at h
  · by_cases h2 : b < n
    · simp [h2] at h
    · omega
theorem wrap_small {x : Int} (h : -1000000000 ≤ x) (h2 : x ≤ 1000000000) : wrapq .i64 x = x := wrapq_i64 (by omega) (by omega)
theorem last_post {p : Pc} (h1 : 1 ≤ p.len ∧ p.len ≤ 100000) (h2 : 0 ≤ p.post ∧ p.post ≤ 9999999) : lastI p = postI p (wrapq .i64 (Int.sub p.len 1)) := by
  unfold lastI postI stepI
  have e0 : Int.sub p.len 1 = p.len - 1 := rfl
  rw [e0, wrap_small (x := p.len - 1) (by omega) (by omega)]
  cases p.back with
  | true =>
    simp only [if_true]
    have e1 : Int.mul (-1) (p.len - 1) = -(p.len - 1) := by show (-1) * (p.len - 1) = _; omega
    rw [e1, wrap_small (x := -(p.len - 1)) (by omega) (by omega)]
    have e2 : Int.add p.post (-(p.len - 1)) = p.post - (p.len - 1) := by show p.post + -(p.len - 1) = _; omega
    rw [e2]
  | false =>
    simp only [Bool.false_eq_true, if_false]
    have e1 : Int.mul 1 (p.len - 1) = p.len - 1 := by show 1 * (p.len - 1) = _; omega
    rw [e1, wrap_small (x := p.len - 1) (by omega) (by omega)]
    rfl
theorem piece_same (p : Pc) : pieceP p = pieceR p := by
  unfold pieceP pieceR
  simp only [firstI_cons, firstI_nil]
  by_cases h1 : rangeI p.len 1 100000 = 0
  · by_cases h2 : rangeI p.post 0 9999999 = 0
    · have a := rangeI_zero h1
      have b := rangeI_zero h2
      have hl := last_post a b
      simp only [h1, h2, if_true, hl]
      split
      · rename_i h; rw [h]
      · rfl
    · simp [h1, h2]
  · simp [h1]
theorem dup_iff {ls : List Ln} {i : Nat} {l : Ln} (h : ls[i]? = some l) : decide (findI ls l.name < i) = dupP ((ls.take i).map Ln.name) l.name := by
  unfold dupP
  cases hd : ((ls.take i).map Ln.name).any (beqL l.name) with
  | true =>
    rw [List.any_eq_true] at hd
    obtain ⟨x, hx, hb⟩ := hd
    obtain ⟨y, hy, rfl⟩ := List.mem_map.1 hx
    obtain ⟨j, hj⟩ := List.mem_iff_getElem?.1 hy
    rw [List.getElem?_take] at hj
    split at hj
    · rename_i hji
      have he := (beqL_iff _ _).1 hb
      unfold findI findL
      cases hf : ls.findIdx? (fun l' => beqL l'.name l.name) with
      | none => simp only [decide_eq_true_eq]; omega
      | some k =>
        simp only [decide_eq_true_eq]
        rw [List.findIdx?_eq_some_iff_getElem] at hf
        obtain ⟨hk, _, hmin⟩ := hf
        have : k ≤ j := by
          rcases Nat.lt_or_ge j k with h' | h'
          · have := hmin j h'
            have hjl : ls[j]? = some y := hj
            rw [(List.getElem?_eq_some_iff.1 hjl).2] at this
            have h2 : beqL y.name l.name = true := (beqL_iff _ _).2 he.symm
            simp [h2] at this
          · exact h'
        omega
    · cases hj
  | false =>
    rw [List.any_eq_false] at hd
    have hno : ∀ j l', j < i → ls[j]? = some l' → beqL l'.name l.name = false := by
      intro j l' hj hl'
      have hm : l'.name ∈ (ls.take i).map Ln.name := List.mem_map.2 ⟨l', List.mem_of_getElem? (i := j) (by rw [List.getElem?_take_of_lt hj]; exact hl'), rfl⟩
      have := hd _ hm
      cases hb : beqL l'.name l.name with
      | false => rfl
      | true =>
        have he := (beqL_iff _ _).1 hb
        rw [he] at this
        exact absurd ((beqL_iff _ _).2 rfl) (by simpa using this)
    have := findL_drop hno h ((beqL_iff _ _).2 rfl)
    unfold findI
    rw [this]
    simp
theorem line_same (n : Net) (i : Nat) : lineP n.lines i = lineR n i := by
  unfold lineP lineR
  cases h : n.lines[i]? with
  | none => rfl
  | some l =>
    simp only []
    rw [← dup_iff h]
    have : l.ps.map pieceP = l.ps.map pieceR := List.map_congr_left fun p _ => piece_same p
    rw [this]
theorem allR_congr {f g : Nat → Int} {n : Nat} (h : ∀ i, f i = g i) : allR f n = allR g n := by
  have : f = g := funext h
  rw [this]
theorem dupB_same {α : Type} (nm : α → List Nat) (l : List α) (i : Nat) (s : List Nat) : dupP ((l.take i).map nm) s = dupB nm l i s := by
  unfold dupP dupB
  rw [List.any_map]
  congr 1
  funext x
  simp only [Function.comp]
  rw [Bool.eq_iff_iff, beqL_iff, beqL_iff]
  exact eq_comm
theorem findI_neg (ls : List Ln) (s : List Nat) : decide (findI ls s < 0) = !lnB ls s := by
  unfold findI lnB
  cases findL ls s <;> simp
theorem has_same (ls : List Ln) (s : List Nat) (m : Int) (r : List Int) : firstI (whenI (!lnB ls s) 10 :: whenI (!hasB (lnOf ls s) m) 14 :: r) = firstI (hasI ls s m :: r) := by
  unfold hasI lnB lnOf
  cases hf : findL ls s with
  | none => simp [firstI, whenI]
  | some i =>
    obtain ⟨l, hl, _⟩ := findL_at hf
    simp only [hl, Option.isSome_some, Bool.not_true, whenI_false, firstI_cons, if_true, List.getD_eq_getElem?_getD, Option.getD_some]
    have : (!hasB l m) = (decide (m < 0) || !decide (m < sumW l.ps 0)) := by
      unfold hasB
      by_cases h1 : m < 0 <;> by_cases h2 : m < sumW l.ps 0 <;> simp [h1, h2]
    rw [this]
theorem switch_same (n : Net) (i : Nat) : switchP n i = switchR n i := by
  unfold switchP switchR
  cases h : n.sws[i]? with
  | none => rfl
  | some s =>
    simp only []
    rw [dupB_same]
    cases hn : nameB s.name with
    | false => simp [firstI, whenI]
    | true =>
      simp only [Bool.not_true, whenI_false, if_true]
      rw [firstI_cons, if_pos rfl]
      cases hd : dupB Sw.name n.sws i s.name with
      | true => simp [firstI, whenI]
      | false =>
        simp only [whenI_false, Bool.false_eq_true, if_false]
        rw [firstI_cons, if_pos rfl, has_same, findI_neg]
theorem metres_same (ls : List Ln) (s : List Nat) (fr till : Int) : firstI [whenI (!lnB ls s) 10, whenI (spanB (lnOf ls s) fr till) 14] = metresI ls s fr till := by
  unfold metresI lnB lnOf
  cases hf : findL ls s with
  | none => simp [firstI, whenI]
  | some i =>
    obtain ⟨l, hl, _⟩ := findL_at hf
    simp only [hl, Option.isSome_some, Bool.not_true, whenI_false, firstI_cons, firstI_nil, if_true, List.getD_eq_getElem?_getD, Option.getD_some]
    have : spanB l fr till = (decide (fr < 0) || !decide (fr < till) || decide (sumW l.ps 0 < till)) := by
      unfold spanB hasB
      by_cases h1 : fr < 0
      · simp [h1]
      · by_cases h2 : fr < till
        · by_cases h3 : sumW l.ps 0 < till
          · simp [h3]
          · have h4 : fr < sumW l.ps 0 := by omega
            simp [h1, h2, h3, h4]
        · simp [h2]
    rw [this]
    split
    · rename_i h; exact h.symm
    · rfl
theorem struct_same (n : Net) (i : Nat) : structP n i = structR n i := by
  unfold structP structR
  cases h : n.sts[i]? with
  | none => rfl
  | some s =>
    simp only []
    rw [dupB_same]
    cases hn : nameB s.name with
    | false => simp [firstI, whenI]
    | true =>
      simp only [Bool.not_true, whenI_false, if_true]
      rw [firstI_cons, if_pos rfl]
      cases hd : dupB Stc.name n.sts i s.name with
      | true => simp [firstI, whenI]
      | false =>
        simp only [whenI_false, Bool.false_eq_true, if_false]
        rw [firstI_cons, if_pos rfl]
        cases hk : nameB s.kind with
        | false => simp [firstI, whenI]
        | true =>
          simp only [Bool.not_true, whenI_false, decide_true]
          show firstI [whenI (!lnB n.lines s.line) 10, whenI (spanB (lnOf n.lines s.line) s.fr s.till) 14] = firstI [metresI n.lines s.line s.fr s.till]
          rw [metres_same]
          simp only [firstI_cons, firstI_nil]
          split
          · rename_i h; exact h
          · rfl
theorem net_same (n : Net) : netP n = netR n := by
  unfold netP netR linesP switchesP structsP
  rw [allR_congr (line_same n), allR_congr (switch_same n), allR_congr (struct_same n)]
  by_cases h1 : (8 : Int) < n.lines.length
  · simp [h1]
  · simp only [h1, if_false]
    split
    · simp only [firstI_cons, firstI_nil]
      by_cases h2 : (8 : Int) < n.sws.length
      · simp [h2]
      · simp only [h2, if_false]
        split
        · by_cases h3 : (16 : Int) < n.sts.length
          · simp [h3]
          · simp only [h3, if_false]
            split
            · rename_i h; exact h.symm
            · rfl
        · rfl
    · rfl
theorem place_same (n : Net) (s : List Nat) (m : Int) : placeP n s m = hasI n.lines s m := by
  unfold placeP
  rw [has_same]
  simp only [firstI_cons, firstI_nil]
  split
  · rename_i h; exact h.symm
  · rfl
end Go.Sim

/-
The plain law: addresses and places of valid networks.
-/
namespace Go.Sim
open Go
theorem firstI_zero : ∀ {es : List Int}, firstI es = 0 → ∀ e ∈ es, e = 0
  | [], _, e, he => by simp at he
  | a :: r, h, e, he => by
    rw [firstI_cons] at h
    by_cases ha : a = 0
    · rw [if_pos ha] at h
      rcases List.mem_cons.1 he with rfl | he
      · exact ha
      · exact firstI_zero h e he
    · rw [if_neg ha] at h; exact absurd h ha
theorem allR_zero {f : Nat → Int} {n : Nat} (h : allR f n = 0) {i : Nat} (hi : i < n) : f i = 0 :=
  firstI_zero h _ (List.mem_map.2 ⟨i, by simpa using hi, rfl⟩)
structure Ln.Good (l : Ln) : Prop where
  few : l.ps.length ≤ 8
  piece : ∀ p ∈ l.ps, 1 ≤ p.len ∧ p.len ≤ 100000 ∧ 0 ≤ p.post ∧ p.post ≤ 9999999
theorem netR_lines {n : Net} (h : netR n = 0) : allR (lineR n) n.lines.length = 0 := by
  unfold netR at h
  by_cases h1 : (8 : Int) < n.lines.length
  · simp [h1] at h
  · simp only [h1, if_false] at h
    split at h
    · rename_i h2; exact h2
    · exact h
theorem line_good {n : Net} (h : netR n = 0) {i : Nat} {l : Ln} (hl : n.lines[i]? = some l) : l.Good := by
  have hz := allR_zero (netR_lines h) (List.getElem?_eq_some_iff.1 hl).1
  unfold lineR at hz
  simp only [hl] at hz
  split at hz
  · rename_i he
    have hm := firstI_zero he
    have hp := firstI_zero hz
    refine ⟨?_, fun p hpm => ?_⟩
    · have := hm (whenI (decide ((8 : Int) < l.ps.length)) 5) (by simp)
      by_cases h8 : (8 : Int) < l.ps.length
      · simp [h8, whenI] at this
      · omega
    · have := hp (pieceR p) (List.mem_map.2 ⟨p, hpm, rfl⟩)
      unfold pieceR at this
      simp only [] at this
      split at this
      · rename_i h2
        have h3 := firstI_zero h2
        have a := rangeI_zero (h3 (rangeI p.len 1 100000) (by simp))
        have b := rangeI_zero (h3 (rangeI p.post 0 9999999) (by simp))
        exact ⟨a.1, a.2, b.1, b.2⟩
      · rename_i h2; exact absurd this h2
  · rename_i he; exact absurd hz he
variable {l : Ln}
theorem beg_bound (hg : l.Good) : ∀ k, k ≤ l.ps.length → 0 ≤ begI l k ∧ begI l k ≤ 100000 * (k : Int)
  | 0, _ => by simp [begI, sumW]
  | k + 1, hk => by
    have ih := beg_bound hg k (by omega)
    obtain ⟨p, hp⟩ : ∃ p, l.ps[k]? = some p := ⟨l.ps[k], by simp⟩
    have hgp := hg.piece p (List.mem_of_getElem? hp)
    rw [begI_succ hp]
    have h8 := hg.few
    have e : Int.add (begI l k) p.len = begI l k + p.len := rfl
    rw [e, wrap_small (by omega) (by omega)]
    push_cast
    omega
theorem beg_step (hg : l.Good) {k : Nat} {p : Pc} (hp : l.ps[k]? = some p) : begI l (k + 1) = begI l k + p.len := by
  have hk := (List.getElem?_eq_some_iff.1 hp).1
  have ih := beg_bound hg k (by omega)
  have hgp := hg.piece p (List.mem_of_getElem? hp)
  have h8 := hg.few
  rw [begI_succ hp]
  have e : Int.add (begI l k) p.len = begI l k + p.len := rfl
  rw [e, wrap_small (by omega) (by omega)]
theorem beg_mono (hg : l.Good) {j : Nat} : ∀ {k : Nat}, j ≤ k → k ≤ l.ps.length → begI l j ≤ begI l k
  | 0, hj, _ => by have : j = 0 := by omega
                   rw [this]; exact Int.le_refl _
  | k + 1, hj, hk => by
    by_cases e : j = k + 1
    · rw [e]; exact Int.le_refl _
    · have ih := beg_mono hg (j := j) (k := k) (by omega) (by omega)
      obtain ⟨p, hp⟩ : ∃ p, l.ps[k]? = some p := ⟨l.ps[k], by simp⟩
      have hgp := hg.piece p (List.mem_of_getElem? hp)
      have := beg_step hg hp
      omega
theorem addrK_at (hg : l.Good) {m : Int} (hm : 0 ≤ m) : ∀ n, n ≤ l.ps.length → (begI l n ≤ m → addrK l m n = (0, 0)) ∧
    (m < begI l n → ∃ k p, k < n ∧ l.ps[k]? = some p ∧ begI l k ≤ m ∧ m < begI l (k + 1) ∧ addrK l m n = ((k : Int), wrapq .i64 (Int.add p.post (wrapq .i64 (Int.mul (stepI p.back) (wrapq .i64 (Int.sub m (begI l k))))))))
  | 0, _ => ⟨fun _ => rfl, fun h => by have := (beg_bound hg 0 (by omega)).2; simp [begI, sumW] at h; omega⟩
  | n + 1, hn => by
    obtain ⟨h1, h2⟩ := addrK_at hg hm n (by omega)
    obtain ⟨p, hp⟩ : ∃ p, l.ps[n]? = some p := ⟨l.ps[n], by simp⟩
    have hstep := beg_step hg hp
    have hgp := hg.piece p (List.mem_of_getElem? hp)
    have hu : addrK l m (n + 1) = if !decide (m < begI l n) && decide (m < begI l (n + 1)) then ((n : Int), wrapq .i64 (Int.add p.post (wrapq .i64 (Int.mul (stepI p.back) (wrapq .i64 (Int.sub m (begI l n))))))) else addrK l m n := by
      show (match l.ps[n]? with | none => _ | some p => _) = _
      rw [hp]
    rw [hu]
    by_cases c1 : m < begI l n
    · refine ⟨fun h => by omega, fun _ => ?_⟩
      obtain ⟨k, p', a, b, c, d, e⟩ := h2 c1
      refine ⟨k, p', by omega, b, c, d, ?_⟩
      simp only [c1, decide_true, Bool.not_true, Bool.false_and, Bool.false_eq_true, if_false]
      exact e
    · by_cases c2 : m < begI l (n + 1)
      · refine ⟨fun h => by omega, fun _ => ⟨n, p, by omega, hp, by omega, c2, ?_⟩⟩
        simp [c1, c2]
      · refine ⟨fun _ => ?_, fun h => absurd h c2⟩
        simp only [c2, decide_false, Bool.and_false, Bool.false_eq_true, if_false]
        exact h1 (by omega)
theorem post_same {p : Pc} {x : Int} (h1 : 0 ≤ x ∧ x ≤ 100000) : wrapq .i64 (Int.add p.post (wrapq .i64 (Int.mul (stepI p.back) (wrapq .i64 x)))) = postI p (wrapq .i64 x) := by
  rw [wrap_small (x := x) (by omega) (by omega)]
  unfold postI stepI
  cases p.back with
  | true =>
    simp only [if_true]
    have e1 : Int.mul (-1) x = -x := by show (-1) * x = _; omega
    rw [e1, wrap_small (x := -x) (by omega) (by omega)]
    have e2 : Int.add p.post (-x) = p.post - x := by show p.post + -x = _; omega
    rw [e2]
  | false =>
    simp only [Bool.false_eq_true, if_false]
    have e1 : Int.mul 1 x = x := by show 1 * x = _; omega
    rw [e1, wrap_small (x := x) (by omega) (by omega)]
    rfl
theorem off_same {p : Pc} {post : Int} (h1 : 0 ≤ p.post ∧ p.post ≤ 9999999) (h2 : 0 ≤ post ∧ post ≤ 9999999) : metreI p post = offI p post := by
  unfold metreI offI stepI
  have e : Int.sub post p.post = post - p.post := rfl
  have e' : Int.sub p.post post = p.post - post := rfl
  rw [e, e', wrap_small (x := post - p.post) (by omega) (by omega)]
  cases p.back with
  | true =>
    simp only [if_true]
    have e1 : Int.mul (post - p.post) (-1) = p.post - post := by show (post - p.post) * (-1) = _; omega
    rw [e1]
  | false =>
    simp only [Bool.false_eq_true, if_false]
    have e1 : Int.mul (post - p.post) 1 = post - p.post := by show (post - p.post) * 1 = _; omega
    rw [e1, wrap_small (x := post - p.post) (by omega) (by omega)]
end Go.Sim

/-
Maps: data; the small functions, of the program and of the reference.
-/
namespace Go.Sim
open Go Go.Proofs
set_option maxRecDepth 100000
set_option maxHeartbeats 4000000
structure Mv where
  line : List Nat
  fr : Int
  len : Int
  other : List Nat
  to : Int
  turned : Bool
def Mv.row (x : Mv) : List AV := [.str x.line, i64 x.fr, i64 x.len, .str x.other, i64 x.to, .bool x.turned]
theorem Mv.row_inj (a b : Mv) (h : a.row = b.row) : a = b := by
  cases a; cases b; simp [Mv.row] at h; obtain ⟨rfl, rfl, rfl, rfl, rfl, rfl⟩ := h; rfl
theorem Mv.row_len (p : Mv) : p.row.length = 6 := rfl
theorem Net.cells_iff (a b : Net) : a.cells = b.cells ↔ a = b := ⟨Net.cells_inj a b, fun h => by rw [h]⟩
theorem Ln.row_iff (a b : Ln) : a.row = b.row ↔ a = b := ⟨Ln.row_inj a b, fun h => by rw [h]⟩
theorem Pc.row_iff (a b : Pc) : a.row = b.row ↔ a = b := ⟨Pc.row_inj a b, fun h => by rw [h]⟩
theorem Mv.row_iff (a b : Mv) : a.row = b.row ↔ a = b := ⟨Mv.row_inj a b, fun h => by rw [h]⟩
theorem lns_iff (a b : List Ln) : a.map Ln.row = b.map Ln.row ↔ a = b := ⟨fun h => map_inj Ln.row_inj h, fun h => by rw [h]⟩
theorem pcs_iff (a b : List Pc) : a.map Pc.row = b.map Pc.row ↔ a = b := ⟨fun h => map_inj Pc.row_inj h, fun h => by rw [h]⟩
theorem mvs_iff (a b : List Mv) : a.map Mv.row = b.map Mv.row ↔ a = b := ⟨fun h => map_inj Mv.row_inj h, fun h => by rw [h]⟩
end Go.Sim

/-
The law: what it takes for short.
-/
namespace Go.Sim
open Go Go.Proofs
set_option maxRecDepth 100000
set_option maxHeartbeats 8000000
def shortLn (l : Ln) : Bool := shortB l.name && !decide ((9 : Int) < l.ps.length)
def shortSw (s : Sw) : Bool := shortB s.name && shortB s.line && shortB s.other
def shortSt (s : Stc) : Bool := shortB s.name && shortB s.kind && shortB s.line
def shortN (n : Net) : Bool := !(decide ((9 : Int) < n.lines.length) || decide ((9 : Int) < n.sws.length) || decide ((17 : Int) < n.sts.length)) && n.lines.all shortLn && n.sws.all shortSw && n.sts.all shortSt
theorem all_false {α : Type} {f : α → Bool} {l : List α} {k : Nat} {x : α} (h : l[k]? = some x) (hf : f x = false) : l.all f = false := by
  rw [List.all_eq_false]; exact ⟨x, List.mem_of_getElem? h, by simp [hf]⟩
theorem all_true {α : Type} {f : α → Bool} {l : List α} (h : ∀ (j : Nat) x, j < l.length → l[j]? = some x → f x = true) : l.all f = true := by
  rw [List.all_eq_true]
  intro x hx
  obtain ⟨j, hj⟩ := List.mem_iff_getElem?.1 hx
  exact h j x (List.getElem?_eq_some_iff.1 hj).1 hj
theorem c17 (n : Net) : ∀ lo H, CallOk NC lo 17 [.agg n.cells] H (.bool (shortN n)) H := by
  refine contract saneNC primsN (fn := Tryz.f17) (by kernel_rfl) Tryz.func17 rfl rfl (by rfl) (by rfl) ?_
  rcases Classical.propComplete ((9 : Int) < n.lines.length) with q1 | q1
  · simp only [go_sem, reduceIte, Nat.reduceEqDiff, Nat.reduceAdd, Nat.reduceMul, Nat.reduceSub, Nat.reduceLeDiff, Nat.reduceLT, Nat.reduceBEq, reduceCtorEq, Net.cells, List.length_map, q1]
    simp [shortN, q1]
  rcases Classical.propComplete ((9 : Int) < n.sws.length) with q2 | q2
  · simp only [go_sem, reduceIte, Nat.reduceEqDiff, Nat.reduceAdd, Nat.reduceMul, Nat.reduceSub, Nat.reduceLeDiff, Nat.reduceLT, Nat.reduceBEq, reduceCtorEq, Net.cells, List.length_map, q1, q2]
    simp [shortN, q1, q2]
  rcases Classical.propComplete ((17 : Int) < n.sts.length) with q3 | q3
  · simp only [go_sem, reduceIte, Nat.reduceEqDiff, Nat.reduceAdd, Nat.reduceMul, Nat.reduceSub, Nat.reduceLeDiff, Nat.reduceLT, Nat.reduceBEq, reduceCtorEq, Net.cells, List.length_map, q1, q2, q3]
    simp [shortN, q1, q2, q3]
  have z1 : n.lines.length ≤ maxRows := by have := of_eq_false q1; unfold maxRows; omega
  have z2 : n.sws.length ≤ maxRows := by have := of_eq_false q2; unfold maxRows; omega
  have z3 : n.sts.length ≤ maxRows := by have := of_eq_false q3; unfold maxRows; omega
  have hsp : shortN n = (n.lines.all shortLn && n.sws.all shortSw && n.sts.all shortSt) := by simp [shortN, q1, q2, q3]
  rw [hsp]
  simp only [go_sem, reduceIte, Nat.reduceEqDiff, Nat.reduceAdd, Nat.reduceMul, Nat.reduceSub, Nat.reduceLeDiff, Nat.reduceLT, Nat.reduceBEq, reduceCtorEq, Net.cells, List.length_map, q1, q2, q3]
  refine W_for (fun k T H M => M = [] ∧ getT T 1 = .ptr 0 0 ∧ getT T 3 = i64 k ∧ H.get 0 = .cells n.cells 26 ∧ 0 < H.n ∧ ∀ (j : Nat) x, j < k → n.lines[j]? = some x → shortLn x = true) n.lines.length ?_ ?_ ?_
  · simp only [go_sem, reduceIte, Nat.reduceEqDiff, Nat.reduceAdd, Nat.reduceMul, Nat.reduceSub, Nat.reduceLeDiff, Nat.reduceLT, Nat.reduceBEq, reduceCtorEq, Net.cells]; exact fun j x hj => by omega
  · rintro k T H M hk ⟨rfl, g1, g3, h0, hn, hall⟩
    obtain ⟨l, hp⟩ : ∃ p, n.lines[k]? = some p := ⟨n.lines[k], by simp⟩
    have hr := map_at (f := Ln.row) hp
    have hw := wrap_succ hk z1
    simp only [Ln.row] at hr
    cases d1 : shortB l.name <;> rcases Classical.propComplete ((9 : Int) < l.ps.length) with d2 | d2 <;> simp only [go_sem, reduceIte, Nat.reduceEqDiff, Nat.reduceAdd, Nat.reduceMul, Nat.reduceSub, Nat.reduceLeDiff, Nat.reduceLT, Nat.reduceBEq, reduceCtorEq, g1, g3, h0, Net.cells, List.length_map, hk, hr, hw, e97, d1, d2]
    case true.inr =>
      refine ⟨hn, fun j x hj hx => ?_⟩
      by_cases e : j = k
      · subst e; rw [hp] at hx; cases hx; simp [shortLn, d1, d2]
      · exact hall j x (by omega) hx
    all_goals rw [all_false hp (by simp [shortLn, d1, d2])]; try rfl
  rintro T H M ⟨rfl, g1, g3, h0, hn, hall⟩
  rw [all_true hall]
  simp only [go_sem, reduceIte, Nat.reduceEqDiff, Nat.reduceAdd, Nat.reduceMul, Nat.reduceSub, Nat.reduceLeDiff, Nat.reduceLT, Nat.reduceBEq, reduceCtorEq, g1, g3, h0, Net.cells, List.length_map, Nat.lt_irrefl]
  refine W_for (fun k T H M => M = [] ∧ getT T 1 = .ptr 0 0 ∧ getT T 4 = i64 k ∧ H.get 0 = .cells n.cells 26 ∧ 0 < H.n ∧ ∀ (j : Nat) x, j < k → n.sws[j]? = some x → shortSw x = true) n.sws.length ?_ ?_ ?_
  · simp only [go_sem, reduceIte, Nat.reduceEqDiff, Nat.reduceAdd, Nat.reduceMul, Nat.reduceSub, Nat.reduceLeDiff, Nat.reduceLT, Nat.reduceBEq, reduceCtorEq, g1, h0, Net.cells]; exact ⟨hn, fun j x hj => by omega⟩
  · rintro k T H M hk ⟨rfl, g1, g3, h0, hn, hall⟩
    obtain ⟨l, hp⟩ : ∃ p, n.sws[k]? = some p := ⟨n.sws[k], by simp⟩
    have hr := map_at (f := Sw.row) hp
    have hw := wrap_succ hk z2
    have b0 : (0 = H.n) = False := by simp; omega
    simp only [Sw.row] at hr
    cases d1 : shortB l.name <;> cases d2 : shortB l.line <;> cases d3 : shortB l.other <;> simp only [go_sem, reduceIte, Nat.reduceEqDiff, Nat.reduceAdd, Nat.reduceMul, Nat.reduceSub, Nat.reduceLeDiff, Nat.reduceLT, Nat.reduceBEq, reduceCtorEq, g1, g3, h0, b0, Net.cells, List.length_map, hk, hr, hw, e97, d1, d2, d3]
    case true.true.true =>
      refine ⟨by omega, fun j x hj hx => ?_⟩
      by_cases e : j = k
      · subst e; rw [hp] at hx; cases hx; simp [shortSw, d1, d2, d3]
      · exact hall j x (by omega) hx
    all_goals rw [all_false hp (by simp [shortSw, d1, d2, d3])]; try rfl
  rintro T H M ⟨rfl, g1, g3, h0, hn, hall⟩
  rw [all_true hall]
  simp only [go_sem, reduceIte, Nat.reduceEqDiff, Nat.reduceAdd, Nat.reduceMul, Nat.reduceSub, Nat.reduceLeDiff, Nat.reduceLT, Nat.reduceBEq, reduceCtorEq, g1, g3, h0, Net.cells, List.length_map, Nat.lt_irrefl]
  refine W_for (fun k T H M => M = [] ∧ getT T 1 = .ptr 0 0 ∧ getT T 6 = i64 k ∧ H.get 0 = .cells n.cells 26 ∧ 0 < H.n ∧ ∀ (j : Nat) x, j < k → n.sts[j]? = some x → shortSt x = true) n.sts.length ?_ ?_ ?_
  · simp only [go_sem, reduceIte, Nat.reduceEqDiff, Nat.reduceAdd, Nat.reduceMul, Nat.reduceSub, Nat.reduceLeDiff, Nat.reduceLT, Nat.reduceBEq, reduceCtorEq, g1, h0, Net.cells]; exact ⟨hn, fun j x hj => by omega⟩
  · rintro k T H M hk ⟨rfl, g1, g3, h0, hn, hall⟩
    obtain ⟨l, hp⟩ : ∃ p, n.sts[k]? = some p := ⟨n.sts[k], by simp⟩
    have hr := map_at (f := Stc.row) hp
    have hw := wrap_succ hk z3
    have b0 : (0 = H.n) = False := by simp; omega
    simp only [Stc.row] at hr
    cases d1 : shortB l.name <;> cases d2 : shortB l.kind <;> cases d3 : shortB l.line <;> simp only [go_sem, reduceIte, Nat.reduceEqDiff, Nat.reduceAdd, Nat.reduceMul, Nat.reduceSub, Nat.reduceLeDiff, Nat.reduceLT, Nat.reduceBEq, reduceCtorEq, g1, g3, h0, b0, Net.cells, List.length_map, hk, hr, hw, e97, d1, d2, d3]
    case true.true.true =>
      refine ⟨by omega, fun j x hj hx => ?_⟩
      by_cases e : j = k
      · subst e; rw [hp] at hx; cases hx; simp [shortSt, d1, d2, d3]
      · exact hall j x (by omega) hx
    all_goals rw [all_false hp (by simp [shortSt, d1, d2, d3])]; try rfl
  rintro T H M ⟨rfl, g1, g3, h0, hn, hall⟩
  rw [all_true hall]
  simp only [go_sem, reduceIte, Nat.reduceEqDiff, Nat.reduceAdd, Nat.reduceMul, Nat.reduceSub, Nat.reduceLeDiff, Nat.reduceLT, Nat.reduceBEq, reduceCtorEq, g1, g3, h0, Net.cells, List.length_map, Nat.lt_irrefl]
end Go.Sim

/-
The law: the network told to the program.
-/
namespace Go.Sim
open Go Go.Proofs
set_option maxRecDepth 100000
set_option maxHeartbeats 16000000
def App (H : Heap) (t : Tok) (rows : List (List AV)) (sz : Nat) (e : TypeId) : Prop := (t = .nil ∧ rows = []) ∨ ∃ j, t = .tok j ∧ rows ≠ [] ∧ j < H.n ∧ H.get j = .row [] sz e
theorem App.push {H : Heap} {t : Tok} {rows : List (List AV)} {sz : Nat} {e : TypeId} (h : App H t rows sz e) (b : ABlk) : App (H.push b) t rows sz e := by
  rcases h with h | ⟨j, h1, h2, h3, h4⟩
  · exact .inl h
  · exact .inr ⟨j, h1, h2, by simp; omega, by rw [Heap.get_push, if_neg (by omega)]; exact h4⟩
theorem App.set {H : Heap} {t : Tok} {rows : List (List AV)} {sz : Nat} {e : TypeId} (h : App H t rows sz e) {i : Nat} (b : ABlk) (hi : H.get i ≠ .row [] sz e) : App (H.set i b) t rows sz e := by
  rcases h with h | ⟨j, h1, h2, h3, h4⟩
  · exact .inl h
  · exact .inr ⟨j, h1, h2, h3, by rw [Heap.get_set, if_neg (fun he => hi (by rw [← he]; exact h4))]; exact h4⟩
theorem App.fresh {H : Heap} {t : Tok} {rows : List (List AV)} {sz : Nat} {e : TypeId} (h : App H t rows sz e) (b c : ABlk) {i : Nat} (hi : i = H.n) : App ((H.push b).set i c) t rows sz e := by
  subst hi
  rcases h with h | ⟨j, h1, h2, h3, h4⟩
  · exact .inl h
  · exact .inr ⟨j, h1, h2, by simp; omega, by rw [Heap.get_set, if_neg (by omega), Heap.get_push, if_neg (by omega)]; exact h4⟩
theorem app_any {H : Heap} {t : Tok} {rows : List (List AV)} {sz : Nat} {e : TypeId} (h : App H t rows sz e) {r : List AV} (h1 : rows.length + 1 ≤ maxRows) (h2 : pureRow r = true) (h3 : 0 < sz) (h4 : rows.all (fun r => r.length = sz) = true) :
    ∃ t' H', appP 0 H sz e (.ps t rows) [r] = some (.ps t' (rows ++ [r.map AV.strip0]), H') ∧ App H' t' (rows ++ [r.map AV.strip0]) sz e ∧ H.n ≤ H'.n ∧ (∀ i c u, i < H.n → H.get i = .cells c u → H'.get i = .cells c u) ∧
      ∀ t2 rows2 sz2 e2, ¬ (sz2 = sz ∧ e2 = e) → App H t2 rows2 sz2 e2 → App H' t2 rows2 sz2 e2 := by
  rcases h with ⟨rfl, rfl⟩ | ⟨j, rfl, h6, h7, h8⟩
  · refine ⟨.tok H.n, H.push (.row [] sz e), app_first (by simp) (by show 1 ≤ 1073741824; decide) (by simp [h2]) h3, .inr ⟨H.n, rfl, by simp, by simp, by rw [Heap.get_push, if_pos rfl]⟩, by simp, fun i c u hi hc => ?_, fun t2 rows2 sz2 e2 _ ha => ha.push _⟩
    rw [Heap.get_push, if_neg (by omega)]; exact hc
  · refine ⟨.tok H.n, (H.set j .dead).push (.row [] sz e), app_next (by simp) (by simpa using h1) (by simp [h2]) h3 h4 h8 (Nat.zero_le _) h6, .inr ⟨H.n, rfl, by simp, by simp, by rw [Heap.get_push, if_pos (by simp)]⟩, by simp, fun i c u hi hc => ?_, fun t2 rows2 sz2 e2 hne ha => ?_⟩
    · rw [Heap.get_push, if_neg (by simp; omega), Heap.get_set, if_neg (fun he => by rw [he, h8] at hc; cases hc)]; exact hc
    · exact (ha.set _ (by rw [h8]; intro he; cases he; exact hne ⟨rfl, rfl⟩)).push _
theorem rows_all {α : Type} {f : α → List AV} {sz : Nat} (hf : ∀ x, (f x).length = sz) (l : List α) : (l.map f).all (fun r => decide (r.length = sz)) = true := by
  rw [List.all_eq_true]
  intro r hr
  obtain ⟨x, _, rfl⟩ := List.mem_map.1 hr
  simp [hf x]
theorem strip_ps (t : Tok) (rows : List (List AV)) : AV.strip0 (.ps t rows) = .ps .unk rows := rfl
attribute [go_sem] strip_ps
theorem take_map {α β : Type} {f : α → β} {l : List α} {k : Nat} {x : α} (h : l[k]? = some x) : (l.take (k + 1)).map f = (l.take k).map f ++ [f x] := by
  rw [List.take_add_one, h]; simp
theorem c19 (n : Net) (hn : n.fits) (hs : n.sws.length ≤ maxRows) (ht : n.sts.length ≤ maxRows) : ∀ lo H, CallOk NC lo 19 [.agg n.cells] H (.agg n.cells) H := by
  refine contract saneNC primsN (fn := Tryz.f19) (by kernel_rfl) Tryz.func19 rfl rfl (by rfl) (by rfl) ?_
  simp only [go_sem, reduceIte, Nat.reduceEqDiff, Nat.reduceAdd, Nat.reduceMul, Nat.reduceSub, Nat.reduceLeDiff, Nat.reduceLT, Nat.reduceBEq, reduceCtorEq, Net.cells]
  refine W_for (fun k T H M => M = [] ∧ getT T 1 = .ptr 0 0 ∧ getT T 2 = .ptr 1 0 ∧ getT T 3 = .ptr 2 0 ∧ getT T 14 = .ps .unk (n.lines.map Ln.row) ∧ getT T 15 = i64 (n.lines.length : Nat) ∧ getT T 16 = i64 k ∧ H.get 0 = .cells n.cells 26 ∧ H.get 1 = .cells [.ps .nil [], .ps .nil [], .ps .nil []] 40 ∧ 2 < H.n ∧ ∃ t, H.get 2 = .cells [.ps t ((n.lines.take k).map Ln.row), .ps .nil [], .ps .nil []] 40 ∧ App H t ((n.lines.take k).map Ln.row) 2 196) n.lines.length ?_ ?_ ?_
  · simp only [go_sem, reduceIte, Nat.reduceEqDiff, Nat.reduceAdd, Nat.reduceMul, Nat.reduceSub, Nat.reduceLeDiff, Nat.reduceLT, Nat.reduceBEq, reduceCtorEq, Net.cells, List.length_map]; exact ⟨.nil, by simp, .inl ⟨rfl, rfl⟩⟩
  · rintro k T H M hk ⟨rfl, g1, g2, g3, g14, g15, g16, h0, h1, hh, t, h2, hA⟩
    obtain ⟨l, hp⟩ : ∃ p, n.lines[k]? = some p := ⟨n.lines[k], by simp⟩
    have hfit := hn.2 l (List.mem_of_getElem? hp)
    have hr := map_at (f := Ln.row) hp
    have hw := wrap_succ hk hn.1
    have htk := take_map (f := Ln.row) hp
    simp only [Ln.row] at hr
    have b0 : (0 = H.n) = False := by simp; omega
    have b1 : (1 = H.n) = False := by simp; omega
    have b2 : (2 = H.n) = False := by simp; omega
    have b3 : (H.n = H.n + 1) = False := by simp
    have b4 : (0 = H.n + 1) = False := by simp
    have b5 : (1 = H.n + 1) = False := by simp; omega
    have b6 : (2 = H.n + 1) = False := by simp; omega
    simp only [go_sem, reduceIte, Nat.reduceEqDiff, Nat.reduceAdd, Nat.reduceMul, Nat.reduceSub, Nat.reduceLeDiff, Nat.reduceLT, Nat.reduceBEq, reduceCtorEq, g1, g2, g3, g14, g15, g16, h0, h1, h2, b0, b1, b2, b3, b4, b5, b6, List.length_map, hk, hr]
    refine W_for (fun k2 T' H' M => M = [] ∧ getT T' 1 = .ptr 0 0 ∧ getT T' 2 = .ptr 1 0 ∧ getT T' 3 = .ptr 2 0 ∧ getT T' 14 = .ps .unk (n.lines.map Ln.row) ∧ getT T' 15 = i64 (n.lines.length : Nat) ∧ getT T' 16 = i64 k ∧ getT T' 6 = .ptr (H.n + 1) 0 ∧ getT T' 24 = .ps .unk (l.ps.map Pc.row) ∧ getT T' 25 = i64 (l.ps.length : Nat) ∧ getT T' 26 = i64 k2 ∧ H'.get 0 = .cells n.cells 26 ∧ H'.get 1 = .cells [.ps .nil [], .ps .nil [], .ps .nil []] 40 ∧ H.n + 1 < H'.n ∧ (∃ t, H'.get 2 = .cells [.ps t ((n.lines.take k).map Ln.row), .ps .nil [], .ps .nil []] 40 ∧ App H' t ((n.lines.take k).map Ln.row) 2 196) ∧
        ∃ u, H'.get (H.n + 1) = .cells [.str l.name, .ps u ((l.ps.take k2).map Pc.row)] 196 ∧ App H' u ((l.ps.take k2).map Pc.row) 3 200) l.ps.length ?_ ?_ ?_
    · simp only [go_sem, reduceIte, Nat.reduceEqDiff, Nat.reduceAdd, Nat.reduceMul, Nat.reduceSub, Nat.reduceLeDiff, Nat.reduceLT, Nat.reduceBEq, reduceCtorEq, g1, g2, g3, g14, g15, g16, h0, h1, h2, b0, b1, b2, b3, b4, b5, b6, Net.cells, List.length_map]
      refine ⟨⟨t, rfl, ?_⟩, .nil, by simp, .inl ⟨rfl, rfl⟩⟩
      exact (hA.fresh _ _ rfl).fresh _ _ rfl
    · rintro k2 T' H' M hk2 ⟨rfl, i1, i2, i3, i14, i15, i16, i6, i24, i25, i26, j0, j1, jh, ⟨t', j2, jA⟩, u, ju, jB⟩
      obtain ⟨p, hpp⟩ : ∃ p, l.ps[k2]? = some p := ⟨l.ps[k2], by simp⟩
      have hpr := map_at (f := Pc.row) hpp
      have hw2 := wrap_succ hk2 hfit
      have htk2 := take_map (f := Pc.row) hpp
      obtain ⟨pl, pq, pb⟩ := p
      simp only [Pc.row] at hpr
      have d0 : (0 = H'.n) = False := by simp; omega
      have d1 : (1 = H'.n) = False := by simp; omega
      have d2 : (2 = H'.n) = False := by simp; omega
      have d3 : (H.n + 1 = H'.n) = False := by simp; omega
      obtain ⟨u', H1, ha, hB', hn1, hc1, ho1⟩ := app_any (H := (H'.push (.cells [.int .i64 0, .int .i64 0, .bool false] 97)).set H'.n (.cells [.int .i64 pl, .int .i64 pq, .bool pb] 97)) (jB.fresh _ _ rfl) (r := [.int .i64 pl, .int .i64 pq, .bool pb]) (by simp; omega) rfl (by decide) (rows_all Pc.row_len _)
      have x1 := hc1 (H.n + 1) [.str l.name, .ps u ((l.ps.take k2).map Pc.row)] 196 (by simp; omega) (by rw [Heap.get_set, if_neg (by omega), Heap.get_push, if_neg (by omega)]; exact ju)
      have x0 := hc1 0 _ _ (by simp) (by rw [Heap.get_set, if_neg (by omega), Heap.get_push, if_neg (by omega)]; exact j0)
      have x01 := hc1 1 _ _ (by simp; omega) (by rw [Heap.get_set, if_neg (by omega), Heap.get_push, if_neg (by omega)]; exact j1)
      have x2 := hc1 2 _ _ (by simp; omega) (by rw [Heap.get_set, if_neg (by omega), Heap.get_push, if_neg (by omega)]; exact j2)
      have xA := ho1 _ _ 2 196 (by decide) (jA.fresh (.cells [.int .i64 0, .int .i64 0, .bool false] 97) (.cells [.int .i64 pl, .int .i64 pq, .bool pb] 97) rfl)
      simp only [Heap.n_set, Heap.n_push] at hn1
      simp only [go_sem, reduceIte, Nat.reduceEqDiff, Nat.reduceAdd, Nat.reduceMul, Nat.reduceSub, Nat.reduceLeDiff, Nat.reduceLT, Nat.reduceBEq, reduceCtorEq, i1, i2, i3, i14, i15, i16, i6, i24, i25, i26, d0, d1, d2, d3, b4, b5, b6, ju, List.length_map, hk2, hpr, hw2, appO, isIntT_slice, rowsIn, ha, x1, x0, x01, x2, strip_ps]
      rw [htk2]
      exact ⟨by omega, ⟨t', rfl, xA.set _ (by rw [x1]; simp)⟩, u', rfl, hB'.set _ (by rw [x1]; simp)⟩
    · rintro T' H' M ⟨rfl, i1, i2, i3, i14, i15, i16, i6, i24, i25, i26, j0, j1, jh, ⟨t', j2, jA⟩, u, ju, jB⟩
      rw [List.take_length] at ju jB
      obtain ⟨t2, H1, ha, hB', hn1, hc1, ho1⟩ := app_any jA (r := [.str l.name, .ps .unk (l.ps.map Pc.row)]) (by simp; have := hn.1; omega) rfl (by decide) (rows_all Ln.row_len _)
      have x0 := hc1 0 _ _ (by omega) j0
      have x01 := hc1 1 _ _ (by omega) j1
      have x2 := hc1 2 _ _ (by omega) j2
      simp only [go_sem, reduceIte, Nat.reduceEqDiff, Nat.reduceAdd, Nat.reduceMul, Nat.reduceSub, Nat.reduceLeDiff, Nat.reduceLT, Nat.reduceBEq, reduceCtorEq, i1, i2, i3, i14, i15, i16, i6, i24, i25, i26, ju, j2, List.length_map, Nat.lt_irrefl, appO, isIntT_slice, rowsIn, ha, x0, x01, x2, strip_ps, hw]
      rw [htk]
      exact ⟨by omega, t2, rfl, hB'.set _ (by rw [x2]; simp)⟩
  rintro T H M ⟨rfl, g1, g2, g3, g14, g15, g16, h0, h1, hh, t, h2, hA⟩
  rw [List.take_length] at h2 hA
  simp only [go_sem, reduceIte, Nat.reduceEqDiff, Nat.reduceAdd, Nat.reduceMul, Nat.reduceSub, Nat.reduceLeDiff, Nat.reduceLT, Nat.reduceBEq, reduceCtorEq, g1, g2, g3, g14, g15, g16, h0, h1, h2, Net.cells, List.length_map, Nat.lt_irrefl]
  refine W_for (fun k T H M => M = [] ∧ getT T 1 = .ptr 0 0 ∧ getT T 2 = .ptr 1 0 ∧ getT T 3 = .ptr 2 0 ∧ getT T 45 = .ps .unk (n.sws.map Sw.row) ∧ getT T 46 = i64 (n.sws.length : Nat) ∧ getT T 47 = i64 k ∧ H.get 0 = .cells n.cells 26 ∧ H.get 1 = .cells [.ps .nil [], .ps .nil [], .ps .nil []] 40 ∧ 2 < H.n ∧ ∃ u, H.get 2 = .cells [.ps t (n.lines.map Ln.row), .ps u ((n.sws.take k).map Sw.row), .ps .nil []] 40 ∧ App H u ((n.sws.take k).map Sw.row) 5 201) n.sws.length ?_ ?_ ?_
  · simp only [go_sem, reduceIte, Nat.reduceEqDiff, Nat.reduceAdd, Nat.reduceMul, Nat.reduceSub, Nat.reduceLeDiff, Nat.reduceLT, Nat.reduceBEq, reduceCtorEq, g1, g2, g3, h0, h1, h2, Net.cells, List.length_map]; exact ⟨hh, .nil, by simp, .inl ⟨rfl, rfl⟩⟩
  · rintro k T H M hk ⟨rfl, g1, g2, g3, g14, g15, g16, h0, h1, hh, u, h2, hA⟩
    obtain ⟨l, hp⟩ : ∃ p, n.sws[k]? = some p := ⟨n.sws[k], by simp⟩
    have hr := map_at (f := Sw.row) hp
    have hw := wrap_succ hk hs
    have htk := take_map (f := Sw.row) hp
    simp only [Sw.row] at hr
    have b0 : (0 = H.n) = False := by simp; omega
    have b1 : (1 = H.n) = False := by simp; omega
    have b2 : (2 = H.n) = False := by simp; omega
    obtain ⟨u', H1, ha, hB', hn1, hc1, ho1⟩ := app_any (H := (H.push (.cells [.str [], .str [], .int .i64 0, .str [], .bool false] 191)).set H.n (.cells [.str l.name, .str l.line, .int .i64 l.metre, .str l.other, .bool l.last] 191)) (hA.fresh _ _ rfl) (r := [.str l.name, .str l.line, .int .i64 l.metre, .str l.other, .bool l.last]) (by simp; omega) rfl (by decide) (rows_all Sw.row_len _)
    have x0 := hc1 0 _ _ (by simp) (by rw [Heap.get_set, if_neg (by omega), Heap.get_push, if_neg (by omega)]; exact h0)
    have x01 := hc1 1 _ _ (by simp; omega) (by rw [Heap.get_set, if_neg (by omega), Heap.get_push, if_neg (by omega)]; exact h1)
    have x2 := hc1 2 _ _ (by simp; omega) (by rw [Heap.get_set, if_neg (by omega), Heap.get_push, if_neg (by omega)]; exact h2)
    simp only [Heap.n_set, Heap.n_push] at hn1
    simp only [go_sem, reduceIte, Nat.reduceEqDiff, Nat.reduceAdd, Nat.reduceMul, Nat.reduceSub, Nat.reduceLeDiff, Nat.reduceLT, Nat.reduceBEq, reduceCtorEq, g1, g2, g3, g14, g15, g16, h0, h1, h2, b0, b1, b2, List.length_map, hk, hr, hw, appO, isIntT_slice, rowsIn, ha, x0, x01, x2]
    rw [htk]
    exact ⟨by omega, u', rfl, hB'.set _ (by rw [x2]; simp)⟩
  rintro T H M ⟨rfl, g1, g2, g3, g14, g15, g16, h0, h1, hh, u, h2, hA⟩
  rw [List.take_length] at h2 hA
  simp only [go_sem, reduceIte, Nat.reduceEqDiff, Nat.reduceAdd, Nat.reduceMul, Nat.reduceSub, Nat.reduceLeDiff, Nat.reduceLT, Nat.reduceBEq, reduceCtorEq, g1, g2, g3, g14, g15, g16, h0, h1, h2, Net.cells, List.length_map, Nat.lt_irrefl]
  refine W_for (fun k T H M => M = [] ∧ getT T 1 = .ptr 0 0 ∧ getT T 2 = .ptr 1 0 ∧ getT T 3 = .ptr 2 0 ∧ getT T 59 = .ps .unk (n.sts.map Stc.row) ∧ getT T 60 = i64 (n.sts.length : Nat) ∧ getT T 61 = i64 k ∧ H.get 0 = .cells n.cells 26 ∧ H.get 1 = .cells [.ps .nil [], .ps .nil [], .ps .nil []] 40 ∧ 2 < H.n ∧ ∃ v, H.get 2 = .cells [.ps t (n.lines.map Ln.row), .ps u (n.sws.map Sw.row), .ps v ((n.sts.take k).map Stc.row)] 40 ∧ App H v ((n.sts.take k).map Stc.row) 5 202) n.sts.length ?_ ?_ ?_
  · simp only [go_sem, reduceIte, Nat.reduceEqDiff, Nat.reduceAdd, Nat.reduceMul, Nat.reduceSub, Nat.reduceLeDiff, Nat.reduceLT, Nat.reduceBEq, reduceCtorEq, g1, g2, g3, h0, h1, h2, Net.cells, List.length_map]; exact ⟨hh, .nil, by simp, .inl ⟨rfl, rfl⟩⟩
  · rintro k T H M hk ⟨rfl, g1, g2, g3, g14, g15, g16, h0, h1, hh, v, h2, hA⟩
    obtain ⟨l, hp⟩ : ∃ p, n.sts[k]? = some p := ⟨n.sts[k], by simp⟩
    have hr := map_at (f := Stc.row) hp
    have hw := wrap_succ hk ht
    have htk := take_map (f := Stc.row) hp
    simp only [Stc.row] at hr
    have b0 : (0 = H.n) = False := by simp; omega
    have b1 : (1 = H.n) = False := by simp; omega
    have b2 : (2 = H.n) = False := by simp; omega
    obtain ⟨u', H1, ha, hB', hn1, hc1, ho1⟩ := app_any (H := (H.push (.cells [.str [], .str [], .str [], .int .i64 0, .int .i64 0] 193)).set H.n (.cells [.str l.name, .str l.kind, .str l.line, .int .i64 l.fr, .int .i64 l.till] 193)) (hA.fresh _ _ rfl) (r := [.str l.name, .str l.kind, .str l.line, .int .i64 l.fr, .int .i64 l.till]) (by simp; omega) rfl (by decide) (rows_all Stc.row_len _)
    have x0 := hc1 0 _ _ (by simp) (by rw [Heap.get_set, if_neg (by omega), Heap.get_push, if_neg (by omega)]; exact h0)
    have x01 := hc1 1 _ _ (by simp; omega) (by rw [Heap.get_set, if_neg (by omega), Heap.get_push, if_neg (by omega)]; exact h1)
    have x2 := hc1 2 _ _ (by simp; omega) (by rw [Heap.get_set, if_neg (by omega), Heap.get_push, if_neg (by omega)]; exact h2)
    simp only [Heap.n_set, Heap.n_push] at hn1
    simp only [go_sem, reduceIte, Nat.reduceEqDiff, Nat.reduceAdd, Nat.reduceMul, Nat.reduceSub, Nat.reduceLeDiff, Nat.reduceLT, Nat.reduceBEq, reduceCtorEq, g1, g2, g3, g14, g15, g16, h0, h1, h2, b0, b1, b2, List.length_map, hk, hr, hw, appO, isIntT_slice, rowsIn, ha, x0, x01, x2]
    rw [htk]
    exact ⟨by omega, u', rfl, hB'.set _ (by rw [x2]; simp)⟩
  rintro T H M ⟨rfl, g1, g2, g3, g14, g15, g16, h0, h1, hh, v, h2, hA⟩
  rw [List.take_length] at h2 hA
  simp only [go_sem, reduceIte, Nat.reduceEqDiff, Nat.reduceAdd, Nat.reduceMul, Nat.reduceSub, Nat.reduceLeDiff, Nat.reduceLT, Nat.reduceBEq, reduceCtorEq, g1, g2, g3, g14, g15, g16, h0, h1, h2, Net.cells, List.length_map, Nat.lt_irrefl]
end Go.Sim

/-
Slices that are made by append, over blocks that stay.
-/
namespace Go.Sim
open Go Go.Proofs
def AppB (b : Nat) (H : Heap) (t : Tok) (rows : List (List AV)) (sz : Nat) (e : TypeId) : Prop := (t = .nil ∧ rows = []) ∨ ∃ j, t = .tok j ∧ rows ≠ [] ∧ b ≤ j ∧ j < H.n ∧ H.get j = .row [] sz e
def Old (b : Nat) (H H' : Heap) : Prop := b ≤ H'.n ∧ ∀ i, i < b → H'.get i = H.get i
theorem Old.push {b : Nat} {H H' : Heap} (h : Old b H H') (x : ABlk) : Old b H (H'.push x) := ⟨by simp; have := h.1; omega, fun i hi => by rw [Heap.get_push, if_neg (by have := h.1; omega)]; exact h.2 i hi⟩
theorem Old.set {b : Nat} {H H' : Heap} (h : Old b H H') {j : Nat} (hj : b ≤ j) (x : ABlk) : Old b H (H'.set j x) := ⟨by simpa using h.1, fun i hi => by rw [Heap.get_set, if_neg (by omega)]; exact h.2 i hi⟩
theorem Old.trans {b : Nat} {H H1 H2 : Heap} (h : Old b H H1) (h2 : Old b H1 H2) : Old b H H2 := ⟨h2.1, fun i hi => (h2.2 i hi).trans (h.2 i hi)⟩
theorem AppB.push {b : Nat} {H : Heap} {t : Tok} {rows : List (List AV)} {sz : Nat} {e : TypeId} (h : AppB b H t rows sz e) (x : ABlk) : AppB b (H.push x) t rows sz e := by
  rcases h with h | ⟨j, h1, h2, h3, h4, h5⟩
  · exact .inl h
  · exact .inr ⟨j, h1, h2, h3, by simp; omega, by rw [Heap.get_push, if_neg (by omega)]; exact h5⟩
theorem AppB.set {b : Nat} {H : Heap} {t : Tok} {rows : List (List AV)} {sz : Nat} {e : TypeId} (h : AppB b H t rows sz e) {i : Nat} (x : ABlk) (hi : H.get i ≠ .row [] sz e) : AppB b (H.set i x) t rows sz e := by
  rcases h with h | ⟨j, h1, h2, h3, h4, h5⟩
  · exact .inl h
  · exact .inr ⟨j, h1, h2, h3, h4, by rw [Heap.get_set, if_neg (fun he => hi (by rw [← he]; exact h5))]; exact h5⟩
end Go.Sim

/-
The plain law of maps: the program's errors are the reference's; what a valid map carries.
-/
namespace Go.Sim
open Go
structure Mv.Good (x : Mv) : Prop where
  line : nameB x.line = true
  other : nameB x.other = true
  fr : 0 ≤ x.fr
  len : 1 ≤ x.len
  to : 0 ≤ x.to
  frl : x.fr + x.len ≤ 800000
  tol : x.to + x.len ≤ 800000
theorem Mv.Good.till {x : Mv} (h : x.Good) : wrapq .i64 (Int.add x.to x.len) = x.to + x.len := by
  have e : Int.add x.to x.len = x.to + x.len := rfl
  have := h.to; have := h.len; have := h.tol
  rw [e, wrap_small (by omega) (by omega)]
end Go.Sim

/-
The document's examples: what 'awake' returns, found by closed runs.
-/
namespace Go.Sim
open Go
def aw0 : List Known := []
theorem awh0 : ∀ k ∈ aw0, ∀ lo H, CallOk NC lo k.f k.args H k.v H := fun k h => by cases h
def ak1 : Known := ⟨110, [.ps .unk [[.str [117, 112], .ps .unk [[.int .i64 100, .int .i64 5000, .bool false], [.int .i64 50, .int .i64 5080, .bool false], [.int .i64 30, .int .i64 5200, .bool true]]], [.str [115, 105, 100, 101], .ps .unk [[.int .i64 40, .int .i64 0, .bool false]]]]], .int .i64 0⟩
theorem ac1 : ∀ lo H, CallOk NC lo ak1.f ak1.args H ak1.v H := known_ok saneNC awh0 (fuel := 5000) (by kernel_rfl) (by kernel_rfl) (by kernel_rfl)
def aw1 : List Known := ak1 :: aw0
theorem awh1 : ∀ k ∈ aw1, ∀ lo H, CallOk NC lo k.f k.args H k.v H := fun k h => (List.mem_cons.1 h).elim (fun e => e ▸ ac1) (awh0 k)
def ak2 : Known := ⟨112, [.agg [.ps .unk [[.str [117, 112], .ps .unk [[.int .i64 100, .int .i64 5000, .bool false], [.int .i64 50, .int .i64 5080, .bool false], [.int .i64 30, .int .i64 5200, .bool true]]], [.str [115, 105, 100, 101], .ps .unk [[.int .i64 40, .int .i64 0, .bool false]]]], .ps .unk [[.str [119], .str [117, 112], .int .i64 120, .str [115, 105, 100, 101], .bool false]], .ps .unk [[.str [97, 114, 99, 104], .str [98, 114, 105, 100, 103, 101], .str [117, 112], .int .i64 130, .int .i64 150]]]], .int .i64 0⟩
theorem ac2 : ∀ lo H, CallOk NC lo ak2.f ak2.args H ak2.v H := known_ok saneNC awh1 (fuel := 5000) (by kernel_rfl) (by kernel_rfl) (by kernel_rfl)
def aw2 : List Known := ak2 :: aw1
theorem awh2 : ∀ k ∈ aw2, ∀ lo H, CallOk NC lo k.f k.args H k.v H := fun k h => (List.mem_cons.1 h).elim (fun e => e ▸ ac2) (awh1 k)
def ak3 : Known := ⟨113, [.agg [.ps .unk [[.str [117, 112], .ps .unk [[.int .i64 100, .int .i64 5000, .bool false], [.int .i64 50, .int .i64 5080, .bool false], [.int .i64 30, .int .i64 5200, .bool true]]], [.str [115, 105, 100, 101], .ps .unk [[.int .i64 40, .int .i64 0, .bool false]]]], .ps .unk [[.str [119], .str [117, 112], .int .i64 120, .str [115, 105, 100, 101], .bool false]], .ps .unk [[.str [97, 114, 99, 104], .str [98, 114, 105, 100, 103, 101], .str [117, 112], .int .i64 130, .int .i64 150]]]], .int .i64 0⟩
theorem ac3 : ∀ lo H, CallOk NC lo ak3.f ak3.args H ak3.v H := known_ok saneNC awh2 (fuel := 5000) (by kernel_rfl) (by kernel_rfl) (by kernel_rfl)
def aw3 : List Known := ak3 :: aw2
theorem awh3 : ∀ k ∈ aw3, ∀ lo H, CallOk NC lo k.f k.args H k.v H := fun k h => (List.mem_cons.1 h).elim (fun e => e ▸ ac3) (awh2 k)
def ak4 : Known := ⟨29, [.agg [.ps .unk [[.str [117, 112], .ps .unk [[.int .i64 100, .int .i64 5000, .bool false], [.int .i64 50, .int .i64 5080, .bool false], [.int .i64 30, .int .i64 5200, .bool true]]], [.str [115, 105, 100, 101], .ps .unk [[.int .i64 40, .int .i64 0, .bool false]]]], .ps .unk [[.str [119], .str [117, 112], .int .i64 120, .str [115, 105, 100, 101], .bool false]], .ps .unk [[.str [97, 114, 99, 104], .str [98, 114, 105, 100, 103, 101], .str [117, 112], .int .i64 130, .int .i64 150]]]], .int .i64 0⟩
theorem ac4 : ∀ lo H, CallOk NC lo ak4.f ak4.args H ak4.v H := known_ok saneNC awh3 (fuel := 5000) (by kernel_rfl) (by kernel_rfl) (by kernel_rfl)
def aw4 : List Known := ak4 :: aw3
theorem awh4 : ∀ k ∈ aw4, ∀ lo H, CallOk NC lo k.f k.args H k.v H := fun k h => (List.mem_cons.1 h).elim (fun e => e ▸ ac4) (awh3 k)
def ak5 : Known := ⟨18, [.agg [.ps .unk [[.str [117, 112], .ps .unk [[.int .i64 100, .int .i64 5000, .bool false], [.int .i64 50, .int .i64 5080, .bool false], [.int .i64 30, .int .i64 5200, .bool true]]], [.str [115, 105, 100, 101], .ps .unk [[.int .i64 40, .int .i64 0, .bool false]]]], .ps .unk [[.str [119], .str [117, 112], .int .i64 120, .str [115, 105, 100, 101], .bool false]], .ps .unk [[.str [97, 114, 99, 104], .str [98, 114, 105, 100, 103, 101], .str [117, 112], .int .i64 130, .int .i64 150]]], .str [117, 112]], .tup [.int .i64 180, .int .i64 0]⟩
theorem ac5 : ∀ lo H, CallOk NC lo ak5.f ak5.args H ak5.v H := known_ok saneNC awh4 (fuel := 5000) (by kernel_rfl) (by kernel_rfl) (by kernel_rfl)
def aw5 : List Known := ak5 :: aw4
theorem awh5 : ∀ k ∈ aw5, ∀ lo H, CallOk NC lo k.f k.args H k.v H := fun k h => (List.mem_cons.1 h).elim (fun e => e ▸ ac5) (awh4 k)
def ak6 : Known := ⟨20, [.agg [.ps .unk [[.str [117, 112], .ps .unk [[.int .i64 100, .int .i64 5000, .bool false], [.int .i64 50, .int .i64 5080, .bool false], [.int .i64 30, .int .i64 5200, .bool true]]], [.str [115, 105, 100, 101], .ps .unk [[.int .i64 40, .int .i64 0, .bool false]]]], .ps .unk [[.str [119], .str [117, 112], .int .i64 120, .str [115, 105, 100, 101], .bool false]], .ps .unk [[.str [97, 114, 99, 104], .str [98, 114, 105, 100, 103, 101], .str [117, 112], .int .i64 130, .int .i64 150]]], .agg [.str [117, 112], .int .i64 120]], .tup [.agg [.str [117, 112], .int .i64 1, .int .i64 5100], .int .i64 0]⟩
theorem ac6 : ∀ lo H, CallOk NC lo ak6.f ak6.args H ak6.v H := known_ok saneNC awh5 (fuel := 5000) (by kernel_rfl) (by kernel_rfl) (by kernel_rfl)
def aw6 : List Known := ak6 :: aw5
theorem awh6 : ∀ k ∈ aw6, ∀ lo H, CallOk NC lo k.f k.args H k.v H := fun k h => (List.mem_cons.1 h).elim (fun e => e ▸ ac6) (awh5 k)
def ak7 : Known := ⟨20, [.agg [.ps .unk [[.str [117, 112], .ps .unk [[.int .i64 100, .int .i64 5000, .bool false], [.int .i64 50, .int .i64 5080, .bool false], [.int .i64 30, .int .i64 5200, .bool true]]], [.str [115, 105, 100, 101], .ps .unk [[.int .i64 40, .int .i64 0, .bool false]]]], .ps .unk [[.str [119], .str [117, 112], .int .i64 120, .str [115, 105, 100, 101], .bool false]], .ps .unk [[.str [97, 114, 99, 104], .str [98, 114, 105, 100, 103, 101], .str [117, 112], .int .i64 130, .int .i64 150]]], .agg [.str [117, 112], .int .i64 179]], .tup [.agg [.str [117, 112], .int .i64 2, .int .i64 5171], .int .i64 0]⟩
theorem ac7 : ∀ lo H, CallOk NC lo ak7.f ak7.args H ak7.v H := known_ok saneNC awh6 (fuel := 5000) (by kernel_rfl) (by kernel_rfl) (by kernel_rfl)
def aw7 : List Known := ak7 :: aw6
theorem awh7 : ∀ k ∈ aw7, ∀ lo H, CallOk NC lo k.f k.args H k.v H := fun k h => (List.mem_cons.1 h).elim (fun e => e ▸ ac7) (awh6 k)
def ak8 : Known := ⟨51, [.agg [.ps .unk [[.str [117, 112], .ps .unk [[.int .i64 100, .int .i64 5000, .bool false], [.int .i64 50, .int .i64 5080, .bool false], [.int .i64 30, .int .i64 5200, .bool true]]], [.str [115, 105, 100, 101], .ps .unk [[.int .i64 40, .int .i64 0, .bool false]]]], .ps .unk [[.str [119], .str [117, 112], .int .i64 120, .str [115, 105, 100, 101], .bool false]], .ps .unk [[.str [97, 114, 99, 104], .str [98, 114, 105, 100, 103, 101], .str [117, 112], .int .i64 130, .int .i64 150]]], .str [117, 112], .int .i64 5090], .tup [.ps .unk [[.str [117, 112], .int .i64 0, .int .i64 5090], [.str [117, 112], .int .i64 1, .int .i64 5090]], .int .i64 0]⟩
theorem ac8 : ∀ lo H, CallOk NC lo ak8.f ak8.args H ak8.v H := known_ok saneNC awh7 (fuel := 5000) (by kernel_rfl) (by kernel_rfl) (by kernel_rfl)
def aw8 : List Known := ak8 :: aw7
theorem awh8 : ∀ k ∈ aw8, ∀ lo H, CallOk NC lo k.f k.args H k.v H := fun k h => (List.mem_cons.1 h).elim (fun e => e ▸ ac8) (awh7 k)
def ak9 : Known := ⟨21, [.agg [.ps .unk [[.str [117, 112], .ps .unk [[.int .i64 100, .int .i64 5000, .bool false], [.int .i64 50, .int .i64 5080, .bool false], [.int .i64 30, .int .i64 5200, .bool true]]], [.str [115, 105, 100, 101], .ps .unk [[.int .i64 40, .int .i64 0, .bool false]]]], .ps .unk [[.str [119], .str [117, 112], .int .i64 120, .str [115, 105, 100, 101], .bool false]], .ps .unk [[.str [97, 114, 99, 104], .str [98, 114, 105, 100, 103, 101], .str [117, 112], .int .i64 130, .int .i64 150]]], .agg [.str [117, 112], .int .i64 1, .int .i64 5090]], .tup [.agg [.str [117, 112], .int .i64 110], .int .i64 0]⟩
theorem ac9 : ∀ lo H, CallOk NC lo ak9.f ak9.args H ak9.v H := known_ok saneNC awh8 (fuel := 5000) (by kernel_rfl) (by kernel_rfl) (by kernel_rfl)
def aw9 : List Known := ak9 :: aw8
theorem awh9 : ∀ k ∈ aw9, ∀ lo H, CallOk NC lo k.f k.args H k.v H := fun k h => (List.mem_cons.1 h).elim (fun e => e ▸ ac9) (awh8 k)
def ak10 : Known := ⟨114, [.agg [.ps .unk [[.str [117, 112], .ps .unk [[.int .i64 100, .int .i64 5000, .bool false], [.int .i64 50, .int .i64 5080, .bool false], [.int .i64 30, .int .i64 5200, .bool true]]], [.str [115, 105, 100, 101], .ps .unk [[.int .i64 40, .int .i64 0, .bool false]]]], .ps .unk [[.str [119], .str [117, 112], .int .i64 120, .str [115, 105, 100, 101], .bool false]], .ps .unk [[.str [97, 114, 99, 104], .str [98, 114, 105, 100, 103, 101], .str [117, 112], .int .i64 130, .int .i64 150]]], .ps .unk [[.str [117, 112], .int .i64 100], [.str [115, 105, 100, 101], .int .i64 10]]], .int .i64 0⟩
theorem ac10 : ∀ lo H, CallOk NC lo ak10.f ak10.args H ak10.v H := known_ok saneNC awh9 (fuel := 5000) (by kernel_rfl) (by kernel_rfl) (by kernel_rfl)
def aw10 : List Known := ak10 :: aw9
theorem awh10 : ∀ k ∈ aw10, ∀ lo H, CallOk NC lo k.f k.args H k.v H := fun k h => (List.mem_cons.1 h).elim (fun e => e ▸ ac10) (awh9 k)
def ak11 : Known := ⟨203, [.agg [.ps .unk [[.str [117, 112], .ps .unk [[.int .i64 100, .int .i64 5000, .bool false], [.int .i64 50, .int .i64 5080, .bool false], [.int .i64 30, .int .i64 5200, .bool true]]], [.str [115, 105, 100, 101], .ps .unk [[.int .i64 40, .int .i64 0, .bool false]]]], .ps .unk [[.str [119], .str [117, 112], .int .i64 120, .str [115, 105, 100, 101], .bool false]], .ps .unk [[.str [97, 114, 99, 104], .str [98, 114, 105, 100, 103, 101], .str [117, 112], .int .i64 130, .int .i64 150]]], .agg [.ps .unk [[.str [117, 112], .int .i64 100, .int .i64 120], [.str [115, 105, 100, 101], .int .i64 0, .int .i64 0], [.str [117, 112], .int .i64 120, .int .i64 120]], .int .i64 20], .agg [.ps .unk [[.str [117, 112], .int .i64 100, .int .i64 120]], .int .i64 20]], .int .i64 1⟩
theorem ac11 : ∀ lo H, CallOk NC lo ak11.f ak11.args H ak11.v H := known_ok saneNC awh10 (fuel := 5000) (by kernel_rfl) (by kernel_rfl) (by kernel_rfl)
def aw11 : List Known := ak11 :: aw10
theorem awh11 : ∀ k ∈ aw11, ∀ lo H, CallOk NC lo k.f k.args H k.v H := fun k h => (List.mem_cons.1 h).elim (fun e => e ▸ ac11) (awh10 k)
def ak12 : Known := ⟨203, [.agg [.ps .unk [[.str [117, 112], .ps .unk [[.int .i64 100, .int .i64 5000, .bool false], [.int .i64 50, .int .i64 5080, .bool false], [.int .i64 30, .int .i64 5200, .bool true]]], [.str [115, 105, 100, 101], .ps .unk [[.int .i64 40, .int .i64 0, .bool false]]]], .ps .unk [[.str [119], .str [117, 112], .int .i64 120, .str [115, 105, 100, 101], .bool false]], .ps .unk [[.str [97, 114, 99, 104], .str [98, 114, 105, 100, 103, 101], .str [117, 112], .int .i64 130, .int .i64 150]]], .agg [.ps .unk [[.str [117, 112], .int .i64 100, .int .i64 120], [.str [115, 105, 100, 101], .int .i64 0, .int .i64 0]], .int .i64 20], .agg [.ps .unk [[.str [117, 112], .int .i64 100, .int .i64 120], [.str [115, 105, 100, 101], .int .i64 0, .int .i64 0]], .int .i64 20]], .int .i64 0⟩
theorem ac12 : ∀ lo H, CallOk NC lo ak12.f ak12.args H ak12.v H := known_ok saneNC awh11 (fuel := 5000) (by kernel_rfl) (by kernel_rfl) (by kernel_rfl)
def aw12 : List Known := ak12 :: aw11
theorem awh12 : ∀ k ∈ aw12, ∀ lo H, CallOk NC lo k.f k.args H k.v H := fun k h => (List.mem_cons.1 h).elim (fun e => e ▸ ac12) (awh11 k)
def ak13 : Known := ⟨142, [.agg [.ps .unk [[.str [117, 112], .ps .unk [[.int .i64 100, .int .i64 5000, .bool false], [.int .i64 50, .int .i64 5080, .bool false], [.int .i64 30, .int .i64 5200, .bool true]]], [.str [115, 105, 100, 101], .ps .unk [[.int .i64 40, .int .i64 0, .bool false]]]], .ps .unk [[.str [119], .str [117, 112], .int .i64 120, .str [115, 105, 100, 101], .bool false]], .ps .unk [[.str [97, 114, 99, 104], .str [98, 114, 105, 100, 103, 101], .str [117, 112], .int .i64 130, .int .i64 150]]], .agg [.str [117, 112], .int .i64 100], .agg [.str [115, 105, 100, 101], .int .i64 10]], .tup [.agg [.ps .unk [[.str [117, 112], .int .i64 100, .int .i64 120], [.str [115, 105, 100, 101], .int .i64 0, .int .i64 10]], .int .i64 30], .bool true]⟩
theorem ac13 : ∀ lo H, CallOk NC lo ak13.f ak13.args H ak13.v H := known_ok saneNC awh12 (fuel := 5000) (by kernel_rfl) (by kernel_rfl) (by kernel_rfl)
def aw13 : List Known := ak13 :: aw12
theorem awh13 : ∀ k ∈ aw13, ∀ lo H, CallOk NC lo k.f k.args H k.v H := fun k h => (List.mem_cons.1 h).elim (fun e => e ▸ ac13) (awh12 k)
def ak14 : Known := ⟨71, [.agg [.ps .unk [[.str [117, 112], .ps .unk [[.int .i64 100, .int .i64 5000, .bool false], [.int .i64 50, .int .i64 5080, .bool false], [.int .i64 30, .int .i64 5200, .bool true]]], [.str [115, 105, 100, 101], .ps .unk [[.int .i64 40, .int .i64 0, .bool false]]]], .ps .unk [[.str [119], .str [117, 112], .int .i64 120, .str [115, 105, 100, 101], .bool false]], .ps .unk [[.str [97, 114, 99, 104], .str [98, 114, 105, 100, 103, 101], .str [117, 112], .int .i64 130, .int .i64 150]]], .agg [.str [117, 112], .int .i64 100], .agg [.str [115, 105, 100, 101], .int .i64 10]], .tup [.ps .unk [[.str [117, 112], .int .i64 100, .int .i64 120], [.str [115, 105, 100, 101], .int .i64 0, .int .i64 10]], .int .i64 30, .int .i64 0]⟩
theorem ac14 : ∀ lo H, CallOk NC lo ak14.f ak14.args H ak14.v H := known_ok saneNC awh13 (fuel := 5000) (by kernel_rfl) (by kernel_rfl) (by kernel_rfl)
def aw14 : List Known := ak14 :: aw13
theorem awh14 : ∀ k ∈ aw14, ∀ lo H, CallOk NC lo k.f k.args H k.v H := fun k h => (List.mem_cons.1 h).elim (fun e => e ▸ ac14) (awh13 k)
def ak15 : Known := ⟨114, [.agg [.ps .unk [[.str [117, 112], .ps .unk [[.int .i64 100, .int .i64 5000, .bool false], [.int .i64 50, .int .i64 5080, .bool false], [.int .i64 30, .int .i64 5200, .bool true]]], [.str [115, 105, 100, 101], .ps .unk [[.int .i64 40, .int .i64 0, .bool false]]]], .ps .unk [[.str [119], .str [117, 112], .int .i64 120, .str [115, 105, 100, 101], .bool false]], .ps .unk [[.str [97, 114, 99, 104], .str [98, 114, 105, 100, 103, 101], .str [117, 112], .int .i64 130, .int .i64 150]]], .ps .unk [[.str [115, 105, 100, 101], .int .i64 5]]], .int .i64 0⟩
theorem ac15 : ∀ lo H, CallOk NC lo ak15.f ak15.args H ak15.v H := known_ok saneNC awh14 (fuel := 5000) (by kernel_rfl) (by kernel_rfl) (by kernel_rfl)
def aw15 : List Known := ak15 :: aw14
theorem awh15 : ∀ k ∈ aw15, ∀ lo H, CallOk NC lo k.f k.args H k.v H := fun k h => (List.mem_cons.1 h).elim (fun e => e ▸ ac15) (awh14 k)
def ak16 : Known := ⟨203, [.agg [.ps .unk [[.str [117, 112], .ps .unk [[.int .i64 100, .int .i64 5000, .bool false], [.int .i64 50, .int .i64 5080, .bool false], [.int .i64 30, .int .i64 5200, .bool true]]], [.str [115, 105, 100, 101], .ps .unk [[.int .i64 40, .int .i64 0, .bool false]]]], .ps .unk [[.str [119], .str [117, 112], .int .i64 120, .str [115, 105, 100, 101], .bool false]], .ps .unk [[.str [97, 114, 99, 104], .str [98, 114, 105, 100, 103, 101], .str [117, 112], .int .i64 130, .int .i64 150]]], .agg [.ps .unk [[.str [115, 105, 100, 101], .int .i64 5, .int .i64 0], [.str [117, 112], .int .i64 120, .int .i64 120], [.str [115, 105, 100, 101], .int .i64 0, .int .i64 0]], .int .i64 5], .agg [.ps .unk [[.str [115, 105, 100, 101], .int .i64 5, .int .i64 0]], .int .i64 5]], .int .i64 1⟩
theorem ac16 : ∀ lo H, CallOk NC lo ak16.f ak16.args H ak16.v H := known_ok saneNC awh15 (fuel := 5000) (by kernel_rfl) (by kernel_rfl) (by kernel_rfl)
def aw16 : List Known := ak16 :: aw15
theorem awh16 : ∀ k ∈ aw16, ∀ lo H, CallOk NC lo k.f k.args H k.v H := fun k h => (List.mem_cons.1 h).elim (fun e => e ▸ ac16) (awh15 k)
def ak17 : Known := ⟨203, [.agg [.ps .unk [[.str [117, 112], .ps .unk [[.int .i64 100, .int .i64 5000, .bool false], [.int .i64 50, .int .i64 5080, .bool false], [.int .i64 30, .int .i64 5200, .bool true]]], [.str [115, 105, 100, 101], .ps .unk [[.int .i64 40, .int .i64 0, .bool false]]]], .ps .unk [[.str [119], .str [117, 112], .int .i64 120, .str [115, 105, 100, 101], .bool false]], .ps .unk [[.str [97, 114, 99, 104], .str [98, 114, 105, 100, 103, 101], .str [117, 112], .int .i64 130, .int .i64 150]]], .agg [.ps .unk [[.str [115, 105, 100, 101], .int .i64 5, .int .i64 0], [.str [117, 112], .int .i64 120, .int .i64 120]], .int .i64 5], .agg [.ps .unk [[.str [115, 105, 100, 101], .int .i64 5, .int .i64 0], [.str [117, 112], .int .i64 120, .int .i64 120]], .int .i64 5]], .int .i64 0⟩
theorem ac17 : ∀ lo H, CallOk NC lo ak17.f ak17.args H ak17.v H := known_ok saneNC awh16 (fuel := 5000) (by kernel_rfl) (by kernel_rfl) (by kernel_rfl)
def aw17 : List Known := ak17 :: aw16
theorem awh17 : ∀ k ∈ aw17, ∀ lo H, CallOk NC lo k.f k.args H k.v H := fun k h => (List.mem_cons.1 h).elim (fun e => e ▸ ac17) (awh16 k)
def ak18 : Known := ⟨116, [.agg [.ps .unk [[.str [117, 112], .ps .unk [[.int .i64 100, .int .i64 5000, .bool false], [.int .i64 50, .int .i64 5080, .bool false], [.int .i64 30, .int .i64 5200, .bool true]]], [.str [115, 105, 100, 101], .ps .unk [[.int .i64 40, .int .i64 0, .bool false]]]], .ps .unk [[.str [119], .str [117, 112], .int .i64 120, .str [115, 105, 100, 101], .bool false]], .ps .unk [[.str [97, 114, 99, 104], .str [98, 114, 105, 100, 103, 101], .str [117, 112], .int .i64 130, .int .i64 150]]], .agg [.str [115, 105, 100, 101], .int .i64 5]], .ps .unk [[.str [115, 105, 100, 101], .int .i64 5, .int .i64 0], [.str [115, 105, 100, 101], .int .i64 0, .int .i64 5], [.str [117, 112], .int .i64 120, .int .i64 5]]⟩
theorem ac18 : ∀ lo H, CallOk NC lo ak18.f ak18.args H ak18.v H := known_ok saneNC awh17 (fuel := 5000) (by kernel_rfl) (by kernel_rfl) (by kernel_rfl)
def aw18 : List Known := ak18 :: aw17
theorem awh18 : ∀ k ∈ aw18, ∀ lo H, CallOk NC lo k.f k.args H k.v H := fun k h => (List.mem_cons.1 h).elim (fun e => e ▸ ac18) (awh17 k)
def ak19 : Known := ⟨33, [.agg [.ps .unk [[.str [117, 112], .ps .unk [[.int .i64 100, .int .i64 5000, .bool false], [.int .i64 50, .int .i64 5080, .bool false], [.int .i64 30, .int .i64 5200, .bool true]]], [.str [115, 105, 100, 101], .ps .unk [[.int .i64 40, .int .i64 0, .bool false]]]], .ps .unk [[.str [119], .str [117, 112], .int .i64 120, .str [115, 105, 100, 101], .bool false]], .ps .unk [[.str [97, 114, 99, 104], .str [98, 114, 105, 100, 103, 101], .str [117, 112], .int .i64 130, .int .i64 150]]], .agg [.str [115, 105, 100, 101], .int .i64 5], .str [98, 114, 105, 100, 103, 101]], .tup [.str [97, 114, 99, 104], .int .i64 15, .int .i64 0]⟩
theorem ac19 : ∀ lo H, CallOk NC lo ak19.f ak19.args H ak19.v H := known_ok saneNC awh18 (fuel := 5000) (by kernel_rfl) (by kernel_rfl) (by kernel_rfl)
def aw19 : List Known := ak19 :: aw18
theorem awh19 : ∀ k ∈ aw19, ∀ lo H, CallOk NC lo k.f k.args H k.v H := fun k h => (List.mem_cons.1 h).elim (fun e => e ▸ ac19) (awh18 k)
def ak20 : Known := ⟨127, [.agg [.str [117, 112], .int .i64 0, .int .i64 100, .str [109, 97, 105, 110], .int .i64 20, .bool false]], .int .i64 0⟩
theorem ac20 : ∀ lo H, CallOk NC lo ak20.f ak20.args H ak20.v H := known_ok saneNC awh19 (fuel := 5000) (by kernel_rfl) (by kernel_rfl) (by kernel_rfl)
def aw20 : List Known := ak20 :: aw19
theorem awh20 : ∀ k ∈ aw20, ∀ lo H, CallOk NC lo k.f k.args H k.v H := fun k h => (List.mem_cons.1 h).elim (fun e => e ▸ ac20) (awh19 k)
def ak21 : Known := ⟨127, [.agg [.str [117, 112], .int .i64 100, .int .i64 50, .str [109, 97, 105, 110], .int .i64 200, .bool true]], .int .i64 0⟩
theorem ac21 : ∀ lo H, CallOk NC lo ak21.f ak21.args H ak21.v H := known_ok saneNC awh20 (fuel := 5000) (by kernel_rfl) (by kernel_rfl) (by kernel_rfl)
def aw21 : List Known := ak21 :: aw20
theorem awh21 : ∀ k ∈ aw21, ∀ lo H, CallOk NC lo k.f k.args H k.v H := fun k h => (List.mem_cons.1 h).elim (fun e => e ▸ ac21) (awh20 k)
def ak22 : Known := ⟨49, [.ps .unk [[.str [117, 112], .int .i64 0, .int .i64 100, .str [109, 97, 105, 110], .int .i64 20, .bool false], [.str [117, 112], .int .i64 100, .int .i64 50, .str [109, 97, 105, 110], .int .i64 200, .bool true]]], .int .i64 0⟩
theorem ac22 : ∀ lo H, CallOk NC lo ak22.f ak22.args H ak22.v H := known_ok saneNC awh21 (fuel := 5000) (by kernel_rfl) (by kernel_rfl) (by kernel_rfl)
def aw22 : List Known := ak22 :: aw21
theorem awh22 : ∀ k ∈ aw22, ∀ lo H, CallOk NC lo k.f k.args H k.v H := fun k h => (List.mem_cons.1 h).elim (fun e => e ▸ ac22) (awh21 k)
def ak23 : Known := ⟨42, [.ps .unk [[.str [117, 112], .int .i64 0, .int .i64 100, .str [109, 97, 105, 110], .int .i64 20, .bool false], [.str [117, 112], .int .i64 100, .int .i64 50, .str [109, 97, 105, 110], .int .i64 200, .bool true]], .agg [.str [117, 112], .int .i64 110]], .tup [.agg [.str [109, 97, 105, 110], .int .i64 239], .int .i64 0]⟩
theorem ac23 : ∀ lo H, CallOk NC lo ak23.f ak23.args H ak23.v H := known_ok saneNC awh22 (fuel := 5000) (by kernel_rfl) (by kernel_rfl) (by kernel_rfl)
def aw23 : List Known := ak23 :: aw22
theorem awh23 : ∀ k ∈ aw23, ∀ lo H, CallOk NC lo k.f k.args H k.v H := fun k h => (List.mem_cons.1 h).elim (fun e => e ▸ ac23) (awh22 k)
def ak24 : Known := ⟨54, [.ps .unk [[.str [117, 112], .int .i64 0, .int .i64 100, .str [109, 97, 105, 110], .int .i64 20, .bool false], [.str [117, 112], .int .i64 100, .int .i64 50, .str [109, 97, 105, 110], .int .i64 200, .bool true]]], .tup [.ps .unk [[.str [109, 97, 105, 110], .int .i64 20, .int .i64 100, .str [117, 112], .int .i64 0, .bool false], [.str [109, 97, 105, 110], .int .i64 200, .int .i64 50, .str [117, 112], .int .i64 100, .bool true]], .int .i64 0]⟩
theorem ac24 : ∀ lo H, CallOk NC lo ak24.f ak24.args H ak24.v H := known_ok saneNC awh23 (fuel := 5000) (by kernel_rfl) (by kernel_rfl) (by kernel_rfl)
def aw24 : List Known := ak24 :: aw23
theorem awh24 : ∀ k ∈ aw24, ∀ lo H, CallOk NC lo k.f k.args H k.v H := fun k h => (List.mem_cons.1 h).elim (fun e => e ▸ ac24) (awh23 k)
def ak25 : Known := ⟨127, [.agg [.str [109, 97, 105, 110], .int .i64 0, .int .i64 60, .str [111, 108, 100], .int .i64 500, .bool false]], .int .i64 0⟩
theorem ac25 : ∀ lo H, CallOk NC lo ak25.f ak25.args H ak25.v H := known_ok saneNC awh24 (fuel := 5000) (by kernel_rfl) (by kernel_rfl) (by kernel_rfl)
def aw25 : List Known := ak25 :: aw24
theorem awh25 : ∀ k ∈ aw25, ∀ lo H, CallOk NC lo k.f k.args H k.v H := fun k h => (List.mem_cons.1 h).elim (fun e => e ▸ ac25) (awh24 k)
def ak26 : Known := ⟨49, [.ps .unk [[.str [109, 97, 105, 110], .int .i64 0, .int .i64 60, .str [111, 108, 100], .int .i64 500, .bool false]]], .int .i64 0⟩
theorem ac26 : ∀ lo H, CallOk NC lo ak26.f ak26.args H ak26.v H := known_ok saneNC awh25 (fuel := 5000) (by kernel_rfl) (by kernel_rfl) (by kernel_rfl)
def aw26 : List Known := ak26 :: aw25
theorem awh26 : ∀ k ∈ aw26, ∀ lo H, CallOk NC lo k.f k.args H k.v H := fun k h => (List.mem_cons.1 h).elim (fun e => e ▸ ac26) (awh25 k)
def ak27 : Known := ⟨55, [.ps .unk [[.str [117, 112], .int .i64 0, .int .i64 100, .str [109, 97, 105, 110], .int .i64 20, .bool false], [.str [117, 112], .int .i64 100, .int .i64 50, .str [109, 97, 105, 110], .int .i64 200, .bool true]], .ps .unk [[.str [109, 97, 105, 110], .int .i64 0, .int .i64 60, .str [111, 108, 100], .int .i64 500, .bool false]]], .tup [.ps .unk [[.str [117, 112], .int .i64 0, .int .i64 40, .str [111, 108, 100], .int .i64 520, .bool false]], .int .i64 0]⟩
theorem ac27 : ∀ lo H, CallOk NC lo ak27.f ak27.args H ak27.v H := known_ok saneNC awh26 (fuel := 5000) (by kernel_rfl) (by kernel_rfl) (by kernel_rfl)
def aw27 : List Known := ak27 :: aw26
theorem awh27 : ∀ k ∈ aw27, ∀ lo H, CallOk NC lo k.f k.args H k.v H := fun k h => (List.mem_cons.1 h).elim (fun e => e ▸ ac27) (awh26 k)
def ak28 : Known := ⟨110, [.ps .unk [[.str [109, 97, 105, 110], .ps .unk [[.int .i64 300, .int .i64 1000, .bool false]]]]], .int .i64 0⟩
theorem ac28 : ∀ lo H, CallOk NC lo ak28.f ak28.args H ak28.v H := known_ok saneNC awh27 (fuel := 5000) (by kernel_rfl) (by kernel_rfl) (by kernel_rfl)
def aw28 : List Known := ak28 :: aw27
theorem awh28 : ∀ k ∈ aw28, ∀ lo H, CallOk NC lo k.f k.args H k.v H := fun k h => (List.mem_cons.1 h).elim (fun e => e ▸ ac28) (awh27 k)
def ak29 : Known := ⟨29, [.agg [.ps .unk [[.str [109, 97, 105, 110], .ps .unk [[.int .i64 300, .int .i64 1000, .bool false]]]], .ps .unk [], .ps .unk []]], .int .i64 0⟩
theorem ac29 : ∀ lo H, CallOk NC lo ak29.f ak29.args H ak29.v H := known_ok saneNC awh28 (fuel := 5000) (by kernel_rfl) (by kernel_rfl) (by kernel_rfl)
def aw29 : List Known := ak29 :: aw28
theorem awh29 : ∀ k ∈ aw29, ∀ lo H, CallOk NC lo k.f k.args H k.v H := fun k h => (List.mem_cons.1 h).elim (fun e => e ▸ ac29) (awh28 k)
def ak30 : Known := ⟨133, [.agg [.ps .unk [[.str [117, 112], .ps .unk [[.int .i64 100, .int .i64 5000, .bool false], [.int .i64 50, .int .i64 5080, .bool false], [.int .i64 30, .int .i64 5200, .bool true]]], [.str [115, 105, 100, 101], .ps .unk [[.int .i64 40, .int .i64 0, .bool false]]]], .ps .unk [[.str [119], .str [117, 112], .int .i64 120, .str [115, 105, 100, 101], .bool false]], .ps .unk [[.str [97, 114, 99, 104], .str [98, 114, 105, 100, 103, 101], .str [117, 112], .int .i64 130, .int .i64 150]]], .str [117, 112], .agg [.int .i64 0, .int .i64 100]], .int .i64 0⟩
theorem ac30 : ∀ lo H, CallOk NC lo ak30.f ak30.args H ak30.v H := known_ok saneNC awh29 (fuel := 5000) (by kernel_rfl) (by kernel_rfl) (by kernel_rfl)
def aw30 : List Known := ak30 :: aw29
theorem awh30 : ∀ k ∈ aw30, ∀ lo H, CallOk NC lo k.f k.args H k.v H := fun k h => (List.mem_cons.1 h).elim (fun e => e ▸ ac30) (awh29 k)
def ak31 : Known := ⟨133, [.agg [.ps .unk [[.str [117, 112], .ps .unk [[.int .i64 100, .int .i64 5000, .bool false], [.int .i64 50, .int .i64 5080, .bool false], [.int .i64 30, .int .i64 5200, .bool true]]], [.str [115, 105, 100, 101], .ps .unk [[.int .i64 40, .int .i64 0, .bool false]]]], .ps .unk [[.str [119], .str [117, 112], .int .i64 120, .str [115, 105, 100, 101], .bool false]], .ps .unk [[.str [97, 114, 99, 104], .str [98, 114, 105, 100, 103, 101], .str [117, 112], .int .i64 130, .int .i64 150]]], .str [117, 112], .agg [.int .i64 100, .int .i64 150]], .int .i64 0⟩
theorem ac31 : ∀ lo H, CallOk NC lo ak31.f ak31.args H ak31.v H := known_ok saneNC awh30 (fuel := 5000) (by kernel_rfl) (by kernel_rfl) (by kernel_rfl)
def aw31 : List Known := ak31 :: aw30
theorem awh31 : ∀ k ∈ aw31, ∀ lo H, CallOk NC lo k.f k.args H k.v H := fun k h => (List.mem_cons.1 h).elim (fun e => e ▸ ac31) (awh30 k)
def ak32 : Known := ⟨50, [.ps .unk [[.str [117, 112], .int .i64 0, .int .i64 100, .str [109, 97, 105, 110], .int .i64 20, .bool false], [.str [117, 112], .int .i64 100, .int .i64 50, .str [109, 97, 105, 110], .int .i64 200, .bool true]], .agg [.ps .unk [[.str [117, 112], .ps .unk [[.int .i64 100, .int .i64 5000, .bool false], [.int .i64 50, .int .i64 5080, .bool false], [.int .i64 30, .int .i64 5200, .bool true]]], [.str [115, 105, 100, 101], .ps .unk [[.int .i64 40, .int .i64 0, .bool false]]]], .ps .unk [[.str [119], .str [117, 112], .int .i64 120, .str [115, 105, 100, 101], .bool false]], .ps .unk [[.str [97, 114, 99, 104], .str [98, 114, 105, 100, 103, 101], .str [117, 112], .int .i64 130, .int .i64 150]]], .agg [.ps .unk [[.str [109, 97, 105, 110], .ps .unk [[.int .i64 300, .int .i64 1000, .bool false]]]], .ps .unk [], .ps .unk []]], .int .i64 0⟩
theorem ac32 : ∀ lo H, CallOk NC lo ak32.f ak32.args H ak32.v H := known_ok saneNC awh31 (fuel := 5000) (by kernel_rfl) (by kernel_rfl) (by kernel_rfl)
def aw32 : List Known := ak32 :: aw31
theorem awh32 : ∀ k ∈ aw32, ∀ lo H, CallOk NC lo k.f k.args H k.v H := fun k h => (List.mem_cons.1 h).elim (fun e => e ▸ ac32) (awh31 k)
def ak33 : Known := ⟨69, [.ps .unk [[.int .i64 10, .ps .unk [[.str [117, 112], .ps .unk [[.int .i64 100, .int .i64 5000, .bool false], [.int .i64 50, .int .i64 5080, .bool false], [.int .i64 30, .int .i64 5200, .bool true]]], [.str [115, 105, 100, 101], .ps .unk [[.int .i64 40, .int .i64 0, .bool false]]]], .ps .unk [[.str [119], .str [117, 112], .int .i64 120, .str [115, 105, 100, 101], .bool false]], .ps .unk [[.str [97, 114, 99, 104], .str [98, 114, 105, 100, 103, 101], .str [117, 112], .int .i64 130, .int .i64 150]], .ps .unk []], [.int .i64 20, .ps .unk [[.str [109, 97, 105, 110], .ps .unk [[.int .i64 300, .int .i64 1000, .bool false]]]], .ps .unk [], .ps .unk [], .ps .unk [[.str [117, 112], .int .i64 0, .int .i64 100, .str [109, 97, 105, 110], .int .i64 20, .bool false], [.str [117, 112], .int .i64 100, .int .i64 50, .str [109, 97, 105, 110], .int .i64 200, .bool true]]]]], .int .i64 0⟩
theorem ac33 : ∀ lo H, CallOk NC lo ak33.f ak33.args H ak33.v H := known_ok saneNC awh32 (fuel := 5000) (by kernel_rfl) (by kernel_rfl) (by kernel_rfl)
def aw33 : List Known := ak33 :: aw32
theorem awh33 : ∀ k ∈ aw33, ∀ lo H, CallOk NC lo k.f k.args H k.v H := fun k h => (List.mem_cons.1 h).elim (fun e => e ▸ ac33) (awh32 k)
def ak34 : Known := ⟨65, [.ps .unk [[.int .i64 10, .ps .unk [[.str [117, 112], .ps .unk [[.int .i64 100, .int .i64 5000, .bool false], [.int .i64 50, .int .i64 5080, .bool false], [.int .i64 30, .int .i64 5200, .bool true]]], [.str [115, 105, 100, 101], .ps .unk [[.int .i64 40, .int .i64 0, .bool false]]]], .ps .unk [[.str [119], .str [117, 112], .int .i64 120, .str [115, 105, 100, 101], .bool false]], .ps .unk [[.str [97, 114, 99, 104], .str [98, 114, 105, 100, 103, 101], .str [117, 112], .int .i64 130, .int .i64 150]], .ps .unk []], [.int .i64 20, .ps .unk [[.str [109, 97, 105, 110], .ps .unk [[.int .i64 300, .int .i64 1000, .bool false]]]], .ps .unk [], .ps .unk [], .ps .unk [[.str [117, 112], .int .i64 0, .int .i64 100, .str [109, 97, 105, 110], .int .i64 20, .bool false], [.str [117, 112], .int .i64 100, .int .i64 50, .str [109, 97, 105, 110], .int .i64 200, .bool true]]]], .int .i64 15, .agg [.str [117, 112], .int .i64 1, .int .i64 5090], .int .i64 25], .tup [.agg [.str [109, 97, 105, 110], .int .i64 0, .int .i64 1239], .int .i64 0]⟩
theorem ac34 : ∀ lo H, CallOk NC lo ak34.f ak34.args H ak34.v H := known_ok saneNC awh33 (fuel := 5000) (by kernel_rfl) (by kernel_rfl) (by kernel_rfl)
def aw34 : List Known := ak34 :: aw33
theorem awh34 : ∀ k ∈ aw34, ∀ lo H, CallOk NC lo k.f k.args H k.v H := fun k h => (List.mem_cons.1 h).elim (fun e => e ▸ ac34) (awh33 k)
def ak35 : Known := ⟨65, [.ps .unk [[.int .i64 10, .ps .unk [[.str [117, 112], .ps .unk [[.int .i64 100, .int .i64 5000, .bool false], [.int .i64 50, .int .i64 5080, .bool false], [.int .i64 30, .int .i64 5200, .bool true]]], [.str [115, 105, 100, 101], .ps .unk [[.int .i64 40, .int .i64 0, .bool false]]]], .ps .unk [[.str [119], .str [117, 112], .int .i64 120, .str [115, 105, 100, 101], .bool false]], .ps .unk [[.str [97, 114, 99, 104], .str [98, 114, 105, 100, 103, 101], .str [117, 112], .int .i64 130, .int .i64 150]], .ps .unk []], [.int .i64 20, .ps .unk [[.str [109, 97, 105, 110], .ps .unk [[.int .i64 300, .int .i64 1000, .bool false]]]], .ps .unk [], .ps .unk [], .ps .unk [[.str [117, 112], .int .i64 0, .int .i64 100, .str [109, 97, 105, 110], .int .i64 20, .bool false], [.str [117, 112], .int .i64 100, .int .i64 50, .str [109, 97, 105, 110], .int .i64 200, .bool true]]]], .int .i64 25, .agg [.str [109, 97, 105, 110], .int .i64 0, .int .i64 1239], .int .i64 10], .tup [.agg [.str [117, 112], .int .i64 1, .int .i64 5090], .int .i64 0]⟩
theorem ac35 : ∀ lo H, CallOk NC lo ak35.f ak35.args H ak35.v H := known_ok saneNC awh34 (fuel := 5000) (by kernel_rfl) (by kernel_rfl) (by kernel_rfl)
def aw35 : List Known := ak35 :: aw34
theorem awh35 : ∀ k ∈ aw35, ∀ lo H, CallOk NC lo k.f k.args H k.v H := fun k h => (List.mem_cons.1 h).elim (fun e => e ▸ ac35) (awh34 k)
def ak36 : Known := ⟨102, [.agg [.ps .unk [[.str [117, 112], .ps .unk [[.int .i64 100, .int .i64 5000, .bool false], [.int .i64 50, .int .i64 5080, .bool false], [.int .i64 30, .int .i64 5200, .bool true]]], [.str [115, 105, 100, 101], .ps .unk [[.int .i64 40, .int .i64 0, .bool false]]]], .ps .unk [[.str [119], .str [117, 112], .int .i64 120, .str [115, 105, 100, 101], .bool false]], .ps .unk [[.str [97, 114, 99, 104], .str [98, 114, 105, 100, 103, 101], .str [117, 112], .int .i64 130, .int .i64 150]]], .agg [.str [117, 112], .int .i64 2, .int .i64 5171]], .tup [.agg [.str [117, 112], .int .i64 179], .int .i64 0]⟩
theorem ac36 : ∀ lo H, CallOk NC lo ak36.f ak36.args H ak36.v H := known_ok saneNC awh35 (fuel := 5000) (by kernel_rfl) (by kernel_rfl) (by kernel_rfl)
def aw36 : List Known := ak36 :: aw35
theorem awh36 : ∀ k ∈ aw36, ∀ lo H, CallOk NC lo k.f k.args H k.v H := fun k h => (List.mem_cons.1 h).elim (fun e => e ▸ ac36) (awh35 k)
def ak37 : Known := ⟨65, [.ps .unk [[.int .i64 10, .ps .unk [[.str [117, 112], .ps .unk [[.int .i64 100, .int .i64 5000, .bool false], [.int .i64 50, .int .i64 5080, .bool false], [.int .i64 30, .int .i64 5200, .bool true]]], [.str [115, 105, 100, 101], .ps .unk [[.int .i64 40, .int .i64 0, .bool false]]]], .ps .unk [[.str [119], .str [117, 112], .int .i64 120, .str [115, 105, 100, 101], .bool false]], .ps .unk [[.str [97, 114, 99, 104], .str [98, 114, 105, 100, 103, 101], .str [117, 112], .int .i64 130, .int .i64 150]], .ps .unk []], [.int .i64 20, .ps .unk [[.str [109, 97, 105, 110], .ps .unk [[.int .i64 300, .int .i64 1000, .bool false]]]], .ps .unk [], .ps .unk [], .ps .unk [[.str [117, 112], .int .i64 0, .int .i64 100, .str [109, 97, 105, 110], .int .i64 20, .bool false], [.str [117, 112], .int .i64 100, .int .i64 50, .str [109, 97, 105, 110], .int .i64 200, .bool true]]]], .int .i64 15, .agg [.str [117, 112], .int .i64 2, .int .i64 5171], .int .i64 25], .tup [.agg [.str [], .int .i64 0, .int .i64 0], .int .i64 7]⟩
theorem ac37 : ∀ lo H, CallOk NC lo ak37.f ak37.args H ak37.v H := known_ok saneNC awh36 (fuel := 5000) (by kernel_rfl) (by kernel_rfl) (by kernel_rfl)
def aw37 : List Known := ak37 :: aw36
theorem awh37 : ∀ k ∈ aw37, ∀ lo H, CallOk NC lo k.f k.args H k.v H := fun k h => (List.mem_cons.1 h).elim (fun e => e ▸ ac37) (awh36 k)
def ak38 : Known := ⟨87, [.agg [.ps .unk [[.str [117, 112], .ps .unk [[.int .i64 100, .int .i64 5000, .bool false], [.int .i64 50, .int .i64 5080, .bool false], [.int .i64 30, .int .i64 5200, .bool true]]], [.str [115, 105, 100, 101], .ps .unk [[.int .i64 40, .int .i64 0, .bool false]]]], .ps .unk [[.str [119], .str [117, 112], .int .i64 120, .str [115, 105, 100, 101], .bool false]], .ps .unk [[.str [97, 114, 99, 104], .str [98, 114, 105, 100, 103, 101], .str [117, 112], .int .i64 130, .int .i64 150]]]], .tup [.str [108, 105, 110, 101, 32, 117, 112, 10, 112, 105, 101, 99, 101, 32, 49, 48, 48, 32, 53, 48, 48, 48, 32, 117, 112, 10, 112, 105, 101, 99, 101, 32, 53, 48, 32, 53, 48, 56, 48, 32, 117, 112, 10, 112, 105, 101, 99, 101, 32, 51, 48, 32, 53, 50, 48, 48, 32, 100, 111, 119, 110, 10, 108, 105, 110, 101, 32, 115, 105, 100, 101, 10, 112, 105, 101, 99, 101, 32, 52, 48, 32, 48, 32, 117, 112, 10, 115, 119, 105, 116, 99, 104, 32, 119, 32, 117, 112, 32, 49, 50, 48, 32, 115, 105, 100, 101, 32, 102, 105, 114, 115, 116, 10, 115, 116, 114, 117, 99, 116, 117, 114, 101, 32, 97, 114, 99, 104, 32, 98, 114, 105, 100, 103, 101, 32, 117, 112, 32, 49, 51, 48, 32, 49, 53, 48, 10], .int .i64 0]⟩
theorem ac38 : ∀ lo H, CallOk NC lo ak38.f ak38.args H ak38.v H := known_ok saneNC awh37 (fuel := 5000) (by kernel_rfl) (by kernel_rfl) (by kernel_rfl)
def aw38 : List Known := ak38 :: aw37
theorem awh38 : ∀ k ∈ aw38, ∀ lo H, CallOk NC lo k.f k.args H k.v H := fun k h => (List.mem_cons.1 h).elim (fun e => e ▸ ac38) (awh37 k)
def ak39 : Known := ⟨16, [], .bool true⟩
theorem ac39 : ∀ lo H, CallOk NC lo ak39.f ak39.args H ak39.v H := known_ok saneNC awh38 (fuel := 5000) (by kernel_rfl) (by kernel_rfl) (by kernel_rfl)
end Go.Sim

/-
The law: NetworkPlaces returns true.
-/
namespace Go.Sim
open Go Go.Proofs
set_option maxRecDepth 100000
set_option maxHeartbeats 16000000
noncomputable def p16 : List AV → Option AV := fun l => match l with
  | [] => some (.bool true)
  | _ => none
theorem pok16 : ∀ args v, p16 args = some v → ∀ lo H, CallOk NC lo 16 args H v H := by
  intro args v h
  cases args with
  | nil =>
    have : v = .bool true := by simpa [p16] using h.symm
    subst this
    exact ac39
  | cons a r => simp [p16] at h
theorem e16 : p16 [] = some (.bool true) := rfl
noncomputable def p17 : List AV → Option AV := primOf (α := Net) (fun x => [.agg x.cells]) (fun _ => True) (fun x => .bool (shortN x))
theorem pok17 : ∀ args v, p17 args = some v → ∀ lo H, CallOk NC lo 17 args H v H := by
  intro args v h
  obtain ⟨x, rfl, hp, rfl⟩ := primOf_inv h
  clear h
  revert x
  intro x; exact c17 x
theorem pe17 (x : Net) (hp : (fun _ => True) x) : p17 ((fun x => [.agg x.cells]) x) = some ((fun x => .bool (shortN x)) x) := primOf_enc (by intro x y h; exact cells1_inj x y h) x hp
noncomputable def p18 : List AV → Option AV := primOf (α := Net × List Nat) (fun x => [.agg x.1.cells, .str x.2]) (fun x => x.1.Ok) (fun x => .tup (if netP x.1 = 0 then (if lnB x.1.lines x.2 then [i64 (sumW (lnOf x.1.lines x.2).ps 0), i64 0] else [i64 0, i64 10]) else [i64 0, i64 (netP x.1)]))
theorem pok18 : ∀ args v, p18 args = some v → ∀ lo H, CallOk NC lo 18 args H v H := by
  intro args v h
  obtain ⟨x, rfl, hp, rfl⟩ := primOf_inv h
  clear h
  revert x
  intro x hx; exact c18 x.1 x.2 hx
theorem pe18 (x : Net × List Nat) (hp : (fun x => x.1.Ok) x) : p18 ((fun x => [.agg x.1.cells, .str x.2]) x) = some ((fun x => .tup (if netP x.1 = 0 then (if lnB x.1.lines x.2 then [i64 (sumW (lnOf x.1.lines x.2).ps 0), i64 0] else [i64 0, i64 10]) else [i64 0, i64 (netP x.1)])) x) := primOf_enc (by intro x y h; (obtain ⟨a, b⟩ := x; obtain ⟨c, d⟩ := y; simp only [List.cons.injEq, AV.agg.injEq, AV.str.injEq, true_and, and_true] at h; obtain ⟨h1, rfl⟩ := h; rw [Net.cells_inj _ _ h1])) x hp
noncomputable def p19 : List AV → Option AV := primOf (α := Net) (fun x => [.agg x.cells]) (fun x => x.fits ∧ x.sws.length ≤ maxRows ∧ x.sts.length ≤ maxRows) (fun x => .agg x.cells)
theorem pok19 : ∀ args v, p19 args = some v → ∀ lo H, CallOk NC lo 19 args H v H := by
  intro args v h
  obtain ⟨x, rfl, hp, rfl⟩ := primOf_inv h
  clear h
  revert x
  intro x hx; exact c19 x hx.1 hx.2.1 hx.2.2
theorem pe19 (x : Net) (hp : (fun x => x.fits ∧ x.sws.length ≤ maxRows ∧ x.sts.length ≤ maxRows) x) : p19 ((fun x => [.agg x.cells]) x) = some ((fun x => .agg x.cells) x) := primOf_enc (by intro x y h; exact cells1_inj x y h) x hp
noncomputable def p20 : List AV → Option AV := primOf (α := Net × List Nat × Int) (fun x => [.agg x.1.cells, .agg [.str x.2.1, i64 x.2.2]]) (fun x => x.1.Ok) (fun x => .tup (if netP x.1 = 0 then (if placeP x.1 x.2.1 x.2.2 = 0 then [.agg [.str x.2.1, i64 (addrK (lnOf x.1.lines x.2.1) x.2.2 (lnOf x.1.lines x.2.1).ps.length).1, i64 (addrK (lnOf x.1.lines x.2.1) x.2.2 (lnOf x.1.lines x.2.1).ps.length).2], i64 0] else [noAddr, i64 (placeP x.1 x.2.1 x.2.2)]) else [noAddr, i64 (netP x.1)]))
theorem pok20 : ∀ args v, p20 args = some v → ∀ lo H, CallOk NC lo 20 args H v H := by
  intro args v h
  obtain ⟨x, rfl, hp, rfl⟩ := primOf_inv h
  clear h
  revert x
  intro x hx; exact c20 x.1 x.2.1 x.2.2 hx
theorem pe20 (x : Net × List Nat × Int) (hp : (fun x => x.1.Ok) x) : p20 ((fun x => [.agg x.1.cells, .agg [.str x.2.1, i64 x.2.2]]) x) = some ((fun x => .tup (if netP x.1 = 0 then (if placeP x.1 x.2.1 x.2.2 = 0 then [.agg [.str x.2.1, i64 (addrK (lnOf x.1.lines x.2.1) x.2.2 (lnOf x.1.lines x.2.1).ps.length).1, i64 (addrK (lnOf x.1.lines x.2.1) x.2.2 (lnOf x.1.lines x.2.1).ps.length).2], i64 0] else [noAddr, i64 (placeP x.1 x.2.1 x.2.2)]) else [noAddr, i64 (netP x.1)])) x) := primOf_enc (by intro x y h; (obtain ⟨a, b, c⟩ := x; obtain ⟨d, e, f⟩ := y; simp only [List.cons.injEq, AV.agg.injEq, AV.str.injEq, AV.int.injEq, true_and, and_true] at h; obtain ⟨h1, rfl, rfl⟩ := h; rw [Net.cells_inj _ _ h1])) x hp
noncomputable def p21 : List AV → Option AV := primOf (α := Net × List Nat × Int × Int) (fun x => [.agg x.1.cells, .agg [.str x.2.1, i64 x.2.2.1, i64 x.2.2.2]]) (fun x => x.1.Ok) (fun x => .tup (if netP x.1 = 0 then placedP x.1 x.2.1 x.2.2.1 x.2.2.2 else [noPlace, i64 (netP x.1)]))
theorem pok21 : ∀ args v, p21 args = some v → ∀ lo H, CallOk NC lo 21 args H v H := by
  intro args v h
  obtain ⟨x, rfl, hp, rfl⟩ := primOf_inv h
  clear h
  revert x
  intro x hx; exact c21 x.1 x.2.1 x.2.2.1 x.2.2.2 hx
theorem pe21 (x : Net × List Nat × Int × Int) (hp : (fun x => x.1.Ok) x) : p21 ((fun x => [.agg x.1.cells, .agg [.str x.2.1, i64 x.2.2.1, i64 x.2.2.2]]) x) = some ((fun x => .tup (if netP x.1 = 0 then placedP x.1 x.2.1 x.2.2.1 x.2.2.2 else [noPlace, i64 (netP x.1)])) x) := primOf_enc (by intro x y h; (obtain ⟨a, b, c, d⟩ := x; obtain ⟨a', b', c', d'⟩ := y; simp only [List.cons.injEq, AV.agg.injEq, AV.str.injEq, AV.int.injEq, true_and, and_true] at h; obtain ⟨h1, rfl, rfl, rfl⟩ := h; rw [Net.cells_inj _ _ h1])) x hp
noncomputable def p22 : List AV → Option AV := primOf (α := Net) (fun x => [.agg x.cells]) (fun x => x.fits ∧ x.sws.length ≤ maxRows ∧ x.sts.length ≤ maxRows) (fun x => i64 (netR x))
theorem pok22 : ∀ args v, p22 args = some v → ∀ lo H, CallOk NC lo 22 args H v H := by
  intro args v h
  obtain ⟨x, rfl, hp, rfl⟩ := primOf_inv h
  clear h
  revert x
  intro x hx; exact c22 x hx.1 hx.2.1 hx.2.2
theorem pe22 (x : Net) (hp : (fun x => x.fits ∧ x.sws.length ≤ maxRows ∧ x.sts.length ≤ maxRows) x) : p22 ((fun x => [.agg x.cells]) x) = some ((fun x => i64 (netR x)) x) := primOf_enc (by intro x y h; exact cells1_inj x y h) x hp
theorem beqL_self (a : List Nat) : beqL a a = true := (beqL_iff a a).2 rfl
theorem eqI_self (a : Int) : eqI a a = true := by rw [eqI_iff]; simp
theorem short_ok {n : Net} (h : shortN n = true) : n.Ok := by
  unfold shortN at h
  simp only [Bool.and_eq_true, Bool.not_eq_true', Bool.or_eq_false_iff, decide_eq_false_iff_not, List.all_eq_true] at h
  obtain ⟨⟨⟨⟨⟨h1, h2⟩, h3⟩, h4⟩, h5⟩, h6⟩ := h
  have short : ∀ s : List Nat, shortB s = true → s.length ≤ maxRows := by
    intro s hs
    unfold shortB at hs
    simp only [Bool.not_eq_true', decide_eq_false_iff_not] at hs
    unfold maxRows; omega
  refine ⟨by unfold maxRows; omega, fun l hl => ?_, by unfold maxRows; omega, fun s hs => ?_, by unfold maxRows; omega, fun s hs => ?_⟩
  · have := h4 l hl
    unfold shortLn at this
    simp only [Bool.and_eq_true, Bool.not_eq_true', decide_eq_false_iff_not] at this
    exact ⟨short _ this.1, by unfold maxRows; omega⟩
  · have := h5 s hs
    unfold shortSw at this
    simp only [Bool.and_eq_true] at this
    exact short _ this.1.1
  · have := h6 s hs
    unfold shortSt at this
    simp only [Bool.and_eq_true] at this
    exact ⟨short _ this.1.1, short _ this.1.2⟩
end Go.Sim

/-
Addresses as keys of a map; the reference's Small; the program's Posts.
-/
namespace Go.Sim
open Go Go.Proofs
set_option maxRecDepth 100000
set_option maxHeartbeats 8000000
abbrev Ad : Type := List Nat × Int × Int
def adRow (a : Ad) : List AV := [.str a.1, i64 a.2.1, i64 a.2.2]
theorem adRow_len (a : Ad) : (adRow a).length = 3 := rfl
def adB (a b : Ad) : Bool := beqL a.1 b.1 && (eqI a.2.1 b.2.1 && eqI a.2.2 b.2.2)
theorem adB_iff (a b : Ad) : adB a b = true ↔ a = b := by
  obtain ⟨a1, a2, a3⟩ := a
  obtain ⟨b1, b2, b3⟩ := b
  unfold adB
  simp only [Bool.and_eq_true, beqL_iff, eqI_iff, decide_eq_true_eq, Prod.mk.injEq]
def adMap (l : List Ad) : List (AV × AV) := l.map fun a => (.agg (adRow a), .bool true)
theorem aeq42' (a a' : List Nat) (b b' c c' : Int) : aeqT NC.P 100 42 (.agg [.str a, .int .i64 b, .int .i64 c]) (.agg [.str a', .int .i64 b', .int .i64 c']) =
    (match some (beqL a a') with
    | some true => (match some (eqI b b') with
      | some true => (match some (eqI c c') with
        | some true => some true
        | some false => some false
        | none => none)
      | some false => some false
      | none => none)
    | some false => some false
    | none => none) := by kernel_rfl
theorem aeq42 (a b : Ad) : aeqT NC.P 100 42 (.agg (adRow a)) (.agg (adRow b)) = some (adB a b) := by
  unfold adRow adB
  rw [aeq42']
  cases beqL a.1 b.1 <;> cases eqI a.2.1 b.2.1 <;> cases eqI a.2.2 b.2.2 <;> rfl
theorem ety42 : eqType NC.P 100 42 = true := by kernel_rfl
theorem keyOk42 (a : Ad) : keyOk NC.P 42 (.agg (adRow a)) = true := by
  unfold keyOk
  rw [aeq42, ety42, (adB_iff a a).2 rfl]; rfl
theorem afind42 (s : Ad) : ∀ (l : List Ad) (i : Nat), (l.any (adB s) = true → ∃ j k, afind NC.P 42 (.agg (adRow s)) (adMap l) i = some (some (j, k, .bool true))) ∧ (l.any (adB s) = false → afind NC.P 42 (.agg (adRow s)) (adMap l) i = some none)
  | [], i => ⟨fun h => by simp at h, fun _ => rfl⟩
  | a :: r, i => by
    have ih := afind42 s r (i + 1)
    have hu : afind NC.P 42 (.agg (adRow s)) (adMap (a :: r)) i = match aeqT NC.P 100 42 (.agg (adRow s)) (.agg (adRow a)) with
        | some true => some (some (i, .agg (adRow a), .bool true))
        | some false => afind NC.P 42 (.agg (adRow s)) (adMap r) (i + 1)
        | none => none := rfl
    rw [hu, aeq42]
    cases hb : adB s a with
    | true => exact ⟨fun _ => ⟨_, _, rfl⟩, fun h => by simp [hb] at h⟩
    | false => simp only [List.any_cons, hb, Bool.false_or]; exact ih
theorem lookA {H : Heap} {m : Nat} {l : List Ad} (h : H.get m = .map (adMap l)) (s : Ad) : alookup NC.P H 95 (.map m) (.agg (adRow s)) false = some (.bool (l.any (adB s))) := by
  unfold alookup
  have hu : NC.P.underlying 95 = some (.map 42 4) := un_95
  have hz : zeroOf NC.P 4 = some (.bool false) := ze_4
  simp only [hu, keyOk42, if_true, hz, mapEntries, h]
  obtain ⟨h1, h2⟩ := afind42 s l 0
  cases hb : l.any (adB s) with
  | true =>
    obtain ⟨j, k, e⟩ := h1 hb
    rw [e]; rfl
  | false => rw [h2 hb]; rfl
theorem updA {lo : Nat} {H : Heap} {m : Nat} {l : List Ad} (h : H.get m = .map (adMap l)) (hlo : lo ≤ m) (s : Ad) (hs : l.any (adB s) = false) : amapUpdate NC.P lo H 95 (.map m) (.agg (adRow s)) (.bool true) = some (H.set m (.map (adMap (l ++ [s])))) := by
  unfold amapUpdate
  have hu : NC.P.underlying 95 = some (.map 42 4) := un_95
  obtain ⟨_, h2⟩ := afind42 s l 0
  simp only [hu, keyOk42, hlo, decide_true, Bool.and_self, if_true, h, h2 hs]
  simp [adMap, AV.strip]
/-! ### Small -/
def smallN (n : Net) : Bool := shortN n && (decide (netR n = 0) && !decide ((4 : Int) < n.lines.length) && !decide ((4 : Int) < n.sws.length) && !decide ((6 : Int) < n.sts.length) && n.lines.all fun l => !decide (120 < sumW l.ps 0))
noncomputable def PPF31 : FuncId → Option (List AV → Option AV) := addPrim 26 p26 (addPrim 22 p22 (addPrim 17 p17 (fun _ => none)))
theorem primsF31 : PrimsOk NC PPF31 := primsOk_add (primsOk_add (primsOk_add (primsOk_none) (by kernel_rfl) (by kernel_rfl) pok17) (by kernel_rfl) (by kernel_rfl) pok22) (by kernel_rfl) (by kernel_rfl) pok26
theorem enF31_17 {rec : Rec} {lo : Nat} {args : List AV} {H : Heap} {K : AV → Heap → Prop} : VO (aenter (NC.withPrims PPF31) rec lo 17 args H) K = AO (p17 args) fun v => K v H := enter_prim (by rfl) (by kernel_rfl)
theorem enF31_22 {rec : Rec} {lo : Nat} {args : List AV} {H : Heap} {K : AV → Heap → Prop} : VO (aenter (NC.withPrims PPF31) rec lo 22 args H) K = AO (p22 args) fun v => K v H := enter_prim (by rfl) (by kernel_rfl)
theorem enF31_26 {rec : Rec} {lo : Nat} {args : List AV} {H : Heap} {K : AV → Heap → Prop} : VO (aenter (NC.withPrims PPF31) rec lo 26 args H) K = AO (p26 args) fun v => K v H := enter_prim (by rfl) (by kernel_rfl)
attribute [go_sem ↓] enF31_17 enF31_22 enF31_26
theorem c31 (n : Net) : ∀ lo H, CallOk NC lo 31 [.agg n.cells] H (.bool (smallN n)) H := by
  refine contract saneNC primsF31 (fn := Tryz.f31) (by kernel_rfl) Tryz.func31 rfl rfl (by rfl) (by first | rfl | (split <;> first | rfl | (split <;> rfl))) ?_
  have e17 : p17 [.agg n.cells] = some (.bool (shortN n)) := pe17 n trivial
  have hsm : smallN n = (shortN n && (decide (netR n = 0) && !decide ((4 : Int) < n.lines.length) && !decide ((4 : Int) < n.sws.length) && !decide ((6 : Int) < n.sts.length) && n.lines.all fun l => !decide (120 < sumW l.ps 0))) := rfl
  rw [hsm]
  simp only [Net.cells] at e17
  cases hS : shortN n with
  | false =>
    rw [hS] at e17
    simp only [go_sem, reduceIte, Nat.reduceEqDiff, Nat.reduceAdd, Nat.reduceMul, Nat.reduceSub, Nat.reduceLeDiff, Nat.reduceLT, Nat.reduceBEq, reduceCtorEq, Net.cells, e17]
  | true =>
    rw [hS] at e17
    have hok := short_ok hS
    have e22 : p22 [.agg n.cells] = some (.int .i64 (netR n)) := pe22 n ⟨hok.fits, hok.sws, hok.sts⟩
    simp only [Net.cells] at e22
    rcases Classical.propComplete (netR n = 0) with z | z
    case inr =>
      simp only [go_sem, reduceIte, Nat.reduceEqDiff, Nat.reduceAdd, Nat.reduceMul, Nat.reduceSub, Nat.reduceLeDiff, Nat.reduceLT, Nat.reduceBEq, reduceCtorEq, Net.cells, e17, e22, z]
    rcases Classical.propComplete ((4 : Int) < n.lines.length) with q1 | q1
    · simp only [go_sem, reduceIte, Nat.reduceEqDiff, Nat.reduceAdd, Nat.reduceMul, Nat.reduceSub, Nat.reduceLeDiff, Nat.reduceLT, Nat.reduceBEq, reduceCtorEq, Net.cells, List.length_map, e17, e22, z, q1]
    rcases Classical.propComplete ((4 : Int) < n.sws.length) with q2 | q2
    · simp only [go_sem, reduceIte, Nat.reduceEqDiff, Nat.reduceAdd, Nat.reduceMul, Nat.reduceSub, Nat.reduceLeDiff, Nat.reduceLT, Nat.reduceBEq, reduceCtorEq, Net.cells, List.length_map, e17, e22, z, q1, q2]
    rcases Classical.propComplete ((6 : Int) < n.sts.length) with q3 | q3
    · simp only [go_sem, reduceIte, Nat.reduceEqDiff, Nat.reduceAdd, Nat.reduceMul, Nat.reduceSub, Nat.reduceLeDiff, Nat.reduceLT, Nat.reduceBEq, reduceCtorEq, Net.cells, List.length_map, e17, e22, z, q1, q2, q3]
    simp only [go_sem, reduceIte, Nat.reduceEqDiff, Nat.reduceAdd, Nat.reduceMul, Nat.reduceSub, Nat.reduceLeDiff, Nat.reduceLT, Nat.reduceBEq, reduceCtorEq, Net.cells, List.length_map, e17, e22, z, q1, q2, q3]
    refine W_for (fun k T H M => M = [] ∧ getT T 1 = .ptr 0 0 ∧ getT T 3 = i64 k ∧ H.get 0 = .cells n.cells 26 ∧ 0 < H.n ∧ ∀ (j : Nat) x, j < k → n.lines[j]? = some x → (!decide (120 < sumW x.ps 0)) = true) n.lines.length ?_ ?_ ?_
    · simp only [go_sem, reduceIte, Nat.reduceEqDiff, Nat.reduceAdd, Nat.reduceMul, Nat.reduceSub, Nat.reduceLeDiff, Nat.reduceLT, Nat.reduceBEq, reduceCtorEq, Net.cells]; exact fun j x hj => absurd hj (by omega)
    · rintro k T H M hk ⟨rfl, g1, g3, h0, hn, hall⟩
      obtain ⟨l, hp⟩ : ∃ p, n.lines[k]? = some p := ⟨n.lines[k], by simp⟩
      have hmem := List.mem_of_getElem? hp
      have hr := map_at (f := Ln.row) hp
      have hw := wrap_succ hk hok.lines
      have e26 : p26 [.agg l.row] = some (.int .i64 (sumW l.ps 0)) := pe26 l (hok.line l hmem).2
      simp only [Ln.row, i64] at hr e26
      rcases Classical.propComplete (120 < sumW l.ps 0) with d1 | d1 <;> simp only [go_sem, reduceIte, Nat.reduceEqDiff, Nat.reduceAdd, Nat.reduceMul, Nat.reduceSub, Nat.reduceLeDiff, Nat.reduceLT, Nat.reduceBEq, reduceCtorEq, g1, g3, h0, Net.cells, List.length_map, hk, hr, hw, e26, d1]
      case inr =>
        refine ⟨hn, fun j x hj hx => ?_⟩
        by_cases e : j = k
        · subst e; rw [hp] at hx; cases hx; simp [d1]
        · have := hall j x (by omega) hx
          simpa using this
      rw [all_false hp (by simp [d1])]
      simp
    · rintro T H M ⟨rfl, g1, g3, h0, hn, hall⟩
      rw [all_true hall]
      simp only [go_sem, reduceIte, Nat.reduceEqDiff, Nat.reduceAdd, Nat.reduceMul, Nat.reduceSub, Nat.reduceLeDiff, Nat.reduceLT, Nat.reduceBEq, reduceCtorEq, g1, g3, h0, Net.cells, List.length_map, Nat.lt_irrefl]
      simp [z, q1, q2, q3]
noncomputable def p31 : List AV → Option AV := primOf (α := (Net)) (fun x => [.agg x.cells]) (fun x => True) (fun x => .bool (smallN x))
theorem pok31 : ∀ args v, p31 args = some v → ∀ lo H, CallOk NC lo 31 args H v H := by
  intro args v h
  obtain ⟨x, rfl, hp, rfl⟩ := primOf_inv h
  exact c31 x
theorem pe31 (n : Net) : p31 [.agg n.cells] = some (.bool (smallN n)) := primOf_enc (α := (Net)) (enc := fun x => [.agg x.cells]) (pre := fun x => True) (spec := fun x => .bool (smallN x)) (by intro x y h; (simp only [List.cons.injEq, AV.agg.injEq, AV.str.injEq, AV.int.injEq, AV.ps.injEq, AV.bool.injEq, Net.cells_iff, Ln.row_iff, Pc.row_iff, Mv.row_iff, lns_iff, pcs_iff, mvs_iff, true_and, and_true] at h; first | simpa only [Prod.ext_iff] using h | simpa only [Prod.ext_iff, and_assoc] using h)) n trivial
/-! ### Posts -/
def postAt (l : Ln) (s : List Nat) (P : Int) (k : Nat) : List Ad := match l.ps[k]? with
  | some p => if metreB p P then [(s, ((k : Nat) : Int), P)] else []
  | none => []
def postsK (l : Ln) (s : List Nat) (P : Int) : Nat → List Ad
  | 0 => []
  | k + 1 => postsK l s P k ++ postAt l s P k
theorem postsK_len (l : Ln) (s : List Nat) (P : Int) : ∀ k, (postsK l s P k).length ≤ k
  | 0 => Nat.le_refl _
  | k + 1 => by
    have := postsK_len l s P k
    unfold postsK postAt
    cases l.ps[k]? with
    | none => simp; omega
    | some p => simp only []; split <;> simp <;> omega
def postsE (n : Net) (s : List Nat) (P : Int) : Int := firstI [whenI (!lnB n.lines s) 10, rangeI P 0 9999999]
def postsP (n : Net) (s : List Nat) (P : Int) : List AV :=
  if netP n = 0 then (if postsE n s P = 0 then [.ps .unk ((postsK (lnOf n.lines s) s P (lnOf n.lines s).ps.length).map adRow), i64 0] else [.ps .unk [], i64 (postsE n s P)]) else [.ps .unk [], i64 (netP n)]
theorem postsP_pure (n : Net) (s : List Nat) (P : Int) : (AV.tup (postsP n s P)).pure = true := by
  unfold postsP; repeat' split
  all_goals rfl
noncomputable def PPF51 : FuncId → Option (List AV → Option AV) := addPrim 134 p134 (addPrim 111 p111 (addPrim 115 p115 (addPrim 121 p121 (addPrim 98 p98 (addPrim 29 p29 (fun _ => none))))))
theorem primsF51 : PrimsOk NC PPF51 := primsOk_add (primsOk_add (primsOk_add (primsOk_add (primsOk_add (primsOk_add (primsOk_none) (by kernel_rfl) (by kernel_rfl) pok29) (by kernel_rfl) (by kernel_rfl) pok98) (by kernel_rfl) (by kernel_rfl) pok121) (by kernel_rfl) (by kernel_rfl) pok115) (by kernel_rfl) (by kernel_rfl) pok111) (by kernel_rfl) (by kernel_rfl) pok134
theorem enF51_29 {rec : Rec} {lo : Nat} {args : List AV} {H : Heap} {K : AV → Heap → Prop} : VO (aenter (NC.withPrims PPF51) rec lo 29 args H) K = AO (p29 args) fun v => K v H := enter_prim (by rfl) (by kernel_rfl)
theorem enF51_98 {rec : Rec} {lo : Nat} {args : List AV} {H : Heap} {K : AV → Heap → Prop} : VO (aenter (NC.withPrims PPF51) rec lo 98 args H) K = AO (p98 args) fun v => K v H := enter_prim (by rfl) (by kernel_rfl)
theorem enF51_121 {rec : Rec} {lo : Nat} {args : List AV} {H : Heap} {K : AV → Heap → Prop} : VO (aenter (NC.withPrims PPF51) rec lo 121 args H) K = AO (p121 args) fun v => K v H := enter_prim (by rfl) (by kernel_rfl)
theorem enF51_115 {rec : Rec} {lo : Nat} {args : List AV} {H : Heap} {K : AV → Heap → Prop} : VO (aenter (NC.withPrims PPF51) rec lo 115 args H) K = AO (p115 args) fun v => K v H := enter_prim (by rfl) (by kernel_rfl)
theorem enF51_111 {rec : Rec} {lo : Nat} {args : List AV} {H : Heap} {K : AV → Heap → Prop} : VO (aenter (NC.withPrims PPF51) rec lo 111 args H) K = AO (p111 args) fun v => K v H := enter_prim (by rfl) (by kernel_rfl)
theorem enF51_134 {rec : Rec} {lo : Nat} {args : List AV} {H : Heap} {K : AV → Heap → Prop} : VO (aenter (NC.withPrims PPF51) rec lo 134 args H) K = AO (p134 args) fun v => K v H := enter_prim (by rfl) (by kernel_rfl)
attribute [go_sem ↓] enF51_29 enF51_98 enF51_121 enF51_115 enF51_111 enF51_134
theorem c51 (n : Net) (s : List Nat) (P : Int) (hp : n.Ok) : ∀ lo H, CallOk NC lo 51 [.agg n.cells, .str s, i64 P] H (.tup (postsP n s P)) H := by
  refine contract saneNC primsF51 (fn := Tryz.f51) (by kernel_rfl) Tryz.func51 rfl rfl (by rfl) (postsP_pure n s P) ?_
  have e29 : p29 [.agg n.cells] = some (.int .i64 (netP n)) := pe29 n hp
  have e98 : p98 [.agg n.cells, .str s] = some (.tup [.agg (lnOf n.lines s).row, .bool (lnB n.lines s)]) := pe98 (n, s) hp.lines
  have hfit : (lnOf n.lines s).ps.length ≤ maxRows := lnOf_fits fun l hl => (hp.line l hl).2
  simp only [Net.cells] at e29 e98
  unfold postsP
  generalize hE : postsE n s P = E2
  unfold postsE at hE
  generalize netP n = E at e29 ⊢
  rcases Classical.propComplete (E = 0) with z | z
  case inr =>
    simp only [go_sem, reduceIte, Nat.reduceEqDiff, Nat.reduceAdd, Nat.reduceMul, Nat.reduceSub, Nat.reduceLeDiff, Nat.reduceLT, Nat.reduceBEq, reduceCtorEq, Net.cells, e29, z]
  generalize lnOf n.lines s = l at e98 hfit ⊢
  generalize lnB n.lines s = B at e98 hE
  simp only [Ln.row] at e98
  rcases Classical.propComplete (E2 = 0) with z2 | z2
  case inr =>
    simp only [go_sem, reduceIte, Nat.reduceEqDiff, Nat.reduceAdd, Nat.reduceMul, Nat.reduceSub, Nat.reduceLeDiff, Nat.reduceLT, Nat.reduceBEq, reduceCtorEq, Net.cells, e29, e98, e121, e115, e111_2, hE, z, z2]
  simp only [go_sem, reduceIte, Nat.reduceEqDiff, Nat.reduceAdd, Nat.reduceMul, Nat.reduceSub, Nat.reduceLeDiff, Nat.reduceLT, Nat.reduceBEq, reduceCtorEq, Net.cells, List.length_map, e29, e98, e121, e115, e111_2, hE, z, z2]
  refine W_for (fun k T H M => M = [] ∧ getT T 1 = .str s ∧ getT T 2 = i64 P ∧ getT T 39 = .ps .unk (l.ps.map Pc.row) ∧ getT T 40 = i64 (l.ps.length : Nat) ∧ getT T 41 = i64 k ∧ ∃ t, getT T 12 = .ps t ((postsK l s P k).map adRow) ∧ App H t ((postsK l s P k).map adRow) 3 42) l.ps.length ?_ ?_ ?_
  · simp only [go_sem, reduceIte, Nat.reduceEqDiff, Nat.reduceAdd, Nat.reduceMul, Nat.reduceSub, Nat.reduceLeDiff, Nat.reduceLT, Nat.reduceBEq, reduceCtorEq, List.length_map]; exact ⟨.nil, rfl, .inl ⟨rfl, rfl⟩⟩
  · rintro k T H M hk ⟨rfl, g1, g2, g39, g40, g41, t, g12, hA⟩
    obtain ⟨p, hx⟩ : ∃ p, l.ps[k]? = some p := ⟨l.ps[k], by simp⟩
    have hr := map_at (f := Pc.row) hx
    have hw := wrap_succ hk hfit
    have e134 : p134 [.agg p.row, .int .i64 P] = some (.tup [.int .i64 (metreI p P), .bool (metreB p P)]) := pe134 (p, P) trivial
    have hat : postAt l s P k = if metreB p P then [(s, ((k : Nat) : Int), P)] else [] := by unfold postAt; simp only [hx]
    have hsuc : postsK l s P (k + 1) = postsK l s P k ++ postAt l s P k := rfl
    rw [hat] at hsuc
    have hlen := postsK_len l s P k
    cases hb : metreB p P with
    | true =>
      rw [hb] at e134 hsuc
      simp only [if_true] at hsuc
      obtain ⟨t', H1, ha, hB, hn1, hc1, _⟩ := app_any (H := (H.push (.cells [.int .i64 0, .int .i64 0, .bool false] 200)).set H.n (.cells p.row 200)) (hA.fresh _ _ rfl) (r := adRow (s, ((k : Nat) : Int), P)) (by simp; omega) rfl (by decide) (rows_all adRow_len _)
      obtain ⟨a, b, c⟩ := p
      simp only [Pc.row, adRow] at hr ha e134
      simp only [go_sem, reduceIte, Nat.reduceEqDiff, Nat.reduceAdd, Nat.reduceMul, Nat.reduceSub, Nat.reduceLeDiff, Nat.reduceLT, Nat.reduceBEq, reduceCtorEq, g1, g2, g39, g40, g41, g12, List.length_map, hk, hr, hw, e134, appO, ha]
      rw [hsuc, List.map_append]
      exact ⟨t', rfl, hB⟩
    | false =>
      rw [hb] at e134 hsuc
      simp only [Bool.false_eq_true, if_false, List.append_nil] at hsuc
      obtain ⟨a, b, c⟩ := p
      simp only [Pc.row] at hr e134
      simp only [go_sem, reduceIte, Nat.reduceEqDiff, Nat.reduceAdd, Nat.reduceMul, Nat.reduceSub, Nat.reduceLeDiff, Nat.reduceLT, Nat.reduceBEq, reduceCtorEq, g1, g2, g39, g40, g41, g12, List.length_map, hk, hr, hw, e134]
      rw [hsuc]
      exact ⟨t, rfl, hA.fresh _ _ rfl⟩
  · rintro T H M ⟨rfl, g1, g2, g39, g40, g41, t, g12, hA⟩
    simp only [go_sem, reduceIte, Nat.reduceEqDiff, Nat.reduceAdd, Nat.reduceMul, Nat.reduceSub, Nat.reduceLeDiff, Nat.reduceLT, Nat.reduceBEq, reduceCtorEq, g1, g2, g39, g40, g41, g12, Nat.lt_irrefl]
    simp [z, z2]
noncomputable def p51 : List AV → Option AV := primOf (α := (Net) × (List Nat) × (Int)) (fun x => [.agg x.1.cells, .str x.2.1, i64 x.2.2]) (fun x => x.1.Ok) (fun x => .tup (postsP x.1 x.2.1 x.2.2))
theorem pok51 : ∀ args v, p51 args = some v → ∀ lo H, CallOk NC lo 51 args H v H := by
  intro args v h
  obtain ⟨x, rfl, hp, rfl⟩ := primOf_inv h
  exact c51 x.1 x.2.1 x.2.2 hp
theorem pe51 (n : Net) (s : List Nat) (P : Int) (hp : n.Ok) : p51 [.agg n.cells, .str s, .int .i64 P] = some (.tup (postsP n s P)) := primOf_enc (α := (Net) × (List Nat) × (Int)) (enc := fun x => [.agg x.1.cells, .str x.2.1, i64 x.2.2]) (pre := fun x => x.1.Ok) (spec := fun x => .tup (postsP x.1 x.2.1 x.2.2)) (by intro x y h; (simp only [List.cons.injEq, AV.agg.injEq, AV.str.injEq, AV.int.injEq, AV.ps.injEq, AV.bool.injEq, Net.cells_iff, Ln.row_iff, Pc.row_iff, Mv.row_iff, lns_iff, pcs_iff, mvs_iff, true_and, and_true] at h; first | simpa only [Prod.ext_iff] using h | simpa only [Prod.ext_iff, and_assoc] using h)) (n, s, P) hp
end Go.Sim

/-
Histories: data; the program's CheckHistory, On; moves that carry back.
-/
-- INJ Sv.row_iff svs_iff
namespace Go.Sim
open Go Go.Proofs
set_option maxRecDepth 100000
set_option maxHeartbeats 8000000
structure Sv where
  day : Int
  net : Net
  map : List Mv
def Sv.row (s : Sv) : List AV := i64 s.day :: (s.net.cells ++ [.ps .unk (s.map.map Mv.row)])
theorem Sv.row_inj (a b : Sv) (h : a.row = b.row) : a = b := by
  obtain ⟨d, n, m⟩ := a
  obtain ⟨d', n', m'⟩ := b
  unfold Sv.row Net.cells at h
  simp only [List.cons_append, List.nil_append, List.cons.injEq, AV.int.injEq, AV.ps.injEq, true_and, and_true] at h
  obtain ⟨rfl, h1, h2, h3, h4⟩ := h
  have hn : n = n' := Net.cells_inj n n' (by unfold Net.cells; rw [h1, h2, h3])
  rw [hn, map_inj Mv.row_inj h4]
theorem Sv.row_iff (a b : Sv) : a.row = b.row ↔ a = b := ⟨Sv.row_inj a b, fun h => by rw [h]⟩
theorem Sv.row_len (s : Sv) : s.row.length = 5 := rfl
end Go.Sim

/-
Histories: the program's Since.
-/
-- INJ Sv.row_iff svs_iff
namespace Go.Sim
open Go Go.Proofs
set_option maxRecDepth 100000
set_option maxHeartbeats 8000000
section
variable {C : Cfg} {lo : Nat} {fid : FuncId} {rnd : Bool} (T : TT AV) (H : Heap) (M : List Nat) (Q : AExit → TT AV → Heap → List Nat → Prop)
def unscope (Q : AExit → TT AV → Heap → List Nat → Prop) (e : AExit) (T : TT AV) (H : Heap) (M : List Nat) (_t : Tag Q := ⟨⟩) : Prop := match e with
  | .gto _ => False
  | e => Q e T H M
theorem unscope_nrm : unscope Q .nrm T H M = Q .nrm T H M := rfl
theorem unscope_ret : unscope Q .ret T H M = Q .ret T H M := rfl
theorem unscope_ext (i : Nat) : unscope Q (.ext i) T H M = Q (.ext i) T H M := rfl
theorem W_scope (b : Code) : W C lo fid rnd (.scope b) T H M Q = W C lo fid rnd b T H M (fun e T H M => unscope Q e T H M) := by
  unfold W
  rw [R_scope]
  cases h : R C (.code lo fid rnd b ⟨T, H, M⟩) with
  | none => rfl
  | some o => obtain ⟨e, ⟨T', H', M'⟩⟩ := o; cases e <;> rfl
end
attribute [go_sem ↓] W_scope W_label unscope_nrm unscope_ret unscope_ext
end Go.Sim

/-
The plain law of histories: valid ones; places stay within the networks.
-/
namespace Go.Sim
open Go
theorem sum_bound {l : Ln} (hg : l.Good) : 0 ≤ sumW l.ps 0 ∧ sumW l.ps 0 ≤ 800000 := by
  have := beg_bound hg l.ps.length (Nat.le_refl _)
  rw [begI_all] at this
  have := hg.few
  omega
end Go.Sim
