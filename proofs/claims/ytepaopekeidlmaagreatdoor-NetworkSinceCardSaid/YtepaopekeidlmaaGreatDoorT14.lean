/-
The parts NetP3, NetP4, NetP5, NetP6, NetP7, NetR1, NetQ1, NetQ2, NetM1, NetR2, NetR3, NetM2, NetApp, NetM3, NetM4 of one proof, joined: each begins with a remark that says what it shows.
-/
import Derived.Test.YtepaopekeidlmaaGreatDoorT13
set_option linter.unusedSimpArgs false
set_option linter.unusedVariables false

/-
The program: CheckNetwork.
-/
namespace Go.Sim
open Go Go.Proofs
set_option maxRecDepth 100000
set_option maxHeartbeats 4000000
noncomputable def p177 : List AV → Option AV := primOf (α := Ln × Int) (fun x => [.agg x.1.row, i64 x.2]) (fun x => x.1.ps.length ≤ maxRows) (fun x => .bool (hasB x.1 x.2))
theorem pok177 : ∀ args v, p177 args = some v → ∀ lo H, CallOk NC lo 177 args H v H := by
  intro args v h
  obtain ⟨x, rfl, hp, rfl⟩ := primOf_inv h
  clear h
  revert x
  intro x hx; exact c177 x.1 x.2 hx
theorem pe177 (x : Ln × Int) (hp : (fun x => x.1.ps.length ≤ maxRows) x) : p177 ((fun x => [.agg x.1.row, i64 x.2]) x) = some ((fun x => .bool (hasB x.1 x.2)) x) := primOf_enc (by intro x y h; (obtain ⟨a, b⟩ := x; obtain ⟨c, d⟩ := y; simp only [List.cons.injEq, AV.agg.injEq, AV.int.injEq, true_and, and_true] at h; obtain ⟨h1, rfl⟩ := h; rw [Ln.row_inj _ _ h1])) x hp
noncomputable def p180 : List AV → Option AV := primOf (α := Pc) (fun x => [.agg x.row]) (fun _ => True) (fun x => i64 (pieceP x))
theorem pok180 : ∀ args v, p180 args = some v → ∀ lo H, CallOk NC lo 180 args H v H := by
  intro args v h
  obtain ⟨x, rfl, hp, rfl⟩ := primOf_inv h
  clear h
  revert x
  intro x; exact c180 x
theorem pe180 (x : Pc) (hp : (fun _ => True) x) : p180 ((fun x => [.agg x.row]) x) = some ((fun x => i64 (pieceP x)) x) := primOf_enc (by intro x y h; exact pc1_inj x y h) x hp
theorem e180 (l q : Int) (b : Bool) : p180 [.agg [.int .i64 l, .int .i64 q, .bool b]] = some (.int .i64 (pieceP ⟨l, q, b⟩)) := pe180 ⟨l, q, b⟩ trivial
noncomputable def p98 : List AV → Option AV := primOf (α := Net × List Nat) (fun x => [.agg x.1.cells, .str x.2]) (fun x => x.1.lines.length ≤ maxRows) (fun x => .tup [.agg (lnOf x.1.lines x.2).row, .bool (lnB x.1.lines x.2)])
theorem pok98 : ∀ args v, p98 args = some v → ∀ lo H, CallOk NC lo 98 args H v H := by
  intro args v h
  obtain ⟨x, rfl, hp, rfl⟩ := primOf_inv h
  clear h
  revert x
  intro x hx; exact c98 x.1 x.2 hx
theorem pe98 (x : Net × List Nat) (hp : (fun x => x.1.lines.length ≤ maxRows) x) : p98 ((fun x => [.agg x.1.cells, .str x.2]) x) = some ((fun x => .tup [.agg (lnOf x.1.lines x.2).row, .bool (lnB x.1.lines x.2)]) x) := primOf_enc (by intro x y h; (obtain ⟨a, b⟩ := x; obtain ⟨c, d⟩ := y; simp only [List.cons.injEq, AV.agg.injEq, AV.str.injEq, true_and, and_true] at h; obtain ⟨h1, rfl⟩ := h; rw [Net.cells_inj _ _ h1])) x hp
noncomputable def PPG : FuncId → Option (List AV → Option AV) := addPrim 98 p98 (addPrim 180 p180 (addPrim 177 p177 (PPF)))
theorem primsG : PrimsOk NC PPG := primsOk_add (primsOk_add (primsOk_add (primsF) (by kernel_rfl) (by kernel_rfl) pok177) (by kernel_rfl) (by kernel_rfl) pok180) (by kernel_rfl) (by kernel_rfl) pok98
theorem enG_48 : En PPG 48 p48 := enter_prim (by rfl) (by kernel_rfl)
theorem enG_121 : En PPG 121 p121 := enter_prim (by rfl) (by kernel_rfl)
theorem enG_34 : En PPG 34 p34 := enter_prim (by rfl) (by kernel_rfl)
theorem enG_111 : En PPG 111 p111 := enter_prim (by rfl) (by kernel_rfl)
theorem enG_26 : En PPG 26 p26 := enter_prim (by rfl) (by kernel_rfl)
theorem enG_178 : En PPG 178 p178 := enter_prim (by rfl) (by kernel_rfl)
theorem enG_109 : En PPG 109 p109 := enter_prim (by rfl) (by kernel_rfl)
theorem enG_108 : En PPG 108 p108 := enter_prim (by rfl) (by kernel_rfl)
theorem enG_27 : En PPG 27 p27 := enter_prim (by rfl) (by kernel_rfl)
theorem enG_97 : En PPG 97 p97 := enter_prim (by rfl) (by kernel_rfl)
theorem enG_122 : En PPG 122 p122 := enter_prim (by rfl) (by kernel_rfl)
theorem enG_182 : En PPG 182 p182 := enter_prim (by rfl) (by kernel_rfl)
theorem enG_35 : En PPG 35 p35 := enter_prim (by rfl) (by kernel_rfl)
theorem enG_115 : En PPG 115 p115 := enter_prim (by rfl) (by kernel_rfl)
theorem enG_36 : En PPG 36 p36 := enter_prim (by rfl) (by kernel_rfl)
theorem enG_120 : En PPG 120 p120 := enter_prim (by rfl) (by kernel_rfl)
theorem enG_106 : En PPG 106 p106 := enter_prim (by rfl) (by kernel_rfl)
theorem enG_179 : En PPG 179 p179 := enter_prim (by rfl) (by kernel_rfl)
theorem enG_126 : En PPG 126 p126 := enter_prim (by rfl) (by kernel_rfl)
theorem enG_103 : En PPG 103 p103 := enter_prim (by rfl) (by kernel_rfl)
theorem enG_104 : En PPG 104 p104 := enter_prim (by rfl) (by kernel_rfl)
theorem enG_105 : En PPG 105 p105 := enter_prim (by rfl) (by kernel_rfl)
theorem enG_99 : En PPG 99 p99 := enter_prim (by rfl) (by kernel_rfl)
theorem enG_226 : En PPG 226 p226 := enter_prim (by rfl) (by kernel_rfl)
theorem enG_134 : En PPG 134 p134 := enter_prim (by rfl) (by kernel_rfl)
theorem enG_177 : En PPG 177 p177 := enter_prim (by rfl) (by kernel_rfl)
theorem enG_180 : En PPG 180 p180 := enter_prim (by rfl) (by kernel_rfl)
theorem enG_98 : En PPG 98 p98 := enter_prim (by rfl) (by kernel_rfl)
attribute [go_sem ↓] enG_48 enG_121 enG_34 enG_111 enG_26 enG_178 enG_109 enG_108 enG_27 enG_97 enG_122 enG_182
attribute [go_sem ↓] enG_35 enG_115 enG_36 enG_120 enG_106 enG_179 enG_126 enG_103 enG_104 enG_105 enG_99 enG_226
attribute [go_sem ↓] enG_134 enG_177 enG_180 enG_98
def spanB (l : Ln) (fr till : Int) : Bool := !decide (fr < till) || !hasB l fr || decide (sumW l.ps 0 < till)
theorem c183 (l : Ln) (fr till : Int) (hl : l.ps.length ≤ maxRows) : ∀ lo H, CallOk NC lo 183 [.agg l.row, .agg [i64 fr, i64 till]] H (i64 (whenI (spanB l fr till) 14)) H := by
  refine contract saneNC primsG (fn := Tryz.f183) (by kernel_rfl) Tryz.func183 rfl rfl (by rfl) (by rfl) ?_
  have e99 := pe99 l hl
  have e177 := pe177 (l, fr) hl
  simp only [Ln.row, i64] at e99 e177
  cases h1 : hasB l fr <;> rcases Classical.propComplete (fr < till) with h2 | h2 <;> rcases Classical.propComplete (sumW l.ps 0 < till) with h3 | h3 <;> simp only [h1] at e177 <;> simp only [go_sem, reduceIte, Nat.reduceEqDiff, Nat.reduceAdd, Nat.reduceMul, Nat.reduceSub, Nat.reduceLeDiff, Nat.reduceLT, Nat.reduceBEq, reduceCtorEq, Ln.row, e99, e177, e121, h1, h2, h3] <;> simp [spanB, h1, h2, h3]
/-! ### The errors of a list of pieces -/
theorem intRows_all (es : List Int) : (intRows es).all (fun r => decide (r.length = 1)) = true := by
  rw [List.all_eq_true]
  intro r hr
  obtain ⟨e, _, rfl⟩ := List.mem_map.1 hr
  rfl
theorem c181 (ps : List Pc) (hl : ps.length ≤ maxRows) : ∀ lo H, CallOk NC lo 181 [.ps .unk (ps.map Pc.row), .fn 180 [] []] H (.ps .unk (intRows (ps.map pieceP))) H := by
  refine contract saneNC primsG (fn := Tryz.f181) (by kernel_rfl) Tryz.func181 rfl rfl (by rfl) (by rfl) ?_
  simp only [go_sem, reduceIte, Nat.reduceEqDiff, Nat.reduceAdd, Nat.reduceMul, Nat.reduceSub, Nat.reduceLeDiff, Nat.reduceLT, Nat.reduceBEq, reduceCtorEq]
  refine W_for (fun k T H M => M = [] ∧ getT T 8 = .ps .unk (ps.map Pc.row) ∧ getT T 1 = .fn 180 [] [] ∧ getT T 9 = i64 (ps.length : Nat) ∧ getT T 10 = i64 k ∧ ((k = 0 ∧ getT T 5 = .ps .nil []) ∨ ∃ j, getT T 5 = .ps (.tok j) (intRows ((ps.take k).map pieceP)) ∧ 0 < k ∧ j < H.n ∧ H.get j = .row [] 1 33)) ps.length ?_ ?_ ?_
  · simp only [go_sem, reduceIte, Nat.reduceEqDiff, Nat.reduceAdd, Nat.reduceMul, Nat.reduceSub, Nat.reduceLeDiff, Nat.reduceLT, Nat.reduceBEq, reduceCtorEq, List.length_map]
  · rintro k T H M hk ⟨rfl, g8, g1, g9, g10, hap⟩
    obtain ⟨p, hp⟩ : ∃ p, ps[k]? = some p := ⟨ps[k], by simp⟩
    have hpr := map_at (f := Pc.row) hp
    have hw := wrap_succ hk hl
    have htk : ps.take (k + 1) = ps.take k ++ [p] := by rw [List.take_add_one, hp]; rfl
    obtain ⟨pl, pq, pb⟩ := p
    simp only [Pc.row] at hpr
    rcases hap with ⟨hk0, g5⟩ | ⟨j, g5, hk0, hjn, hj⟩
    · have ha := fun H => app_first (lo := 0) (H := H) (sz := 1) (e := 33) (rx := [[.int .i64 (pieceP ⟨pl, pq, pb⟩)]]) (by simp) (by show 1 ≤ 1073741824; decide) rfl (by decide)
      simp only [go_sem, reduceIte, Nat.reduceEqDiff, Nat.reduceAdd, Nat.reduceMul, Nat.reduceSub, Nat.reduceLeDiff, Nat.reduceLT, Nat.reduceBEq, reduceCtorEq, g8, g1, g9, g10, g5, List.length_map, hk, hpr, hw, op_callV (f := 180) (first := []) (caps := []), e180, appO, isIntT_slice, rowsIn, ha]
      refine .inr ⟨H.n + 1, ?_, by omega, by omega, by simp⟩
      rw [htk, hk0]; rfl
    · have hj1 : ((H.push (.cells [.int .i64 0, .int .i64 0, .bool false] 200)).set H.n (.cells [.int .i64 pl, .int .i64 pq, .bool pb] 200)).get j = .row [] 1 33 := by
        rw [Heap.get_set, if_neg (by omega), Heap.get_push, if_neg (by omega)]; exact hj
      have ha := app_next (lo := 0) (rows := intRows ((ps.take k).map pieceP)) (rx := [[.int .i64 (pieceP ⟨pl, pq, pb⟩)]]) (e := 33) (sz := 1) (by simp) (by simp [intRows]; omega) rfl (by decide) (intRows_all _) hj1 (Nat.zero_le _) (by simp [intRows]; refine ⟨by omega, ?_⟩; intro e; rw [e] at hk; simp at hk)
      simp only [go_sem, reduceIte, Nat.reduceEqDiff, Nat.reduceAdd, Nat.reduceMul, Nat.reduceSub, Nat.reduceLeDiff, Nat.reduceLT, Nat.reduceBEq, reduceCtorEq, g8, g1, g9, g10, g5, List.length_map, hk, hpr, hw, op_callV (f := 180) (first := []) (caps := []), e180, appO, isIntT_slice, rowsIn, ha]
      refine .inr ⟨H.n + 1, ?_, by omega, by omega, by simp⟩
      rw [htk]
      simp [intRows]
  · rintro T H M ⟨rfl, g8, g1, g9, g10, hap⟩
    rcases hap with ⟨h0, g5⟩ | ⟨j, g5, hk0, hjn, hj⟩
    · simp only [go_sem, reduceIte, Nat.reduceEqDiff, Nat.reduceAdd, Nat.reduceMul, Nat.reduceSub, Nat.reduceLeDiff, Nat.reduceLT, Nat.reduceBEq, reduceCtorEq, g8, g1, g9, g10, g5, Nat.lt_irrefl]
      rw [List.length_eq_zero_iff.1 h0]; rfl
    · simp only [go_sem, reduceIte, Nat.reduceEqDiff, Nat.reduceAdd, Nat.reduceMul, Nat.reduceSub, Nat.reduceLeDiff, Nat.reduceLT, Nat.reduceBEq, reduceCtorEq, g8, g1, g9, g10, g5, Nat.lt_irrefl, List.take_length]
noncomputable def p181 : List AV → Option AV := primOf (α := List Pc) (fun x => [.ps .unk (x.map Pc.row), .fn 180 [] []]) (fun x => x.length ≤ maxRows) (fun x => .ps .unk (intRows (x.map pieceP)))
theorem pok181 : ∀ args v, p181 args = some v → ∀ lo H, CallOk NC lo 181 args H v H := by
  intro args v h
  obtain ⟨x, rfl, hp, rfl⟩ := primOf_inv h
  clear h
  revert x
  intro x hx; exact c181 x hx
theorem pe181 (x : List Pc) (hp : (fun x => x.length ≤ maxRows) x) : p181 ((fun x => [.ps .unk (x.map Pc.row), .fn 180 [] []]) x) = some ((fun x => .ps .unk (intRows (x.map pieceP))) x) := primOf_enc (by intro x y h; (simp only [List.cons.injEq, AV.ps.injEq, and_true, true_and] at h; exact map_inj Pc.row_inj h)) x hp
noncomputable def p183 : List AV → Option AV := primOf (α := Ln × Int × Int) (fun x => [.agg x.1.row, .agg [i64 x.2.1, i64 x.2.2]]) (fun x => x.1.ps.length ≤ maxRows) (fun x => i64 (whenI (spanB x.1 x.2.1 x.2.2) 14))
theorem pok183 : ∀ args v, p183 args = some v → ∀ lo H, CallOk NC lo 183 args H v H := by
  intro args v h
  obtain ⟨x, rfl, hp, rfl⟩ := primOf_inv h
  clear h
  revert x
  intro x hx; exact c183 x.1 x.2.1 x.2.2 hx
theorem pe183 (x : Ln × Int × Int) (hp : (fun x => x.1.ps.length ≤ maxRows) x) : p183 ((fun x => [.agg x.1.row, .agg [i64 x.2.1, i64 x.2.2]]) x) = some ((fun x => i64 (whenI (spanB x.1 x.2.1 x.2.2) 14)) x) := primOf_enc (by intro x y h; (obtain ⟨a, b, c⟩ := x; obtain ⟨d, e, f⟩ := y; simp only [List.cons.injEq, AV.agg.injEq, AV.int.injEq, true_and, and_true] at h; obtain ⟨h1, rfl, rfl⟩ := h; rw [Ln.row_inj _ _ h1])) x hp
noncomputable def PPH : FuncId → Option (List AV → Option AV) := addPrim 183 p183 (addPrim 181 p181 (PPG))
theorem primsH : PrimsOk NC PPH := primsOk_add (primsOk_add (primsG) (by kernel_rfl) (by kernel_rfl) pok181) (by kernel_rfl) (by kernel_rfl) pok183
theorem enH_48 : En PPH 48 p48 := enter_prim (by rfl) (by kernel_rfl)
theorem enH_121 : En PPH 121 p121 := enter_prim (by rfl) (by kernel_rfl)
theorem enH_34 : En PPH 34 p34 := enter_prim (by rfl) (by kernel_rfl)
theorem enH_111 : En PPH 111 p111 := enter_prim (by rfl) (by kernel_rfl)
theorem enH_26 : En PPH 26 p26 := enter_prim (by rfl) (by kernel_rfl)
theorem enH_178 : En PPH 178 p178 := enter_prim (by rfl) (by kernel_rfl)
theorem enH_109 : En PPH 109 p109 := enter_prim (by rfl) (by kernel_rfl)
theorem enH_108 : En PPH 108 p108 := enter_prim (by rfl) (by kernel_rfl)
theorem enH_27 : En PPH 27 p27 := enter_prim (by rfl) (by kernel_rfl)
theorem enH_97 : En PPH 97 p97 := enter_prim (by rfl) (by kernel_rfl)
theorem enH_122 : En PPH 122 p122 := enter_prim (by rfl) (by kernel_rfl)
theorem enH_182 : En PPH 182 p182 := enter_prim (by rfl) (by kernel_rfl)
theorem enH_35 : En PPH 35 p35 := enter_prim (by rfl) (by kernel_rfl)
theorem enH_115 : En PPH 115 p115 := enter_prim (by rfl) (by kernel_rfl)
theorem enH_36 : En PPH 36 p36 := enter_prim (by rfl) (by kernel_rfl)
theorem enH_120 : En PPH 120 p120 := enter_prim (by rfl) (by kernel_rfl)
theorem enH_106 : En PPH 106 p106 := enter_prim (by rfl) (by kernel_rfl)
theorem enH_179 : En PPH 179 p179 := enter_prim (by rfl) (by kernel_rfl)
theorem enH_126 : En PPH 126 p126 := enter_prim (by rfl) (by kernel_rfl)
theorem enH_103 : En PPH 103 p103 := enter_prim (by rfl) (by kernel_rfl)
theorem enH_104 : En PPH 104 p104 := enter_prim (by rfl) (by kernel_rfl)
theorem enH_105 : En PPH 105 p105 := enter_prim (by rfl) (by kernel_rfl)
theorem enH_99 : En PPH 99 p99 := enter_prim (by rfl) (by kernel_rfl)
theorem enH_226 : En PPH 226 p226 := enter_prim (by rfl) (by kernel_rfl)
theorem enH_134 : En PPH 134 p134 := enter_prim (by rfl) (by kernel_rfl)
theorem enH_177 : En PPH 177 p177 := enter_prim (by rfl) (by kernel_rfl)
theorem enH_180 : En PPH 180 p180 := enter_prim (by rfl) (by kernel_rfl)
theorem enH_98 : En PPH 98 p98 := enter_prim (by rfl) (by kernel_rfl)
theorem enH_181 : En PPH 181 p181 := enter_prim (by rfl) (by kernel_rfl)
theorem enH_183 : En PPH 183 p183 := enter_prim (by rfl) (by kernel_rfl)
attribute [go_sem ↓] enH_48 enH_121 enH_34 enH_111 enH_26 enH_178 enH_109 enH_108 enH_27 enH_97 enH_122 enH_182
attribute [go_sem ↓] enH_35 enH_115 enH_36 enH_120 enH_106 enH_179 enH_126 enH_103 enH_104 enH_105 enH_99 enH_226
attribute [go_sem ↓] enH_134 enH_177 enH_180 enH_98 enH_181 enH_183
def nameMap (l : List (List Nat)) : List (AV × AV) := l.map fun s => (.str s, .bool true)
theorem aeq9 (a b : List Nat) : aeqT NC.P 100 9 (.str a) (.str b) = some (beqL a b) := by
  have h : NC.P.underlying 9 = some .string := un_9
  unfold aeqT
  simp only [h]
theorem keyOk9 (s : List Nat) : keyOk NC.P 9 (.str s) = true := by
  unfold keyOk
  rw [aeq9]
  have : beqL s s = true := by
    induction s with
    | nil => rfl
    | cons a r ih => simp [beqL, ih]
  rw [this]
  have h : eqType NC.P 100 9 = true := by kernel_rfl
  rw [h]; rfl
theorem afind9 (s : List Nat) : ∀ (l : List (List Nat)) (i : Nat), (l.any (beqL s) = true → ∃ j k, afind NC.P 9 (.str s) (nameMap l) i = some (some (j, k, .bool true))) ∧ (l.any (beqL s) = false → afind NC.P 9 (.str s) (nameMap l) i = some none)
  | [], i => ⟨fun h => by simp at h, fun _ => rfl⟩
  | a :: r, i => by
    have ih := afind9 s r (i + 1)
    have hu : afind NC.P 9 (.str s) (nameMap (a :: r)) i = match aeqT NC.P 100 9 (.str s) (.str a) with
        | some true => some (some (i, .str a, .bool true))
        | some false => afind NC.P 9 (.str s) (nameMap r) (i + 1)
        | none => none := rfl
    rw [hu, aeq9]
    cases hb : beqL s a with
    | true => exact ⟨fun _ => ⟨_, _, rfl⟩, fun h => by simp [hb] at h⟩
    | false => simp only [List.any_cons, hb, Bool.false_or]; exact ih
theorem look9 {H : Heap} {m : Nat} {l : List (List Nat)} (h : H.get m = .map (nameMap l)) (s : List Nat) : alookup NC.P H 310 (.map m) (.str s) false = some (.bool (l.any (beqL s))) := by
  unfold alookup
  have hu : NC.P.underlying 310 = some (.map 9 4) := un_310
  have hz : zeroOf NC.P 4 = some (.bool false) := ze_4
  simp only [hu, keyOk9, if_true, hz, mapEntries, h]
  obtain ⟨h1, h2⟩ := afind9 s l 0
  cases hb : l.any (beqL s) with
  | true =>
    obtain ⟨j, k, e⟩ := h1 hb
    rw [e]; rfl
  | false => rw [h2 hb]; rfl
theorem upd9 {lo : Nat} {H : Heap} {m : Nat} {l : List (List Nat)} (h : H.get m = .map (nameMap l)) (hlo : lo ≤ m) (s : List Nat) (hs : l.any (beqL s) = false) : amapUpdate NC.P lo H 310 (.map m) (.str s) (.bool true) = some (H.set m (.map (nameMap (l ++ [s])))) := by
  unfold amapUpdate
  have hu : NC.P.underlying 310 = some (.map 9 4) := un_310
  obtain ⟨_, h2⟩ := afind9 s l 0
  simp only [hu, keyOk9, hlo, decide_true, Bool.and_self, if_true, h, h2 hs]
  simp [nameMap, AV.strip]
end Go.Sim

/-
The program: CheckNetwork, its parts.
-/
namespace Go.Sim
open Go Go.Proofs
set_option maxRecDepth 100000
set_option maxHeartbeats 8000000
theorem first4 (a b c d : Int) : firstI [a, b, c, d] = 0 → a = 0 ∧ b = 0 ∧ c = 0 ∧ d = 0 := by
  simp only [firstI]; split <;> (try split) <;> (try split) <;> (try split) <;> simp_all
def dupP (l : List (List Nat)) (s : List Nat) : Bool := l.any (beqL s)
def lineP (ls : List Ln) (i : Nat) : Int := match ls[i]? with
  | none => 0
  | some l =>
    let e := firstI [whenI (!nameB l.name) 8, whenI (dupP ((ls.take i).map Ln.name) l.name) 9, whenI (decide ((l.ps.length : Int) = 0)) 12, whenI (decide ((8 : Int) < l.ps.length)) 5]
    if e = 0 then firstI (l.ps.map pieceP) else e
def linesP (ls : List Ln) : Int := if (8 : Int) < ls.length then 5 else allR (lineP ls) ls.length
theorem c110 (ls : List Ln) (hl : ls.length ≤ maxRows) (hn : ∀ l ∈ ls, l.name.length ≤ maxRows ∧ l.ps.length ≤ maxRows) : ∀ lo H, CallOk NC lo 110 [.ps .unk (ls.map Ln.row)] H (i64 (linesP ls)) H := by
  refine contract saneNC primsH (fn := Tryz.f110) (by kernel_rfl) Tryz.func110 rfl rfl (by rfl) (by rfl) ?_
  rcases Classical.propComplete ((8 : Int) < ls.length) with q1 | q1
  · simp only [go_sem, reduceIte, Nat.reduceEqDiff, Nat.reduceAdd, Nat.reduceMul, Nat.reduceSub, Nat.reduceLeDiff, Nat.reduceLT, Nat.reduceBEq, reduceCtorEq, List.length_map, q1]
    simp [linesP, q1]
  simp only [go_sem, reduceIte, Nat.reduceEqDiff, Nat.reduceAdd, Nat.reduceMul, Nat.reduceSub, Nat.reduceLeDiff, Nat.reduceLT, Nat.reduceBEq, reduceCtorEq, List.length_map, q1]
  refine W_for (fun k T H M => M = [] ∧ getT T 13 = .ps .unk (ls.map Ln.row) ∧ getT T 14 = i64 (ls.length : Nat) ∧ getT T 15 = i64 k ∧ getT T 3 = .map 0 ∧ getT T 4 = .fn 180 [] [] ∧ H.get 0 = .map (nameMap ((ls.take k).map Ln.name)) ∧ 0 < H.n ∧ allR (lineP ls) ls.length = firstI (((List.range ls.length).map (lineP ls)).drop k)) ls.length ?_ ?_ ?_
  · simp only [go_sem, reduceIte, Nat.reduceEqDiff, Nat.reduceAdd, Nat.reduceMul, Nat.reduceSub, Nat.reduceLeDiff, Nat.reduceLT, Nat.reduceBEq, reduceCtorEq, List.length_map]; exact ⟨rfl, rfl⟩
  · rintro k T H M hk ⟨rfl, g13, g14, g15, g3, g4, gH, hn0, hf⟩
    obtain ⟨l, hp⟩ : ∃ p, ls[k]? = some p := ⟨ls[k], by simp⟩
    have hmem := List.mem_of_getElem? hp
    have hr := map_at (f := Ln.row) hp
    have hw := wrap_succ hk hl
    have hfd := allR_step (f := lineP ls) hk
    have htk : (ls.take (k + 1)).map Ln.name = (ls.take k).map Ln.name ++ [l.name] := by rw [List.take_add_one, hp]; simp
    simp only [Ln.row] at hr
    have e120' := e120 l.name (hn l hmem).1
    have e181' := pe181 l.ps (hn l hmem).2
    have e111' := pe111 (l.ps.map pieceP) (by simpa using (hn l hmem).2)
    have h0n : (0 = H.n) = False := by simp; omega
    have h0l : (0 < H.n + 1) = True := by simp
    have hHx : ((H.push (.cells [.str [], .ps .nil []] 196)).set H.n (.cells [.str l.name, .ps .unk (l.ps.map Pc.row)] 196)).get 0 = .map (nameMap ((ls.take k).map Ln.name)) := by
      rw [Heap.get_set, if_neg (by omega), Heap.get_push, if_neg (by omega)]; exact gH
    have hlk := look9 hHx l.name
    generalize hE : firstI [whenI (!nameB l.name) 8, whenI (dupP ((ls.take k).map Ln.name) l.name) 9, whenI (decide ((l.ps.length : Int) = 0)) 12, whenI (decide ((8 : Int) < l.ps.length)) 5] = E
    have hsp : lineP ls k = if E = 0 then firstI (l.ps.map pieceP) else E := by
      unfold lineP
      simp only [hp, hE]
    unfold dupP at hE
    rcases Classical.propComplete (E = 0) with z | z
    · have hdup : ((ls.take k).map Ln.name).any (beqL l.name) = false := by
        have := (first4 _ _ _ _ (hE.trans (of_eq_true z))).2.1
        cases hd : ((ls.take k).map Ln.name).any (beqL l.name) with
        | false => rfl
        | true => rw [hd] at this; simp [whenI] at this
      have hup := upd9 hHx (Nat.zero_le 0) l.name hdup
      rcases Classical.propComplete (firstI (l.ps.map pieceP) = 0) with z2 | z2
      · simp only [go_sem, reduceIte, Nat.reduceEqDiff, Nat.reduceAdd, Nat.reduceMul, Nat.reduceSub, Nat.reduceLeDiff, Nat.reduceLT, Nat.reduceBEq, reduceCtorEq, g13, g14, g15, g3, g4, List.length_map, hk, hr, hw, h0l, e120', hlk, e121, e111_4, hE, z, e181', e111', z2, hup]
        rw [htk]
        refine ⟨rfl, ?_⟩
        simp [hf, hfd, hsp, z, z2]
      · simp only [go_sem, reduceIte, Nat.reduceEqDiff, Nat.reduceAdd, Nat.reduceMul, Nat.reduceSub, Nat.reduceLeDiff, Nat.reduceLT, Nat.reduceBEq, reduceCtorEq, g13, g14, g15, g3, g4, List.length_map, hk, hr, hw, h0l, e120', hlk, e121, e111_4, hE, z, e181', e111', z2]
        simp [linesP, q1, hf, hfd, hsp, z, z2]
    · simp only [go_sem, reduceIte, Nat.reduceEqDiff, Nat.reduceAdd, Nat.reduceMul, Nat.reduceSub, Nat.reduceLeDiff, Nat.reduceLT, Nat.reduceBEq, reduceCtorEq, g13, g14, g15, g3, g4, List.length_map, hk, hr, hw, h0l, e120', hlk, e121, e111_4, hE, z]
      simp [linesP, q1, hf, hfd, hsp, z]
  · rintro T H M ⟨rfl, g13, g14, g15, g3, g4, gH, hn0, hf⟩
    rw [allR_end] at hf
    simp only [go_sem, reduceIte, Nat.reduceEqDiff, Nat.reduceAdd, Nat.reduceMul, Nat.reduceSub, Nat.reduceLeDiff, Nat.reduceLT, Nat.reduceBEq, reduceCtorEq, g13, g14, g15, List.length_map, Nat.lt_irrefl]
    simp [linesP, q1, hf]
/-! ### Switches -/
theorem lnOf_fits {ls : List Ln} {s : List Nat} (h : ∀ l ∈ ls, l.ps.length ≤ maxRows) : (lnOf ls s).ps.length ≤ maxRows := by
  unfold lnOf
  cases hf : findL ls s with
  | none => simp
  | some i =>
    obtain ⟨l, hl, _, hm⟩ := findL_at hf
    simp only [List.getD_eq_getElem?_getD, hl, Option.getD_some]
    exact h l hm
theorem first6 (a b c d e f : Int) : firstI [a, b, c, d, e, f] = 0 → b = 0 := by
  simp only [firstI]; split <;> (try split) <;> simp_all
theorem first5 (a b c d e : Int) : firstI [a, b, c, d, e] = 0 → b = 0 := by
  simp only [firstI]; split <;> (try split) <;> simp_all
def switchP (n : Net) (i : Nat) : Int := match n.sws[i]? with
  | none => 0
  | some s => firstI [whenI (!nameB s.name) 8, whenI (dupP ((n.sws.take i).map Sw.name) s.name) 9, whenI (!lnB n.lines s.line) 10, whenI (!hasB (lnOf n.lines s.line) s.metre) 14, whenI (!lnB n.lines s.other) 10, whenI (beqL s.line s.other) 24]
def switchesP (n : Net) : Int := if (8 : Int) < n.sws.length then 5 else allR (switchP n) n.sws.length
theorem c112 (n : Net) (hl : n.lines.length ≤ maxRows) (hps : ∀ l ∈ n.lines, l.ps.length ≤ maxRows) (hs : n.sws.length ≤ maxRows) (hn : ∀ s ∈ n.sws, s.name.length ≤ maxRows) : ∀ lo H, CallOk NC lo 112 [.agg n.cells] H (i64 (switchesP n)) H := by
  refine contract saneNC primsH (fn := Tryz.f112) (by kernel_rfl) Tryz.func112 rfl rfl (by rfl) (by rfl) ?_
  rcases Classical.propComplete ((8 : Int) < n.sws.length) with q1 | q1
  · simp only [go_sem, reduceIte, Nat.reduceEqDiff, Nat.reduceAdd, Nat.reduceMul, Nat.reduceSub, Nat.reduceLeDiff, Nat.reduceLT, Nat.reduceBEq, reduceCtorEq, Net.cells, List.length_map, q1]
    simp [switchesP, q1]
  simp only [go_sem, reduceIte, Nat.reduceEqDiff, Nat.reduceAdd, Nat.reduceMul, Nat.reduceSub, Nat.reduceLeDiff, Nat.reduceLT, Nat.reduceBEq, reduceCtorEq, Net.cells, List.length_map, q1]
  refine W_for (fun k T H M => M = [] ∧ getT T 1 = .ptr 0 0 ∧ H.get 0 = .cells n.cells 40 ∧ getT T 17 = .ps .unk (n.sws.map Sw.row) ∧ getT T 18 = i64 (n.sws.length : Nat) ∧ getT T 19 = i64 k ∧ getT T 3 = .map 1 ∧ H.get 1 = .map (nameMap ((n.sws.take k).map Sw.name)) ∧ 1 < H.n ∧ allR (switchP n) n.sws.length = firstI (((List.range n.sws.length).map (switchP n)).drop k)) n.sws.length ?_ ?_ ?_
  · simp only [go_sem, reduceIte, Nat.reduceEqDiff, Nat.reduceAdd, Nat.reduceMul, Nat.reduceSub, Nat.reduceLeDiff, Nat.reduceLT, Nat.reduceBEq, reduceCtorEq, List.length_map, Net.cells]; exact ⟨rfl, rfl⟩
  · rintro k T H M hk ⟨rfl, g1, gH0, g17, g18, g19, g3, gH, hn0, hf⟩
    obtain ⟨s, hp⟩ : ∃ p, n.sws[k]? = some p := ⟨n.sws[k], by simp⟩
    have hmem := List.mem_of_getElem? hp
    have hr := map_at (f := Sw.row) hp
    have hw := wrap_succ hk hs
    have hfd := allR_step (f := switchP n) hk
    have htk : (n.sws.take (k + 1)).map Sw.name = (n.sws.take k).map Sw.name ++ [s.name] := by rw [List.take_add_one, hp]; simp
    simp only [Sw.row] at hr
    have e120' := e120 s.name (hn s hmem)
    have e98a := pe98 (n, s.line) hl
    have e98b := pe98 (n, s.other) hl
    have e177' := pe177 (lnOf n.lines s.line, s.metre) (lnOf_fits hps)
    simp only [Net.cells, Ln.row, i64] at e98a e98b e177'
    have b0 : (0 = H.n) = False := by simp; omega
    have b1 : (1 = H.n) = False := by simp; omega
    have b00 : (0 = H.n + 1) = False := by simp
    have b01 : (0 = H.n + 1 + 1) = False := by simp
    have b10 : (1 = H.n + 1) = False := by simp; omega
    have b11 : (1 = H.n + 1 + 1) = False := by simp
    have b2 : (H.n = H.n + 1) = False := by simp
    have b3 : (H.n = H.n + 1 + 1) = False := by simp; omega
    have b4 : (H.n + 1 = H.n + 1 + 1) = False := by simp
    have b5 : (1 < H.n + 1 + 1 + 1) = True := by simp
    generalize hE : firstI [whenI (!nameB s.name) 8, whenI (dupP ((n.sws.take k).map Sw.name) s.name) 9, whenI (!lnB n.lines s.line) 10, whenI (!hasB (lnOf n.lines s.line) s.metre) 14, whenI (!lnB n.lines s.other) 10, whenI (beqL s.line s.other) 24] = E
    have hsp : switchP n k = E := by
      unfold switchP
      simp only [hp, hE]
    unfold dupP at hE
    have hlk : ∀ H2 : Heap, H2.get 1 = .map (nameMap ((n.sws.take k).map Sw.name)) → alookup NC.P H2 310 (.map 1) (.str s.name) false = some (.bool (((n.sws.take k).map Sw.name).any (beqL s.name))) := fun H2 h2 => look9 h2 s.name
    rcases Classical.propComplete (E = 0) with z | z
    · have hdup : ((n.sws.take k).map Sw.name).any (beqL s.name) = false := by
        have := first6 _ _ _ _ _ _ (hE.trans (of_eq_true z))
        cases hd : ((n.sws.take k).map Sw.name).any (beqL s.name) with
        | false => rfl
        | true => rw [hd] at this; simp [whenI] at this
      have hup : ∀ H2 : Heap, H2.get 1 = .map (nameMap ((n.sws.take k).map Sw.name)) → amapUpdate NC.P 0 H2 310 (.map 1) (.str s.name) (.bool true) = some (H2.set 1 (.map (nameMap ((n.sws.take k).map Sw.name ++ [s.name])))) := fun H2 h2 => upd9 h2 (Nat.zero_le 1) s.name hdup
      simp only [go_sem, reduceIte, Nat.reduceEqDiff, Nat.reduceAdd, Nat.reduceMul, Nat.reduceSub, Nat.reduceLeDiff, Nat.reduceLT, Nat.reduceBEq, reduceCtorEq, g1, gH0, g17, g18, g19, g3, gH, Net.cells, Ln.row, List.length_map, hk, hr, hw, b0, b1, b00, b01, b10, b11, b2, b3, b4, b5, e120', e98a, e98b, e177', hlk, e121, e111_6, hE, z, hup]
      rw [htk]
      refine ⟨rfl, ?_⟩
      simp [hf, hfd, hsp, z]
    · simp only [go_sem, reduceIte, Nat.reduceEqDiff, Nat.reduceAdd, Nat.reduceMul, Nat.reduceSub, Nat.reduceLeDiff, Nat.reduceLT, Nat.reduceBEq, reduceCtorEq, g1, gH0, g17, g18, g19, g3, gH, Net.cells, Ln.row, List.length_map, hk, hr, hw, b0, b1, b00, b01, b10, b11, b2, b3, b4, b5, e120', e98a, e98b, e177', hlk, e121, e111_6, hE, z]
      simp [switchesP, q1, hf, hfd, hsp, z]
  · rintro T H M ⟨rfl, g1, gH0, g17, g18, g19, g3, gH, hn0, hf⟩
    rw [allR_end] at hf
    simp only [go_sem, reduceIte, Nat.reduceEqDiff, Nat.reduceAdd, Nat.reduceMul, Nat.reduceSub, Nat.reduceLeDiff, Nat.reduceLT, Nat.reduceBEq, reduceCtorEq, g17, g18, g19, List.length_map, Nat.lt_irrefl]
    simp [switchesP, q1, hf]
/-! ### Structures -/
def structP (n : Net) (i : Nat) : Int := match n.sts[i]? with
  | none => 0
  | some s => firstI [whenI (!nameB s.name) 8, whenI (dupP ((n.sts.take i).map Stc.name) s.name) 9, whenI (!nameB s.kind) 13, whenI (!lnB n.lines s.line) 10, whenI (spanB (lnOf n.lines s.line) s.fr s.till) 14]
def structsP (n : Net) : Int := if (16 : Int) < n.sts.length then 5 else allR (structP n) n.sts.length
theorem c113 (n : Net) (hl : n.lines.length ≤ maxRows) (hps : ∀ l ∈ n.lines, l.ps.length ≤ maxRows) (hs : n.sts.length ≤ maxRows) (hn : ∀ s ∈ n.sts, s.name.length ≤ maxRows ∧ s.kind.length ≤ maxRows) : ∀ lo H, CallOk NC lo 113 [.agg n.cells] H (i64 (structsP n)) H := by
  refine contract saneNC primsH (fn := Tryz.f113) (by kernel_rfl) Tryz.func113 rfl rfl (by rfl) (by rfl) ?_
  rcases Classical.propComplete ((16 : Int) < n.sts.length) with q1 | q1
  · simp only [go_sem, reduceIte, Nat.reduceEqDiff, Nat.reduceAdd, Nat.reduceMul, Nat.reduceSub, Nat.reduceLeDiff, Nat.reduceLT, Nat.reduceBEq, reduceCtorEq, Net.cells, List.length_map, q1]
    simp [structsP, q1]
  simp only [go_sem, reduceIte, Nat.reduceEqDiff, Nat.reduceAdd, Nat.reduceMul, Nat.reduceSub, Nat.reduceLeDiff, Nat.reduceLT, Nat.reduceBEq, reduceCtorEq, Net.cells, List.length_map, q1]
  refine W_for (fun k T H M => M = [] ∧ getT T 1 = .ptr 0 0 ∧ H.get 0 = .cells n.cells 40 ∧ getT T 15 = .ps .unk (n.sts.map Stc.row) ∧ getT T 16 = i64 (n.sts.length : Nat) ∧ getT T 17 = i64 k ∧ getT T 3 = .map 1 ∧ H.get 1 = .map (nameMap ((n.sts.take k).map Stc.name)) ∧ 1 < H.n ∧ allR (structP n) n.sts.length = firstI (((List.range n.sts.length).map (structP n)).drop k)) n.sts.length ?_ ?_ ?_
  · simp only [go_sem, reduceIte, Nat.reduceEqDiff, Nat.reduceAdd, Nat.reduceMul, Nat.reduceSub, Nat.reduceLeDiff, Nat.reduceLT, Nat.reduceBEq, reduceCtorEq, List.length_map, Net.cells]; exact ⟨rfl, rfl⟩
  · rintro k T H M hk ⟨rfl, g1, gH0, g17, g18, g19, g3, gH, hn0, hf⟩
    obtain ⟨s, hp⟩ : ∃ p, n.sts[k]? = some p := ⟨n.sts[k], by simp⟩
    have hmem := List.mem_of_getElem? hp
    have hr := map_at (f := Stc.row) hp
    have hw := wrap_succ hk hs
    have hfd := allR_step (f := structP n) hk
    have htk : (n.sts.take (k + 1)).map Stc.name = (n.sts.take k).map Stc.name ++ [s.name] := by rw [List.take_add_one, hp]; simp
    simp only [Stc.row] at hr
    have e120' := e120 s.name (hn s hmem).1
    have e182' := e182 s.kind (hn s hmem).2
    have e98a := pe98 (n, s.line) hl
    have e183' := pe183 (lnOf n.lines s.line, s.fr, s.till) (lnOf_fits hps)
    simp only [Net.cells, Ln.row, i64] at e98a e183'
    have b0 : (0 = H.n) = False := by simp; omega
    have b1 : (1 = H.n) = False := by simp; omega
    have b00 : (0 = H.n + 1) = False := by simp
    have b10 : (1 = H.n + 1) = False := by simp; omega
    have b2 : (H.n = H.n + 1) = False := by simp
    have b5 : (1 < H.n + 1 + 1) = True := by simp
    generalize hE : firstI [whenI (!nameB s.name) 8, whenI (dupP ((n.sts.take k).map Stc.name) s.name) 9, whenI (!nameB s.kind) 13, whenI (!lnB n.lines s.line) 10, whenI (spanB (lnOf n.lines s.line) s.fr s.till) 14] = E
    have hsp : structP n k = E := by
      unfold structP
      simp only [hp, hE]
    unfold dupP at hE
    have hlk : ∀ H2 : Heap, H2.get 1 = .map (nameMap ((n.sts.take k).map Stc.name)) → alookup NC.P H2 310 (.map 1) (.str s.name) false = some (.bool (((n.sts.take k).map Stc.name).any (beqL s.name))) := fun H2 h2 => look9 h2 s.name
    rcases Classical.propComplete (E = 0) with z | z
    · have hdup : ((n.sts.take k).map Stc.name).any (beqL s.name) = false := by
        have := first5 _ _ _ _ _ (hE.trans (of_eq_true z))
        cases hd : ((n.sts.take k).map Stc.name).any (beqL s.name) with
        | false => rfl
        | true => rw [hd] at this; simp [whenI] at this
      have hup : ∀ H2 : Heap, H2.get 1 = .map (nameMap ((n.sts.take k).map Stc.name)) → amapUpdate NC.P 0 H2 310 (.map 1) (.str s.name) (.bool true) = some (H2.set 1 (.map (nameMap ((n.sts.take k).map Stc.name ++ [s.name])))) := fun H2 h2 => upd9 h2 (Nat.zero_le 1) s.name hdup
      simp only [go_sem, reduceIte, Nat.reduceEqDiff, Nat.reduceAdd, Nat.reduceMul, Nat.reduceSub, Nat.reduceLeDiff, Nat.reduceLT, Nat.reduceBEq, reduceCtorEq, g1, gH0, g17, g18, g19, g3, gH, Net.cells, Ln.row, List.length_map, hk, hr, hw, b0, b1, b00, b10, b2, b5, e120', e182', e98a, e183', hlk, e121, e111_5, hE, z, hup]
      rw [htk]
      refine ⟨rfl, ?_⟩
      simp [hf, hfd, hsp, z]
    · simp only [go_sem, reduceIte, Nat.reduceEqDiff, Nat.reduceAdd, Nat.reduceMul, Nat.reduceSub, Nat.reduceLeDiff, Nat.reduceLT, Nat.reduceBEq, reduceCtorEq, g1, gH0, g17, g18, g19, g3, gH, Net.cells, Ln.row, List.length_map, hk, hr, hw, b0, b1, b00, b10, b2, b5, e120', e182', e98a, e183', hlk, e121, e111_5, hE, z]
      simp [structsP, q1, hf, hfd, hsp, z]
  · rintro T H M ⟨rfl, g1, gH0, g17, g18, g19, g3, gH, hn0, hf⟩
    rw [allR_end] at hf
    simp only [go_sem, reduceIte, Nat.reduceEqDiff, Nat.reduceAdd, Nat.reduceMul, Nat.reduceSub, Nat.reduceLeDiff, Nat.reduceLT, Nat.reduceBEq, reduceCtorEq, g17, g18, g19, List.length_map, Nat.lt_irrefl]
    simp [structsP, q1, hf]
end Go.Sim

/-
The program: CheckNetwork, Length, Addressed, Placed.
-/
namespace Go.Sim
open Go Go.Proofs
set_option maxRecDepth 100000
set_option maxHeartbeats 8000000
structure Net.Ok (n : Net) : Prop where
  lines : n.lines.length ≤ maxRows
  line : ∀ l ∈ n.lines, l.name.length ≤ maxRows ∧ l.ps.length ≤ maxRows
  sws : n.sws.length ≤ maxRows
  sw : ∀ s ∈ n.sws, s.name.length ≤ maxRows
  sts : n.sts.length ≤ maxRows
  st : ∀ s ∈ n.sts, s.name.length ≤ maxRows ∧ s.kind.length ≤ maxRows
theorem Net.Ok.fits {n : Net} (h : n.Ok) : n.fits := ⟨h.lines, fun l hl => (h.line l hl).2⟩
theorem cells1_inj (x y : Net) (h : [AV.agg x.cells] = [AV.agg y.cells]) : x = y := by
  simp only [List.cons.injEq, AV.agg.injEq, and_true] at h; exact Net.cells_inj _ _ h
noncomputable def p110 : List AV → Option AV := primOf (α := List Ln) (fun x => [.ps .unk (x.map Ln.row)]) (fun x => (x.length ≤ maxRows ∧ ∀ l ∈ x, l.name.length ≤ maxRows ∧ l.ps.length ≤ maxRows)) (fun x => i64 (linesP x))
theorem pok110 : ∀ args v, p110 args = some v → ∀ lo H, CallOk NC lo 110 args H v H := by
  intro args v h
  obtain ⟨x, rfl, hp, rfl⟩ := primOf_inv h
  clear h
  revert x
  intro x hx; exact c110 x hx.1 hx.2
theorem pe110 (x : List Ln) (hp : (fun x => (x.length ≤ maxRows ∧ ∀ l ∈ x, l.name.length ≤ maxRows ∧ l.ps.length ≤ maxRows)) x) : p110 ((fun x => [.ps .unk (x.map Ln.row)]) x) = some ((fun x => i64 (linesP x)) x) := primOf_enc (by intro x y h; (simp only [List.cons.injEq, AV.ps.injEq, and_true, true_and] at h; exact map_inj Ln.row_inj h)) x hp
noncomputable def p112 : List AV → Option AV := primOf (α := Net) (fun x => [.agg x.cells]) (fun x => x.Ok) (fun x => i64 (switchesP x))
theorem pok112 : ∀ args v, p112 args = some v → ∀ lo H, CallOk NC lo 112 args H v H := by
  intro args v h
  obtain ⟨x, rfl, hp, rfl⟩ := primOf_inv h
  clear h
  revert x
  intro x hx; exact c112 x hx.lines (fun l hl => (hx.line l hl).2) hx.sws hx.sw
theorem pe112 (x : Net) (hp : (fun x => x.Ok) x) : p112 ((fun x => [.agg x.cells]) x) = some ((fun x => i64 (switchesP x)) x) := primOf_enc (by intro x y h; exact cells1_inj x y h) x hp
noncomputable def p113 : List AV → Option AV := primOf (α := Net) (fun x => [.agg x.cells]) (fun x => x.Ok) (fun x => i64 (structsP x))
theorem pok113 : ∀ args v, p113 args = some v → ∀ lo H, CallOk NC lo 113 args H v H := by
  intro args v h
  obtain ⟨x, rfl, hp, rfl⟩ := primOf_inv h
  clear h
  revert x
  intro x hx; exact c113 x hx.lines (fun l hl => (hx.line l hl).2) hx.sts hx.st
theorem pe113 (x : Net) (hp : (fun x => x.Ok) x) : p113 ((fun x => [.agg x.cells]) x) = some ((fun x => i64 (structsP x)) x) := primOf_enc (by intro x y h; exact cells1_inj x y h) x hp
noncomputable def PPI : FuncId → Option (List AV → Option AV) := addPrim 113 p113 (addPrim 112 p112 (addPrim 110 p110 (PPH)))
theorem primsI : PrimsOk NC PPI := primsOk_add (primsOk_add (primsOk_add (primsH) (by kernel_rfl) (by kernel_rfl) pok110) (by kernel_rfl) (by kernel_rfl) pok112) (by kernel_rfl) (by kernel_rfl) pok113
theorem enI_48 : En PPI 48 p48 := enter_prim (by rfl) (by kernel_rfl)
theorem enI_121 : En PPI 121 p121 := enter_prim (by rfl) (by kernel_rfl)
theorem enI_34 : En PPI 34 p34 := enter_prim (by rfl) (by kernel_rfl)
theorem enI_111 : En PPI 111 p111 := enter_prim (by rfl) (by kernel_rfl)
theorem enI_26 : En PPI 26 p26 := enter_prim (by rfl) (by kernel_rfl)
theorem enI_178 : En PPI 178 p178 := enter_prim (by rfl) (by kernel_rfl)
theorem enI_109 : En PPI 109 p109 := enter_prim (by rfl) (by kernel_rfl)
theorem enI_108 : En PPI 108 p108 := enter_prim (by rfl) (by kernel_rfl)
theorem enI_27 : En PPI 27 p27 := enter_prim (by rfl) (by kernel_rfl)
theorem enI_97 : En PPI 97 p97 := enter_prim (by rfl) (by kernel_rfl)
theorem enI_122 : En PPI 122 p122 := enter_prim (by rfl) (by kernel_rfl)
theorem enI_182 : En PPI 182 p182 := enter_prim (by rfl) (by kernel_rfl)
theorem enI_35 : En PPI 35 p35 := enter_prim (by rfl) (by kernel_rfl)
theorem enI_115 : En PPI 115 p115 := enter_prim (by rfl) (by kernel_rfl)
theorem enI_36 : En PPI 36 p36 := enter_prim (by rfl) (by kernel_rfl)
theorem enI_120 : En PPI 120 p120 := enter_prim (by rfl) (by kernel_rfl)
theorem enI_106 : En PPI 106 p106 := enter_prim (by rfl) (by kernel_rfl)
theorem enI_179 : En PPI 179 p179 := enter_prim (by rfl) (by kernel_rfl)
theorem enI_126 : En PPI 126 p126 := enter_prim (by rfl) (by kernel_rfl)
theorem enI_103 : En PPI 103 p103 := enter_prim (by rfl) (by kernel_rfl)
theorem enI_104 : En PPI 104 p104 := enter_prim (by rfl) (by kernel_rfl)
theorem enI_105 : En PPI 105 p105 := enter_prim (by rfl) (by kernel_rfl)
theorem enI_99 : En PPI 99 p99 := enter_prim (by rfl) (by kernel_rfl)
theorem enI_226 : En PPI 226 p226 := enter_prim (by rfl) (by kernel_rfl)
theorem enI_134 : En PPI 134 p134 := enter_prim (by rfl) (by kernel_rfl)
theorem enI_177 : En PPI 177 p177 := enter_prim (by rfl) (by kernel_rfl)
theorem enI_180 : En PPI 180 p180 := enter_prim (by rfl) (by kernel_rfl)
theorem enI_98 : En PPI 98 p98 := enter_prim (by rfl) (by kernel_rfl)
theorem enI_181 : En PPI 181 p181 := enter_prim (by rfl) (by kernel_rfl)
theorem enI_183 : En PPI 183 p183 := enter_prim (by rfl) (by kernel_rfl)
theorem enI_110 : En PPI 110 p110 := enter_prim (by rfl) (by kernel_rfl)
theorem enI_112 : En PPI 112 p112 := enter_prim (by rfl) (by kernel_rfl)
theorem enI_113 : En PPI 113 p113 := enter_prim (by rfl) (by kernel_rfl)
attribute [go_sem ↓] enI_48 enI_121 enI_34 enI_111 enI_26 enI_178 enI_109 enI_108 enI_27 enI_97 enI_122 enI_182
attribute [go_sem ↓] enI_35 enI_115 enI_36 enI_120 enI_106 enI_179 enI_126 enI_103 enI_104 enI_105 enI_99 enI_226
attribute [go_sem ↓] enI_134 enI_177 enI_180 enI_98 enI_181 enI_183 enI_110 enI_112 enI_113
def netP (n : Net) : Int := if linesP n.lines = 0 then firstI [switchesP n, structsP n] else linesP n.lines
theorem c29 (n : Net) (hn : n.Ok) : ∀ lo H, CallOk NC lo 29 [.agg n.cells] H (i64 (netP n)) H := by
  refine contract saneNC primsI (fn := Tryz.f29) (by kernel_rfl) Tryz.func29 rfl rfl (by rfl) (by rfl) ?_
  have e110 := pe110 n.lines ⟨hn.lines, hn.line⟩
  have e112 := pe112 n hn
  have e113 := pe113 n hn
  simp only [Net.cells, i64] at e110 e112 e113
  generalize hE : linesP n.lines = E at e110
  rcases Classical.propComplete (E = 0) with z | z
  · simp only [go_sem, reduceIte, Nat.reduceEqDiff, Nat.reduceAdd, Nat.reduceMul, Nat.reduceSub, Nat.reduceLeDiff, Nat.reduceLT, Nat.reduceBEq, reduceCtorEq, Net.cells, e110, e112, e113, e111_2, z]
    simp [netP, hE, z]
  · simp only [go_sem, reduceIte, Nat.reduceEqDiff, Nat.reduceAdd, Nat.reduceMul, Nat.reduceSub, Nat.reduceLeDiff, Nat.reduceLT, Nat.reduceBEq, reduceCtorEq, Net.cells, e110, e112, e113, e111_2, z]
    simp [netP, hE, z]
noncomputable def p29 : List AV → Option AV := primOf (α := Net) (fun x => [.agg x.cells]) (fun x => x.Ok) (fun x => i64 (netP x))
theorem pok29 : ∀ args v, p29 args = some v → ∀ lo H, CallOk NC lo 29 args H v H := by
  intro args v h
  obtain ⟨x, rfl, hp, rfl⟩ := primOf_inv h
  clear h
  revert x
  intro x hx; exact c29 x hx
theorem pe29 (x : Net) (hp : (fun x => x.Ok) x) : p29 ((fun x => [.agg x.cells]) x) = some ((fun x => i64 (netP x)) x) := primOf_enc (by intro x y h; exact cells1_inj x y h) x hp
noncomputable def PPJ : FuncId → Option (List AV → Option AV) := addPrim 29 p29 (PPI)
theorem primsJ : PrimsOk NC PPJ := primsOk_add (primsI) (by kernel_rfl) (by kernel_rfl) pok29
theorem enJ_48 : En PPJ 48 p48 := enter_prim (by rfl) (by kernel_rfl)
theorem enJ_121 : En PPJ 121 p121 := enter_prim (by rfl) (by kernel_rfl)
theorem enJ_34 : En PPJ 34 p34 := enter_prim (by rfl) (by kernel_rfl)
theorem enJ_111 : En PPJ 111 p111 := enter_prim (by rfl) (by kernel_rfl)
theorem enJ_26 : En PPJ 26 p26 := enter_prim (by rfl) (by kernel_rfl)
theorem enJ_178 : En PPJ 178 p178 := enter_prim (by rfl) (by kernel_rfl)
theorem enJ_109 : En PPJ 109 p109 := enter_prim (by rfl) (by kernel_rfl)
theorem enJ_108 : En PPJ 108 p108 := enter_prim (by rfl) (by kernel_rfl)
theorem enJ_27 : En PPJ 27 p27 := enter_prim (by rfl) (by kernel_rfl)
theorem enJ_97 : En PPJ 97 p97 := enter_prim (by rfl) (by kernel_rfl)
theorem enJ_122 : En PPJ 122 p122 := enter_prim (by rfl) (by kernel_rfl)
theorem enJ_182 : En PPJ 182 p182 := enter_prim (by rfl) (by kernel_rfl)
theorem enJ_35 : En PPJ 35 p35 := enter_prim (by rfl) (by kernel_rfl)
theorem enJ_115 : En PPJ 115 p115 := enter_prim (by rfl) (by kernel_rfl)
theorem enJ_36 : En PPJ 36 p36 := enter_prim (by rfl) (by kernel_rfl)
theorem enJ_120 : En PPJ 120 p120 := enter_prim (by rfl) (by kernel_rfl)
theorem enJ_106 : En PPJ 106 p106 := enter_prim (by rfl) (by kernel_rfl)
theorem enJ_179 : En PPJ 179 p179 := enter_prim (by rfl) (by kernel_rfl)
theorem enJ_126 : En PPJ 126 p126 := enter_prim (by rfl) (by kernel_rfl)
theorem enJ_103 : En PPJ 103 p103 := enter_prim (by rfl) (by kernel_rfl)
theorem enJ_104 : En PPJ 104 p104 := enter_prim (by rfl) (by kernel_rfl)
theorem enJ_105 : En PPJ 105 p105 := enter_prim (by rfl) (by kernel_rfl)
theorem enJ_99 : En PPJ 99 p99 := enter_prim (by rfl) (by kernel_rfl)
theorem enJ_226 : En PPJ 226 p226 := enter_prim (by rfl) (by kernel_rfl)
theorem enJ_134 : En PPJ 134 p134 := enter_prim (by rfl) (by kernel_rfl)
theorem enJ_177 : En PPJ 177 p177 := enter_prim (by rfl) (by kernel_rfl)
theorem enJ_180 : En PPJ 180 p180 := enter_prim (by rfl) (by kernel_rfl)
theorem enJ_98 : En PPJ 98 p98 := enter_prim (by rfl) (by kernel_rfl)
theorem enJ_181 : En PPJ 181 p181 := enter_prim (by rfl) (by kernel_rfl)
theorem enJ_183 : En PPJ 183 p183 := enter_prim (by rfl) (by kernel_rfl)
theorem enJ_110 : En PPJ 110 p110 := enter_prim (by rfl) (by kernel_rfl)
theorem enJ_112 : En PPJ 112 p112 := enter_prim (by rfl) (by kernel_rfl)
theorem enJ_113 : En PPJ 113 p113 := enter_prim (by rfl) (by kernel_rfl)
theorem enJ_29 : En PPJ 29 p29 := enter_prim (by rfl) (by kernel_rfl)
attribute [go_sem ↓] enJ_48 enJ_121 enJ_34 enJ_111 enJ_26 enJ_178 enJ_109 enJ_108 enJ_27 enJ_97 enJ_122 enJ_182
attribute [go_sem ↓] enJ_35 enJ_115 enJ_36 enJ_120 enJ_106 enJ_179 enJ_126 enJ_103 enJ_104 enJ_105 enJ_99 enJ_226
attribute [go_sem ↓] enJ_134 enJ_177 enJ_180 enJ_98 enJ_181 enJ_183 enJ_110 enJ_112 enJ_113 enJ_29
theorem c18 (n : Net) (s : List Nat) (hn : n.Ok) : ∀ lo H, CallOk NC lo 18 [.agg n.cells, .str s] H (.tup (if netP n = 0 then (if lnB n.lines s then [i64 (sumW (lnOf n.lines s).ps 0), i64 0] else [i64 0, i64 10]) else [i64 0, i64 (netP n)])) H := by
  refine contract saneNC primsJ (fn := Tryz.f18) (by kernel_rfl) Tryz.func18 rfl rfl (by rfl) (by split <;> (try split) <;> rfl) ?_
  have e29 := pe29 n hn
  have e98 := pe98 (n, s) hn.lines
  have e99 := pe99 (lnOf n.lines s) (lnOf_fits fun l hl => (hn.line l hl).2)
  simp only [Net.cells, Ln.row, i64] at e29 e98 e99
  generalize hE : netP n = E at e29 ⊢
  generalize hB : lnB n.lines s = B at e98 ⊢
  rcases Classical.propComplete (E = 0) with z | z
  · cases B <;> simp only [go_sem, reduceIte, Nat.reduceEqDiff, Nat.reduceAdd, Nat.reduceMul, Nat.reduceSub, Nat.reduceLeDiff, Nat.reduceLT, Nat.reduceBEq, reduceCtorEq, Net.cells, Ln.row, e29, e98, e99, z, Bool.false_eq_true]
  · simp only [go_sem, reduceIte, Nat.reduceEqDiff, Nat.reduceAdd, Nat.reduceMul, Nat.reduceSub, Nat.reduceLeDiff, Nat.reduceLT, Nat.reduceBEq, reduceCtorEq, Net.cells, e29, z]
def placeP (n : Net) (s : List Nat) (m : Int) : Int := firstI [whenI (!lnB n.lines s) 10, whenI (!hasB (lnOf n.lines s) m) 14]
theorem c100 (n : Net) (s : List Nat) (m : Int) (hn : n.Ok) : ∀ lo H, CallOk NC lo 100 [.agg n.cells, .agg [.str s, i64 m]] H (i64 (placeP n s m)) H := by
  refine contract saneNC primsJ (fn := Tryz.f100) (by kernel_rfl) Tryz.func100 rfl rfl (by rfl) (by rfl) ?_
  have e98 := pe98 (n, s) hn.lines
  have e177 := pe177 (lnOf n.lines s, m) (lnOf_fits fun l hl => (hn.line l hl).2)
  simp only [Net.cells, Ln.row, i64] at e98 e177
  simp only [go_sem, reduceIte, Nat.reduceEqDiff, Nat.reduceAdd, Nat.reduceMul, Nat.reduceSub, Nat.reduceLeDiff, Nat.reduceLT, Nat.reduceBEq, reduceCtorEq, Net.cells, Ln.row, e98, e177, e121, e111_2]
  rfl
end Go.Sim

/-
The program: Addressed, Placed.
-/
namespace Go.Sim
open Go Go.Proofs
set_option maxRecDepth 100000
set_option maxHeartbeats 8000000
noncomputable def p100 : List AV → Option AV := primOf (α := Net × List Nat × Int) (fun x => [.agg x.1.cells, .agg [.str x.2.1, i64 x.2.2]]) (fun x => x.1.Ok) (fun x => i64 (placeP x.1 x.2.1 x.2.2))
theorem pok100 : ∀ args v, p100 args = some v → ∀ lo H, CallOk NC lo 100 args H v H := by
  intro args v h
  obtain ⟨x, rfl, hp, rfl⟩ := primOf_inv h
  clear h
  revert x
  intro x hx; exact c100 x.1 x.2.1 x.2.2 hx
theorem pe100 (x : Net × List Nat × Int) (hp : (fun x => x.1.Ok) x) : p100 ((fun x => [.agg x.1.cells, .agg [.str x.2.1, i64 x.2.2]]) x) = some ((fun x => i64 (placeP x.1 x.2.1 x.2.2)) x) := primOf_enc (by intro x y h; (obtain ⟨a, b, c⟩ := x; obtain ⟨d, e, f⟩ := y; simp only [List.cons.injEq, AV.agg.injEq, AV.str.injEq, AV.int.injEq, true_and, and_true] at h; obtain ⟨h1, rfl, rfl⟩ := h; rw [Net.cells_inj _ _ h1])) x hp
noncomputable def PPK : FuncId → Option (List AV → Option AV) := addPrim 100 p100 (PPJ)
theorem primsK : PrimsOk NC PPK := primsOk_add (primsJ) (by kernel_rfl) (by kernel_rfl) pok100
theorem enK_48 : En PPK 48 p48 := enter_prim (by rfl) (by kernel_rfl)
theorem enK_121 : En PPK 121 p121 := enter_prim (by rfl) (by kernel_rfl)
theorem enK_34 : En PPK 34 p34 := enter_prim (by rfl) (by kernel_rfl)
theorem enK_111 : En PPK 111 p111 := enter_prim (by rfl) (by kernel_rfl)
theorem enK_26 : En PPK 26 p26 := enter_prim (by rfl) (by kernel_rfl)
theorem enK_178 : En PPK 178 p178 := enter_prim (by rfl) (by kernel_rfl)
theorem enK_109 : En PPK 109 p109 := enter_prim (by rfl) (by kernel_rfl)
theorem enK_108 : En PPK 108 p108 := enter_prim (by rfl) (by kernel_rfl)
theorem enK_27 : En PPK 27 p27 := enter_prim (by rfl) (by kernel_rfl)
theorem enK_97 : En PPK 97 p97 := enter_prim (by rfl) (by kernel_rfl)
theorem enK_122 : En PPK 122 p122 := enter_prim (by rfl) (by kernel_rfl)
theorem enK_182 : En PPK 182 p182 := enter_prim (by rfl) (by kernel_rfl)
theorem enK_35 : En PPK 35 p35 := enter_prim (by rfl) (by kernel_rfl)
theorem enK_115 : En PPK 115 p115 := enter_prim (by rfl) (by kernel_rfl)
theorem enK_36 : En PPK 36 p36 := enter_prim (by rfl) (by kernel_rfl)
theorem enK_120 : En PPK 120 p120 := enter_prim (by rfl) (by kernel_rfl)
theorem enK_106 : En PPK 106 p106 := enter_prim (by rfl) (by kernel_rfl)
theorem enK_179 : En PPK 179 p179 := enter_prim (by rfl) (by kernel_rfl)
theorem enK_126 : En PPK 126 p126 := enter_prim (by rfl) (by kernel_rfl)
theorem enK_103 : En PPK 103 p103 := enter_prim (by rfl) (by kernel_rfl)
theorem enK_104 : En PPK 104 p104 := enter_prim (by rfl) (by kernel_rfl)
theorem enK_105 : En PPK 105 p105 := enter_prim (by rfl) (by kernel_rfl)
theorem enK_99 : En PPK 99 p99 := enter_prim (by rfl) (by kernel_rfl)
theorem enK_226 : En PPK 226 p226 := enter_prim (by rfl) (by kernel_rfl)
theorem enK_134 : En PPK 134 p134 := enter_prim (by rfl) (by kernel_rfl)
theorem enK_177 : En PPK 177 p177 := enter_prim (by rfl) (by kernel_rfl)
theorem enK_180 : En PPK 180 p180 := enter_prim (by rfl) (by kernel_rfl)
theorem enK_98 : En PPK 98 p98 := enter_prim (by rfl) (by kernel_rfl)
theorem enK_181 : En PPK 181 p181 := enter_prim (by rfl) (by kernel_rfl)
theorem enK_183 : En PPK 183 p183 := enter_prim (by rfl) (by kernel_rfl)
theorem enK_110 : En PPK 110 p110 := enter_prim (by rfl) (by kernel_rfl)
theorem enK_112 : En PPK 112 p112 := enter_prim (by rfl) (by kernel_rfl)
theorem enK_113 : En PPK 113 p113 := enter_prim (by rfl) (by kernel_rfl)
theorem enK_29 : En PPK 29 p29 := enter_prim (by rfl) (by kernel_rfl)
theorem enK_100 : En PPK 100 p100 := enter_prim (by rfl) (by kernel_rfl)
attribute [go_sem ↓] enK_48 enK_121 enK_34 enK_111 enK_26 enK_178 enK_109 enK_108 enK_27 enK_97 enK_122 enK_182
attribute [go_sem ↓] enK_35 enK_115 enK_36 enK_120 enK_106 enK_179 enK_126 enK_103 enK_104 enK_105 enK_99 enK_226
attribute [go_sem ↓] enK_134 enK_177 enK_180 enK_98 enK_181 enK_183 enK_110 enK_112 enK_113 enK_29 enK_100
def addrK (l : Ln) (m : Int) : Nat → Int × Int
  | 0 => (0, 0)
  | k + 1 => match l.ps[k]? with
    | none => addrK l m k
    | some p => if !decide (m < begI l k) && decide (m < begI l (k + 1)) then ((k : Int), wrapq .i64 (Int.add p.post (wrapq .i64 (Int.mul (stepI p.back) (wrapq .i64 (Int.sub m (begI l k))))))) else addrK l m k
theorem c101 (n : Net) (s : List Nat) (m : Int) (hn : n.Ok) : ∀ lo H, CallOk NC lo 101 [.agg n.cells, .agg [.str s, i64 m]] H (.agg [.str s, i64 (addrK (lnOf n.lines s) m (lnOf n.lines s).ps.length).1, i64 (addrK (lnOf n.lines s) m (lnOf n.lines s).ps.length).2]) H := by
  refine contract saneNC primsK (fn := Tryz.f101) (by kernel_rfl) Tryz.func101 rfl rfl (by rfl) (by rfl) ?_
  have e98 := pe98 (n, s) hn.lines
  have hfit : (lnOf n.lines s).ps.length ≤ maxRows := lnOf_fits fun l hl => (hn.line l hl).2
  simp only [Net.cells, Ln.row, i64] at e98
  generalize lnOf n.lines s = l at e98 hfit ⊢
  generalize lnB n.lines s = B at e98
  have r := fun lo H => r176 (P := PPK) lo l H
  simp only [Ln.row] at r
  simp only [go_sem, reduceIte, Nat.reduceEqDiff, Nat.reduceAdd, Nat.reduceMul, Nat.reduceSub, Nat.reduceLeDiff, Nat.reduceLT, Nat.reduceBEq, reduceCtorEq, Net.cells, Ln.row, e98, en176 rfl (show PPK 176 = none from rfl), r, ofVal_v, ofVal_H]
  refine W_pieces (l := l) (c := 6) rfl hfit (Nat.zero_le _) (by simp only [go_sem, reduceIte, Nat.reduceEqDiff, Nat.reduceAdd, Nat.reduceMul, Nat.reduceSub, Nat.reduceLeDiff, Nat.reduceLT, Nat.reduceBEq, reduceCtorEq]) (by simp only [go_sem, reduceIte, Nat.reduceEqDiff, Nat.reduceAdd, Nat.reduceMul, Nat.reduceSub, Nat.reduceLeDiff, Nat.reduceLT, Nat.reduceBEq, reduceCtorEq]) (fun k i => match i with | 0 => .cells n.cells 40 | 1 => .cells [.str s, i64 m] 45 | 2 => .cells [.str [], i64 0, i64 0] 42 | 3 => .cells l.row 196 | 4 => .cells [.str s, i64 (addrK l m k).1, i64 (addrK l m k).2] 42 | 5 => .cells [i64 k] 3 | 6 => .cells l.row 196 | _ => .dead) (fun _ _ => False) ?_ (fun k => rfl) ?_ ?_ ?_
  · intro i hi
    simp only [go_sem, reduceIte, Nat.reduceEqDiff, Nat.reduceAdd, Nat.reduceMul, Nat.reduceSub, Nat.reduceLeDiff, Nat.reduceLT, Nat.reduceBEq, reduceCtorEq] at hi
    match i, hi with
    | 0, _ => simp only [go_sem, reduceIte, Nat.reduceEqDiff, Nat.reduceAdd, Nat.reduceMul, Nat.reduceSub, Nat.reduceLeDiff, Nat.reduceLT, Nat.reduceBEq, reduceCtorEq] <;> rfl
    | 1, _ => simp only [go_sem, reduceIte, Nat.reduceEqDiff, Nat.reduceAdd, Nat.reduceMul, Nat.reduceSub, Nat.reduceLeDiff, Nat.reduceLT, Nat.reduceBEq, reduceCtorEq] <;> rfl
    | 2, _ => simp only [go_sem, reduceIte, Nat.reduceEqDiff, Nat.reduceAdd, Nat.reduceMul, Nat.reduceSub, Nat.reduceLeDiff, Nat.reduceLT, Nat.reduceBEq, reduceCtorEq] <;> rfl
    | 3, _ => simp only [go_sem, reduceIte, Nat.reduceEqDiff, Nat.reduceAdd, Nat.reduceMul, Nat.reduceSub, Nat.reduceLeDiff, Nat.reduceLT, Nat.reduceBEq, reduceCtorEq] <;> rfl
    | 4, _ => simp only [go_sem, reduceIte, Nat.reduceEqDiff, Nat.reduceAdd, Nat.reduceMul, Nat.reduceSub, Nat.reduceLeDiff, Nat.reduceLT, Nat.reduceBEq, reduceCtorEq] <;> rfl
    | 5, _ => simp only [go_sem, reduceIte, Nat.reduceEqDiff, Nat.reduceAdd, Nat.reduceMul, Nat.reduceSub, Nat.reduceLeDiff, Nat.reduceLT, Nat.reduceBEq, reduceCtorEq] <;> rfl
    | 6, _ => simp only [go_sem, reduceIte, Nat.reduceEqDiff, Nat.reduceAdd, Nat.reduceMul, Nat.reduceSub, Nat.reduceLeDiff, Nat.reduceLT, Nat.reduceBEq, reduceCtorEq] <;> rfl
    | i + 7, hi => omega
  · intro k p Hk q hp hq hB
    simp only [go_sem, reduceIte, Nat.reduceEqDiff, Nat.reduceAdd, Nat.reduceMul, Nat.reduceSub, Nat.reduceLeDiff, Nat.reduceLT, Nat.reduceBEq, reduceCtorEq] at hq hB
    have h1 := hB 1 (by omega)
    have h4 := hB 4 (by omega)
    have h5 := hB 5 (by omega)
    have hbs := begI_succ hp
    have hw := wrap_succ (List.getElem?_eq_some_iff.1 hp).1 hfit
    obtain ⟨pl, pq, pb⟩ := p
    simp only at h1 h4 h5 hbs
    simp only [go_sem, reduceIte, Nat.reduceEqDiff, Nat.reduceAdd, Nat.reduceMul, Nat.reduceSub, Nat.reduceLeDiff, Nat.reduceLT, Nat.reduceBEq, reduceCtorEq, Pc.row, hq]
    refine ⟨fun j _ hj => by rw [if_neg (by omega), if_neg (by omega)], fun r => ?_⟩
    rcases Classical.propComplete (m < begI l k) with c1 | c1 <;> rcases Classical.propComplete (m < begI l (k + 1)) with c2 | c2 <;> simp only [go_sem, reduceIte, Nat.reduceEqDiff, Nat.reduceAdd, Nat.reduceMul, Nat.reduceSub, Nat.reduceLeDiff, Nat.reduceLT, Nat.reduceBEq, reduceCtorEq, hq, h1, h4, h5, ← hbs, e178, hw, c1, c2]
    all_goals
      refine ⟨by omega, fun j h3 hj hj2 => ?_, fun i hi => ?_⟩
      · repeat (rw [if_neg (by omega)])
      · match i, hi with
        | 0, _ => simp [hB 0 (by omega)]
        | 1, _ => simp [hB 1 (by omega)]
        | 2, _ => simp [hB 2 (by omega)]
        | 3, _ => simp [hB 3 (by omega)]
        | 4, _ => simp [h4, addrK, hp, c1, c2]
        | 5, _ => simp
        | 6, _ => simp [hB 6 (by omega)]
        | i + 7, hi => omega
  · intro H4 hB hd
    simp only [go_sem, reduceIte, Nat.reduceEqDiff, Nat.reduceAdd, Nat.reduceMul, Nat.reduceSub, Nat.reduceLeDiff, Nat.reduceLT, Nat.reduceBEq, reduceCtorEq] at hB hd
    have h4 := hB 4 (by omega)
    have h2 := hB 2 (by omega)
    simp only at h4 h2
    simp only [go_sem, reduceIte, Nat.reduceEqDiff, Nat.reduceAdd, Nat.reduceMul, Nat.reduceSub, Nat.reduceLeDiff, Nat.reduceLT, Nat.reduceBEq, reduceCtorEq, h2, h4, hd, shutMarks_cons]
  · intro e H3 H4 _ h
    exact h.elim
end Go.Sim

/-
The program: Placed; the calls that check first.
-/
namespace Go.Sim
open Go Go.Proofs
set_option maxRecDepth 100000
set_option maxHeartbeats 8000000
noncomputable def p101 : List AV → Option AV := primOf (α := Net × List Nat × Int) (fun x => [.agg x.1.cells, .agg [.str x.2.1, i64 x.2.2]]) (fun x => x.1.Ok) (fun x => .agg [.str x.2.1, i64 (addrK (lnOf x.1.lines x.2.1) x.2.2 (lnOf x.1.lines x.2.1).ps.length).1, i64 (addrK (lnOf x.1.lines x.2.1) x.2.2 (lnOf x.1.lines x.2.1).ps.length).2])
theorem pok101 : ∀ args v, p101 args = some v → ∀ lo H, CallOk NC lo 101 args H v H := by
  intro args v h
  obtain ⟨x, rfl, hp, rfl⟩ := primOf_inv h
  clear h
  revert x
  intro x hx; exact c101 x.1 x.2.1 x.2.2 hx
theorem pe101 (x : Net × List Nat × Int) (hp : (fun x => x.1.Ok) x) : p101 ((fun x => [.agg x.1.cells, .agg [.str x.2.1, i64 x.2.2]]) x) = some ((fun x => .agg [.str x.2.1, i64 (addrK (lnOf x.1.lines x.2.1) x.2.2 (lnOf x.1.lines x.2.1).ps.length).1, i64 (addrK (lnOf x.1.lines x.2.1) x.2.2 (lnOf x.1.lines x.2.1).ps.length).2]) x) := primOf_enc (by intro x y h; (obtain ⟨a, b, c⟩ := x; obtain ⟨d, e, f⟩ := y; simp only [List.cons.injEq, AV.agg.injEq, AV.str.injEq, AV.int.injEq, true_and, and_true] at h; obtain ⟨h1, rfl, rfl⟩ := h; rw [Net.cells_inj _ _ h1])) x hp
noncomputable def PPL : FuncId → Option (List AV → Option AV) := addPrim 101 p101 (PPK)
theorem primsL : PrimsOk NC PPL := primsOk_add (primsK) (by kernel_rfl) (by kernel_rfl) pok101
theorem enL_48 : En PPL 48 p48 := enter_prim (by rfl) (by kernel_rfl)
theorem enL_121 : En PPL 121 p121 := enter_prim (by rfl) (by kernel_rfl)
theorem enL_34 : En PPL 34 p34 := enter_prim (by rfl) (by kernel_rfl)
theorem enL_111 : En PPL 111 p111 := enter_prim (by rfl) (by kernel_rfl)
theorem enL_26 : En PPL 26 p26 := enter_prim (by rfl) (by kernel_rfl)
theorem enL_178 : En PPL 178 p178 := enter_prim (by rfl) (by kernel_rfl)
theorem enL_109 : En PPL 109 p109 := enter_prim (by rfl) (by kernel_rfl)
theorem enL_108 : En PPL 108 p108 := enter_prim (by rfl) (by kernel_rfl)
theorem enL_27 : En PPL 27 p27 := enter_prim (by rfl) (by kernel_rfl)
theorem enL_97 : En PPL 97 p97 := enter_prim (by rfl) (by kernel_rfl)
theorem enL_122 : En PPL 122 p122 := enter_prim (by rfl) (by kernel_rfl)
theorem enL_182 : En PPL 182 p182 := enter_prim (by rfl) (by kernel_rfl)
theorem enL_35 : En PPL 35 p35 := enter_prim (by rfl) (by kernel_rfl)
theorem enL_115 : En PPL 115 p115 := enter_prim (by rfl) (by kernel_rfl)
theorem enL_36 : En PPL 36 p36 := enter_prim (by rfl) (by kernel_rfl)
theorem enL_120 : En PPL 120 p120 := enter_prim (by rfl) (by kernel_rfl)
theorem enL_106 : En PPL 106 p106 := enter_prim (by rfl) (by kernel_rfl)
theorem enL_179 : En PPL 179 p179 := enter_prim (by rfl) (by kernel_rfl)
theorem enL_126 : En PPL 126 p126 := enter_prim (by rfl) (by kernel_rfl)
theorem enL_103 : En PPL 103 p103 := enter_prim (by rfl) (by kernel_rfl)
theorem enL_104 : En PPL 104 p104 := enter_prim (by rfl) (by kernel_rfl)
theorem enL_105 : En PPL 105 p105 := enter_prim (by rfl) (by kernel_rfl)
theorem enL_99 : En PPL 99 p99 := enter_prim (by rfl) (by kernel_rfl)
theorem enL_226 : En PPL 226 p226 := enter_prim (by rfl) (by kernel_rfl)
theorem enL_134 : En PPL 134 p134 := enter_prim (by rfl) (by kernel_rfl)
theorem enL_177 : En PPL 177 p177 := enter_prim (by rfl) (by kernel_rfl)
theorem enL_180 : En PPL 180 p180 := enter_prim (by rfl) (by kernel_rfl)
theorem enL_98 : En PPL 98 p98 := enter_prim (by rfl) (by kernel_rfl)
theorem enL_181 : En PPL 181 p181 := enter_prim (by rfl) (by kernel_rfl)
theorem enL_183 : En PPL 183 p183 := enter_prim (by rfl) (by kernel_rfl)
theorem enL_110 : En PPL 110 p110 := enter_prim (by rfl) (by kernel_rfl)
theorem enL_112 : En PPL 112 p112 := enter_prim (by rfl) (by kernel_rfl)
theorem enL_113 : En PPL 113 p113 := enter_prim (by rfl) (by kernel_rfl)
theorem enL_29 : En PPL 29 p29 := enter_prim (by rfl) (by kernel_rfl)
theorem enL_100 : En PPL 100 p100 := enter_prim (by rfl) (by kernel_rfl)
theorem enL_101 : En PPL 101 p101 := enter_prim (by rfl) (by kernel_rfl)
attribute [go_sem ↓] enL_48 enL_121 enL_34 enL_111 enL_26 enL_178 enL_109 enL_108 enL_27 enL_97 enL_122 enL_182
attribute [go_sem ↓] enL_35 enL_115 enL_36 enL_120 enL_106 enL_179 enL_126 enL_103 enL_104 enL_105 enL_99 enL_226
attribute [go_sem ↓] enL_134 enL_177 enL_180 enL_98 enL_181 enL_183 enL_110 enL_112 enL_113 enL_29 enL_100 enL_101
def noAddr : AV := .agg [.str [], i64 0, i64 0]
def noPlace : AV := .agg [.str [], i64 0]
theorem c20 (n : Net) (s : List Nat) (m : Int) (hn : n.Ok) : ∀ lo H, CallOk NC lo 20 [.agg n.cells, .agg [.str s, i64 m]] H (.tup (if netP n = 0 then (if placeP n s m = 0 then [.agg [.str s, i64 (addrK (lnOf n.lines s) m (lnOf n.lines s).ps.length).1, i64 (addrK (lnOf n.lines s) m (lnOf n.lines s).ps.length).2], i64 0] else [noAddr, i64 (placeP n s m)]) else [noAddr, i64 (netP n)])) H := by
  refine contract saneNC primsL (fn := Tryz.f20) (by kernel_rfl) Tryz.func20 rfl rfl (by rfl) (by split <;> (try split) <;> rfl) ?_
  have e29 := pe29 n hn
  have e100 := pe100 (n, s, m) hn
  have e101 := pe101 (n, s, m) hn
  simp only [Net.cells, i64] at e29 e100 e101
  generalize hE : netP n = E at e29 ⊢
  generalize hF : placeP n s m = F at e100 ⊢
  rcases Classical.propComplete (E = 0) with z | z <;> rcases Classical.propComplete (F = 0) with z2 | z2 <;> simp only [go_sem, reduceIte, Nat.reduceEqDiff, Nat.reduceAdd, Nat.reduceMul, Nat.reduceSub, Nat.reduceLeDiff, Nat.reduceLT, Nat.reduceBEq, reduceCtorEq, Net.cells, e29, e100, e101, z, z2, noAddr]
def hitB (l : Ln) (piece post : Int) (k : Nat) : Bool := match l.ps[k]? with
  | none => false
  | some p => metreB p post && decide ((k : Int) = piece)
def placedV (l : Ln) (s : List Nat) (piece post : Int) : List AV := match l.ps[piece.toNat]? with
  | none => [noPlace, i64 14]
  | some p => if metreB p post && decide (0 ≤ piece) then [.agg [.str s, i64 (wrapq .i64 (Int.add (begI l piece.toNat) (metreI p post)))], i64 0] else [noPlace, i64 14]
def placedP (n : Net) (s : List Nat) (piece post : Int) : List AV :=
  let e := firstI [whenI (!lnB n.lines s) 10, whenI (decide (piece < 0) || !decide (piece < ((lnOf n.lines s).ps.length : Nat))) 7]
  if e = 0 then (if rangeI post 0 9999999 = 0 then placedV (lnOf n.lines s) s piece post else [noPlace, i64 14]) else [noPlace, i64 e]
theorem placedV_hit {l : Ln} {s : List Nat} {piece post : Int} {k : Nat} {p : Pc} (hp : l.ps[k]? = some p) (hm : metreB p post = true) (hk : (k : Int) = piece) : placedV l s piece post = [.agg [.str s, i64 (wrapq .i64 (Int.add (begI l k) (metreI p post)))], i64 0] := by
  subst hk
  unfold placedV
  simp [hp, hm]
theorem placedV_none {l : Ln} {s : List Nat} {piece post : Int} (h : ∀ k, k < l.ps.length → hitB l piece post k = false) : placedV l s piece post = [noPlace, i64 14] := by
  unfold placedV
  cases hp : l.ps[piece.toNat]? with
  | none => rfl
  | some p =>
    by_cases h0 : 0 ≤ piece
    · have := h piece.toNat (List.getElem?_eq_some_iff.1 hp).1
      unfold hitB at this
      rw [hp] at this
      have e : ((piece.toNat : Nat) : Int) = piece := Int.toNat_of_nonneg h0
      simp only [e, decide_true, Bool.and_true] at this
      simp [this]
    · simp [h0]
theorem placedP_pure (n : Net) (s : List Nat) (piece post : Int) : (AV.tup (placedP n s piece post)).pure = true := by
  unfold placedP placedV
  simp only []
  split
  · split
    · split
      · rfl
      · split <;> rfl
    · rfl
  · rfl
theorem first2 (a b : Int) : firstI [a, b] = 0 → a = 0 ∧ b = 0 := by
  simp only [firstI]; split <;> (try split) <;> simp_all
theorem c102 (n : Net) (s : List Nat) (piece post : Int) (hn : n.Ok) : ∀ lo H, CallOk NC lo 102 [.agg n.cells, .agg [.str s, i64 piece, i64 post]] H (.tup (placedP n s piece post)) H := by
  refine contract saneNC primsL (fn := Tryz.f102) (by kernel_rfl) Tryz.func102 rfl rfl (by rfl) (placedP_pure ..) ?_
  have e98 := pe98 (n, s) hn.lines
  have hfit : (lnOf n.lines s).ps.length ≤ maxRows := lnOf_fits fun l hl => (hn.line l hl).2
  have hsp : placedP n s piece post = (let e := firstI [whenI (!lnB n.lines s) 10, whenI (decide (piece < 0) || !decide (piece < ((lnOf n.lines s).ps.length : Nat))) 7]
    if e = 0 then (if rangeI post 0 9999999 = 0 then placedV (lnOf n.lines s) s piece post else [noPlace, i64 14]) else [noPlace, i64 e]) := rfl
  simp only [Net.cells, Ln.row, i64] at e98
  rw [hsp]
  simp only []
  generalize lnOf n.lines s = l at e98 hfit ⊢
  generalize lnB n.lines s = B at e98 ⊢
  have r := fun lo H => r176 (P := PPL) lo l H
  simp only [Ln.row] at r
  generalize hE : firstI [whenI (!B) 10, whenI (decide (piece < 0) || !decide (piece < (l.ps.length : Nat))) 7] = E
  generalize hF : rangeI post 0 9999999 = F
  rcases Classical.propComplete (E = 0) with z | z
  case inr =>
    rcases Classical.propComplete (piece < 0) with c1 | c1 <;> rcases Classical.propComplete (piece < (l.ps.length : Nat)) with c2 | c2 <;> simp only [c1, c2, decide_true, decide_false, Bool.true_or, Bool.or_true, Bool.not_true, Bool.not_false, Bool.or_false, Bool.false_or] at hE <;> simp only [go_sem, reduceIte, Nat.reduceEqDiff, Nat.reduceAdd, Nat.reduceMul, Nat.reduceSub, Nat.reduceLeDiff, Nat.reduceLT, Nat.reduceBEq, reduceCtorEq, Net.cells, Ln.row, e98, e121, e111_2, List.length_map, c1, c2, hE, z, noPlace]
  rcases Classical.propComplete (F = 0) with z2 | z2
  case inr =>
    rcases Classical.propComplete (piece < 0) with c1 | c1 <;> rcases Classical.propComplete (piece < (l.ps.length : Nat)) with c2 | c2 <;> simp only [c1, c2, decide_true, decide_false, Bool.true_or, Bool.or_true, Bool.not_true, Bool.not_false, Bool.or_false, Bool.false_or] at hE <;> simp only [go_sem, reduceIte, Nat.reduceEqDiff, Nat.reduceAdd, Nat.reduceMul, Nat.reduceSub, Nat.reduceLeDiff, Nat.reduceLT, Nat.reduceBEq, reduceCtorEq, Net.cells, Ln.row, e98, e121, e111_2, e115, hF, List.length_map, c1, c2, hE, z, z2, noPlace]
  have h2 := first2 _ _ (hE.trans (of_eq_true z))
  have c1 : (piece < 0) = False := by
    rcases Classical.propComplete (piece < 0) with c1 | c1
    · have := h2.2; simp [c1, whenI] at this
    · exact c1
  have c2 : (piece < (l.ps.length : Nat)) = True := by
    rcases Classical.propComplete (piece < (l.ps.length : Nat)) with c2 | c2
    · exact c2
    · have := h2.2; simp [c2, whenI] at this
  have e134 : ∀ (a b : Int) (d : Bool), p134 [.agg [.int .i64 a, .int .i64 b, .bool d], .int .i64 post] = some (.tup [.int .i64 (metreI ⟨a, b, d⟩ post), .bool (metreB ⟨a, b, d⟩ post)]) := fun a b d => pe134 (⟨a, b, d⟩, post) trivial
  simp only [c1, c2, decide_true, decide_false, Bool.true_or, Bool.or_true, Bool.not_true, Bool.not_false, Bool.or_false, Bool.false_or] at hE
  simp only [go_sem, reduceIte, Nat.reduceEqDiff, Nat.reduceAdd, Nat.reduceMul, Nat.reduceSub, Nat.reduceLeDiff, Nat.reduceLT, Nat.reduceBEq, reduceCtorEq, Net.cells, Ln.row, e98, e121, e111_2, e115, hF, List.length_map, c1, c2, hE, z, z2, en176 rfl (show PPL 176 = none from rfl), r, ofVal_v, ofVal_H]
  refine W_piecesG (l := l) (c := 6) rfl hfit (Nat.zero_le _) (by simp only [go_sem, reduceIte, Nat.reduceEqDiff, Nat.reduceAdd, Nat.reduceMul, Nat.reduceSub, Nat.reduceLeDiff, Nat.reduceLT, Nat.reduceBEq, reduceCtorEq]) (by simp only [go_sem, reduceIte, Nat.reduceEqDiff, Nat.reduceAdd, Nat.reduceMul, Nat.reduceSub, Nat.reduceLeDiff, Nat.reduceLT, Nat.reduceBEq, reduceCtorEq]) (fun k => ∀ j, j < k → hitB l piece post j = false) (fun j hj => by omega) (fun k i => match i with | 0 => .cells n.cells 40 | 1 => .cells [.str s, i64 piece, i64 post] 42 | 2 => .cells [.str [], i64 0] 45 | 3 => .cells [i64 0] 33 | 4 => .cells l.row 196 | 5 => .cells [i64 k] 3 | 6 => .cells l.row 196 | _ => .dead)
    (fun e H3 => e = .ret ∧ ∃ (k : Nat) (p : Pc), l.ps[k]? = some p ∧ metreB p post = true ∧ (k : Int) = piece ∧ H3.get 2 = .cells [.str s, i64 (wrapq .i64 (Int.add (begI l k) (metreI p post)))] 45 ∧ H3.get 3 = .cells [i64 0] 33) ?_ (fun k => rfl) ?_ ?_ ?_
  · intro i hi
    simp only [go_sem, reduceIte, Nat.reduceEqDiff, Nat.reduceAdd, Nat.reduceMul, Nat.reduceSub, Nat.reduceLeDiff, Nat.reduceLT, Nat.reduceBEq, reduceCtorEq] at hi
    match i, hi with
    | 0, _ => simp only [go_sem, reduceIte, Nat.reduceEqDiff, Nat.reduceAdd, Nat.reduceMul, Nat.reduceSub, Nat.reduceLeDiff, Nat.reduceLT, Nat.reduceBEq, reduceCtorEq] <;> rfl
    | 1, _ => simp only [go_sem, reduceIte, Nat.reduceEqDiff, Nat.reduceAdd, Nat.reduceMul, Nat.reduceSub, Nat.reduceLeDiff, Nat.reduceLT, Nat.reduceBEq, reduceCtorEq] <;> rfl
    | 2, _ => simp only [go_sem, reduceIte, Nat.reduceEqDiff, Nat.reduceAdd, Nat.reduceMul, Nat.reduceSub, Nat.reduceLeDiff, Nat.reduceLT, Nat.reduceBEq, reduceCtorEq] <;> rfl
    | 3, _ => simp only [go_sem, reduceIte, Nat.reduceEqDiff, Nat.reduceAdd, Nat.reduceMul, Nat.reduceSub, Nat.reduceLeDiff, Nat.reduceLT, Nat.reduceBEq, reduceCtorEq] <;> rfl
    | 4, _ => simp only [go_sem, reduceIte, Nat.reduceEqDiff, Nat.reduceAdd, Nat.reduceMul, Nat.reduceSub, Nat.reduceLeDiff, Nat.reduceLT, Nat.reduceBEq, reduceCtorEq] <;> rfl
    | 5, _ => simp only [go_sem, reduceIte, Nat.reduceEqDiff, Nat.reduceAdd, Nat.reduceMul, Nat.reduceSub, Nat.reduceLeDiff, Nat.reduceLT, Nat.reduceBEq, reduceCtorEq] <;> rfl
    | 6, _ => simp only [go_sem, reduceIte, Nat.reduceEqDiff, Nat.reduceAdd, Nat.reduceMul, Nat.reduceSub, Nat.reduceLeDiff, Nat.reduceLT, Nat.reduceBEq, reduceCtorEq] <;> rfl
    | i + 7, hi => omega
  · intro k p Hk q hp hq hB hG
    simp only [go_sem, reduceIte, Nat.reduceEqDiff, Nat.reduceAdd, Nat.reduceMul, Nat.reduceSub, Nat.reduceLeDiff, Nat.reduceLT, Nat.reduceBEq, reduceCtorEq] at hq hB
    have h1 := hB 1 (by omega)
    have h2 := hB 2 (by omega)
    have h3 := hB 3 (by omega)
    have h5 := hB 5 (by omega)
    have hw := wrap_succ (List.getElem?_eq_some_iff.1 hp).1 hfit
    obtain ⟨pl, pq, pb⟩ := p
    simp only at h1 h2 h3 h5
    simp only [go_sem, reduceIte, Nat.reduceEqDiff, Nat.reduceAdd, Nat.reduceMul, Nat.reduceSub, Nat.reduceLeDiff, Nat.reduceLT, Nat.reduceBEq, reduceCtorEq, Pc.row, hq]
    refine ⟨fun j _ hj => by rw [if_neg (by omega), if_neg (by omega)], fun r => ?_⟩
    have hh : hitB l piece post k = (metreB ⟨pl, pq, pb⟩ post && decide ((k : Int) = piece)) := by unfold hitB; rw [hp]
    cases d1 : metreB ⟨pl, pq, pb⟩ post <;> rcases Classical.propComplete ((k : Int) = piece) with d2 | d2 <;> simp only [go_sem, reduceIte, Nat.reduceEqDiff, Nat.reduceAdd, Nat.reduceMul, Nat.reduceSub, Nat.reduceLeDiff, Nat.reduceLT, Nat.reduceBEq, reduceCtorEq, hq, h1, h2, h3, h5, e134, hw, d1, d2]
    case true.inl =>
      refine ⟨by omega, fun j h3 hj hj2 => by repeat (rw [if_neg (by omega)]), k, ⟨pl, pq, pb⟩, hp, d1, of_eq_true d2, ?_⟩
      simp
    all_goals
      refine ⟨by omega, fun j h3 hj hj2 => ?_, fun i hi => ?_, fun j hj => ?_⟩
      · repeat (rw [if_neg (by omega)])
      · match i, hi with
        | 0, _ => simp [hB 0 (by omega)]
        | 1, _ => simp [hB 1 (by omega)]
        | 2, _ => simp [hB 2 (by omega)]
        | 3, _ => simp [hB 3 (by omega)]
        | 4, _ => simp [hB 4 (by omega)]
        | 5, _ => simp
        | 6, _ => simp [hB 6 (by omega)]
        | i + 7, hi => omega
      · by_cases e : j = k
        · subst e; rw [hh]; simp [d1, d2]
        · exact hG j (by omega)
  · intro H4 hB hG hd
    simp only [go_sem, reduceIte, Nat.reduceEqDiff, Nat.reduceAdd, Nat.reduceMul, Nat.reduceSub, Nat.reduceLeDiff, Nat.reduceLT, Nat.reduceBEq, reduceCtorEq] at hB hd
    have h2 := hB 2 (by omega)
    have h3 := hB 3 (by omega)
    simp only at h2 h3
    simp only [go_sem, reduceIte, Nat.reduceEqDiff, Nat.reduceAdd, Nat.reduceMul, Nat.reduceSub, Nat.reduceLeDiff, Nat.reduceLT, Nat.reduceBEq, reduceCtorEq, h2, h3, hd, shutMarks_cons]
    rw [placedV_none hG]; simp [z, z2, noPlace]
  · rintro e H3 H4 _ ⟨rfl, k, p, hp, hm, hk, q2, q3⟩ hH hd
    simp only [go_sem, reduceIte, Nat.reduceEqDiff, Nat.reduceAdd, Nat.reduceMul, Nat.reduceSub, Nat.reduceLeDiff, Nat.reduceLT, Nat.reduceBEq, reduceCtorEq] at hH hd
    have h2 := (hH 2 (by omega)).trans q2
    have h3 := (hH 3 (by omega)).trans q3
    have h7 := (hH 7 (by omega)).trans hd
    simp only [go_sem, reduceIte, Nat.reduceEqDiff, Nat.reduceAdd, Nat.reduceMul, Nat.reduceSub, Nat.reduceLeDiff, Nat.reduceLT, Nat.reduceBEq, reduceCtorEq, h2, h3, h7, shutMarks_cons]
    rw [placedV_hit hp hm hk]; simp [z, z2]
noncomputable def p102 : List AV → Option AV := primOf (α := Net × List Nat × Int × Int) (fun x => [.agg x.1.cells, .agg [.str x.2.1, i64 x.2.2.1, i64 x.2.2.2]]) (fun x => x.1.Ok) (fun x => .tup (placedP x.1 x.2.1 x.2.2.1 x.2.2.2))
theorem pok102 : ∀ args v, p102 args = some v → ∀ lo H, CallOk NC lo 102 args H v H := by
  intro args v h
  obtain ⟨x, rfl, hp, rfl⟩ := primOf_inv h
  clear h
  revert x
  intro x hx; exact c102 x.1 x.2.1 x.2.2.1 x.2.2.2 hx
theorem pe102 (x : Net × List Nat × Int × Int) (hp : (fun x => x.1.Ok) x) : p102 ((fun x => [.agg x.1.cells, .agg [.str x.2.1, i64 x.2.2.1, i64 x.2.2.2]]) x) = some ((fun x => .tup (placedP x.1 x.2.1 x.2.2.1 x.2.2.2)) x) := primOf_enc (by intro x y h; (obtain ⟨a, b, c, d⟩ := x; obtain ⟨a', b', c', d'⟩ := y; simp only [List.cons.injEq, AV.agg.injEq, AV.str.injEq, AV.int.injEq, true_and, and_true] at h; obtain ⟨h1, rfl, rfl, rfl⟩ := h; rw [Net.cells_inj _ _ h1])) x hp
noncomputable def PPM : FuncId → Option (List AV → Option AV) := addPrim 102 p102 (PPL)
theorem primsM : PrimsOk NC PPM := primsOk_add (primsL) (by kernel_rfl) (by kernel_rfl) pok102
theorem enM_48 : En PPM 48 p48 := enter_prim (by rfl) (by kernel_rfl)
theorem enM_121 : En PPM 121 p121 := enter_prim (by rfl) (by kernel_rfl)
theorem enM_34 : En PPM 34 p34 := enter_prim (by rfl) (by kernel_rfl)
theorem enM_111 : En PPM 111 p111 := enter_prim (by rfl) (by kernel_rfl)
theorem enM_26 : En PPM 26 p26 := enter_prim (by rfl) (by kernel_rfl)
theorem enM_178 : En PPM 178 p178 := enter_prim (by rfl) (by kernel_rfl)
theorem enM_109 : En PPM 109 p109 := enter_prim (by rfl) (by kernel_rfl)
theorem enM_108 : En PPM 108 p108 := enter_prim (by rfl) (by kernel_rfl)
theorem enM_27 : En PPM 27 p27 := enter_prim (by rfl) (by kernel_rfl)
theorem enM_97 : En PPM 97 p97 := enter_prim (by rfl) (by kernel_rfl)
theorem enM_122 : En PPM 122 p122 := enter_prim (by rfl) (by kernel_rfl)
theorem enM_182 : En PPM 182 p182 := enter_prim (by rfl) (by kernel_rfl)
theorem enM_35 : En PPM 35 p35 := enter_prim (by rfl) (by kernel_rfl)
theorem enM_115 : En PPM 115 p115 := enter_prim (by rfl) (by kernel_rfl)
theorem enM_36 : En PPM 36 p36 := enter_prim (by rfl) (by kernel_rfl)
theorem enM_120 : En PPM 120 p120 := enter_prim (by rfl) (by kernel_rfl)
theorem enM_106 : En PPM 106 p106 := enter_prim (by rfl) (by kernel_rfl)
theorem enM_179 : En PPM 179 p179 := enter_prim (by rfl) (by kernel_rfl)
theorem enM_126 : En PPM 126 p126 := enter_prim (by rfl) (by kernel_rfl)
theorem enM_103 : En PPM 103 p103 := enter_prim (by rfl) (by kernel_rfl)
theorem enM_104 : En PPM 104 p104 := enter_prim (by rfl) (by kernel_rfl)
theorem enM_105 : En PPM 105 p105 := enter_prim (by rfl) (by kernel_rfl)
theorem enM_99 : En PPM 99 p99 := enter_prim (by rfl) (by kernel_rfl)
theorem enM_226 : En PPM 226 p226 := enter_prim (by rfl) (by kernel_rfl)
theorem enM_134 : En PPM 134 p134 := enter_prim (by rfl) (by kernel_rfl)
theorem enM_177 : En PPM 177 p177 := enter_prim (by rfl) (by kernel_rfl)
theorem enM_180 : En PPM 180 p180 := enter_prim (by rfl) (by kernel_rfl)
theorem enM_98 : En PPM 98 p98 := enter_prim (by rfl) (by kernel_rfl)
theorem enM_181 : En PPM 181 p181 := enter_prim (by rfl) (by kernel_rfl)
theorem enM_183 : En PPM 183 p183 := enter_prim (by rfl) (by kernel_rfl)
theorem enM_110 : En PPM 110 p110 := enter_prim (by rfl) (by kernel_rfl)
theorem enM_112 : En PPM 112 p112 := enter_prim (by rfl) (by kernel_rfl)
theorem enM_113 : En PPM 113 p113 := enter_prim (by rfl) (by kernel_rfl)
theorem enM_29 : En PPM 29 p29 := enter_prim (by rfl) (by kernel_rfl)
theorem enM_100 : En PPM 100 p100 := enter_prim (by rfl) (by kernel_rfl)
theorem enM_101 : En PPM 101 p101 := enter_prim (by rfl) (by kernel_rfl)
theorem enM_102 : En PPM 102 p102 := enter_prim (by rfl) (by kernel_rfl)
attribute [go_sem ↓] enM_48 enM_121 enM_34 enM_111 enM_26 enM_178 enM_109 enM_108 enM_27 enM_97 enM_122 enM_182
attribute [go_sem ↓] enM_35 enM_115 enM_36 enM_120 enM_106 enM_179 enM_126 enM_103 enM_104 enM_105 enM_99 enM_226
attribute [go_sem ↓] enM_134 enM_177 enM_180 enM_98 enM_181 enM_183 enM_110 enM_112 enM_113 enM_29 enM_100 enM_101
attribute [go_sem ↓] enM_102
theorem placedP_shape (n : Net) (s : List Nat) (piece post : Int) : ∃ s' m' e, placedP n s piece post = [.agg [.str s', .int .i64 m'], .int .i64 e] := by
  unfold placedP placedV
  simp only []
  split
  · split
    · split
      · exact ⟨_, _, _, rfl⟩
      · split <;> exact ⟨_, _, _, rfl⟩
    · exact ⟨_, _, _, rfl⟩
  · exact ⟨_, _, _, rfl⟩
theorem c21 (n : Net) (s : List Nat) (piece post : Int) (hn : n.Ok) : ∀ lo H, CallOk NC lo 21 [.agg n.cells, .agg [.str s, i64 piece, i64 post]] H (.tup (if netP n = 0 then placedP n s piece post else [noPlace, i64 (netP n)])) H := by
  refine contract saneNC primsM (fn := Tryz.f21) (by kernel_rfl) Tryz.func21 rfl rfl (by rfl) (by split; exact placedP_pure ..; rfl) ?_
  have e29 := pe29 n hn
  have e102 := pe102 (n, s, piece, post) hn
  obtain ⟨s', m', e, hpl⟩ := placedP_shape n s piece post
  simp only [Net.cells, i64, hpl] at e29 e102 ⊢
  generalize hE : netP n = E at e29 ⊢
  rcases Classical.propComplete (E = 0) with z | z <;> simp only [go_sem, reduceIte, Nat.reduceEqDiff, Nat.reduceAdd, Nat.reduceMul, Nat.reduceSub, Nat.reduceLeDiff, Nat.reduceLT, Nat.reduceBEq, reduceCtorEq, Net.cells, e29, e102, z, noPlace, hpl]
end Go.Sim

/-
The reference: Addressed, Placed.
-/
namespace Go.Sim
open Go Go.Proofs
set_option maxRecDepth 100000
set_option maxHeartbeats 8000000
def offI (p : Pc) (post : Int) : Int := if p.back then wrapq .i64 (Int.sub p.post post) else wrapq .i64 (Int.sub post p.post)
def metreOfI (l : Ln) (k : Nat) (post : Int) : Int := match l.ps[k]? with
  | none => 0
  | some p => if decide (offI p post < 0) || !decide (offI p post < p.len) then -1 else wrapq .i64 (Int.add (begI l k) (offI p post))
theorem c107 (l : Ln) (k : Nat) (post : Int) (hl : l.ps.length ≤ maxRows) (hk : k < l.ps.length) : ∀ lo H, CallOk NC lo 107 [.agg l.row, i64 k, i64 post] H (i64 (metreOfI l k post)) H := by
  refine contract saneNC primsM (fn := Tryz.f107) (by kernel_rfl) Tryz.func107 rfl rfl (by rfl) (by rfl) ?_
  obtain ⟨p, hp⟩ : ∃ p, l.ps[k]? = some p := ⟨l.ps[k], by simp⟩
  have hr := map_at (f := Pc.row) hp
  have e108 := pe108 (l, k) ⟨Nat.le_of_lt hk, hl⟩
  obtain ⟨pl, pq, pb⟩ := p
  simp only [Pc.row] at hr
  simp only [Ln.row, i64] at e108
  have hbeg : sumW (l.ps.take k) 0 = begI l k := rfl
  rw [hbeg] at e108
  cases pb with
  | true =>
    generalize hE : wrapq .i64 (Int.sub pq post) = E
    have hsp : metreOfI l k post = if decide (E < 0) || !decide (E < pl) then -1 else wrapq .i64 (Int.add (begI l k) E) := by
      unfold metreOfI offI; simp only [hp, hE, if_true]
    rcases Classical.propComplete (E < 0) with c1 | c1 <;> rcases Classical.propComplete (E < pl) with c2 | c2 <;> simp only [go_sem, reduceIte, Nat.reduceEqDiff, Nat.reduceAdd, Nat.reduceMul, Nat.reduceSub, Nat.reduceLeDiff, Nat.reduceLT, Nat.reduceBEq, reduceCtorEq, Ln.row, List.length_map, hk, hr, e108, hE, c1, c2] <;> simp [hsp, c1, c2] <;> rfl
  | false =>
    generalize hE : wrapq .i64 (Int.sub post pq) = E
    have hsp : metreOfI l k post = if decide (E < 0) || !decide (E < pl) then -1 else wrapq .i64 (Int.add (begI l k) E) := by
      unfold metreOfI offI; simp only [hp, hE, Bool.false_eq_true, if_false]
    rcases Classical.propComplete (E < 0) with c1 | c1 <;> rcases Classical.propComplete (E < pl) with c2 | c2 <;> simp only [go_sem, reduceIte, Nat.reduceEqDiff, Nat.reduceAdd, Nat.reduceMul, Nat.reduceSub, Nat.reduceLeDiff, Nat.reduceLT, Nat.reduceBEq, reduceCtorEq, Ln.row, List.length_map, hk, hr, e108, hE, c1, c2] <;> simp [hsp, c1, c2] <;> rfl
noncomputable def p107 : List AV → Option AV := primOf (α := Ln × Nat × Int) (fun x => [.agg x.1.row, i64 x.2.1, i64 x.2.2]) (fun x => x.1.ps.length ≤ maxRows ∧ x.2.1 < x.1.ps.length) (fun x => i64 (metreOfI x.1 x.2.1 x.2.2))
theorem pok107 : ∀ args v, p107 args = some v → ∀ lo H, CallOk NC lo 107 args H v H := by
  intro args v h
  obtain ⟨x, rfl, hp, rfl⟩ := primOf_inv h
  clear h
  revert x
  intro x hx; exact c107 x.1 x.2.1 x.2.2 hx.1 hx.2
theorem pe107 (x : Ln × Nat × Int) (hp : (fun x => x.1.ps.length ≤ maxRows ∧ x.2.1 < x.1.ps.length) x) : p107 ((fun x => [.agg x.1.row, i64 x.2.1, i64 x.2.2]) x) = some ((fun x => i64 (metreOfI x.1 x.2.1 x.2.2)) x) := primOf_enc (by intro x y h; (obtain ⟨a, b, c⟩ := x; obtain ⟨d, e, f⟩ := y; simp only [List.cons.injEq, AV.agg.injEq, AV.int.injEq, true_and, and_true] at h; obtain ⟨h1, h2, rfl⟩ := h; rw [Ln.row_inj _ _ h1, Int.ofNat.inj h2])) x hp
noncomputable def PPN : FuncId → Option (List AV → Option AV) := addPrim 107 p107 (PPM)
theorem primsN : PrimsOk NC PPN := primsOk_add (primsM) (by kernel_rfl) (by kernel_rfl) pok107
theorem enN_48 : En PPN 48 p48 := enter_prim (by rfl) (by kernel_rfl)
theorem enN_121 : En PPN 121 p121 := enter_prim (by rfl) (by kernel_rfl)
theorem enN_34 : En PPN 34 p34 := enter_prim (by rfl) (by kernel_rfl)
theorem enN_111 : En PPN 111 p111 := enter_prim (by rfl) (by kernel_rfl)
theorem enN_26 : En PPN 26 p26 := enter_prim (by rfl) (by kernel_rfl)
theorem enN_178 : En PPN 178 p178 := enter_prim (by rfl) (by kernel_rfl)
theorem enN_109 : En PPN 109 p109 := enter_prim (by rfl) (by kernel_rfl)
theorem enN_108 : En PPN 108 p108 := enter_prim (by rfl) (by kernel_rfl)
theorem enN_27 : En PPN 27 p27 := enter_prim (by rfl) (by kernel_rfl)
theorem enN_97 : En PPN 97 p97 := enter_prim (by rfl) (by kernel_rfl)
theorem enN_122 : En PPN 122 p122 := enter_prim (by rfl) (by kernel_rfl)
theorem enN_182 : En PPN 182 p182 := enter_prim (by rfl) (by kernel_rfl)
theorem enN_35 : En PPN 35 p35 := enter_prim (by rfl) (by kernel_rfl)
theorem enN_115 : En PPN 115 p115 := enter_prim (by rfl) (by kernel_rfl)
theorem enN_36 : En PPN 36 p36 := enter_prim (by rfl) (by kernel_rfl)
theorem enN_120 : En PPN 120 p120 := enter_prim (by rfl) (by kernel_rfl)
theorem enN_106 : En PPN 106 p106 := enter_prim (by rfl) (by kernel_rfl)
theorem enN_179 : En PPN 179 p179 := enter_prim (by rfl) (by kernel_rfl)
theorem enN_126 : En PPN 126 p126 := enter_prim (by rfl) (by kernel_rfl)
theorem enN_103 : En PPN 103 p103 := enter_prim (by rfl) (by kernel_rfl)
theorem enN_104 : En PPN 104 p104 := enter_prim (by rfl) (by kernel_rfl)
theorem enN_105 : En PPN 105 p105 := enter_prim (by rfl) (by kernel_rfl)
theorem enN_99 : En PPN 99 p99 := enter_prim (by rfl) (by kernel_rfl)
theorem enN_226 : En PPN 226 p226 := enter_prim (by rfl) (by kernel_rfl)
theorem enN_134 : En PPN 134 p134 := enter_prim (by rfl) (by kernel_rfl)
theorem enN_177 : En PPN 177 p177 := enter_prim (by rfl) (by kernel_rfl)
theorem enN_180 : En PPN 180 p180 := enter_prim (by rfl) (by kernel_rfl)
theorem enN_98 : En PPN 98 p98 := enter_prim (by rfl) (by kernel_rfl)
theorem enN_181 : En PPN 181 p181 := enter_prim (by rfl) (by kernel_rfl)
theorem enN_183 : En PPN 183 p183 := enter_prim (by rfl) (by kernel_rfl)
theorem enN_110 : En PPN 110 p110 := enter_prim (by rfl) (by kernel_rfl)
theorem enN_112 : En PPN 112 p112 := enter_prim (by rfl) (by kernel_rfl)
theorem enN_113 : En PPN 113 p113 := enter_prim (by rfl) (by kernel_rfl)
theorem enN_29 : En PPN 29 p29 := enter_prim (by rfl) (by kernel_rfl)
theorem enN_100 : En PPN 100 p100 := enter_prim (by rfl) (by kernel_rfl)
theorem enN_101 : En PPN 101 p101 := enter_prim (by rfl) (by kernel_rfl)
theorem enN_102 : En PPN 102 p102 := enter_prim (by rfl) (by kernel_rfl)
theorem enN_107 : En PPN 107 p107 := enter_prim (by rfl) (by kernel_rfl)
attribute [go_sem ↓] enN_48 enN_121 enN_34 enN_111 enN_26 enN_178 enN_109 enN_108 enN_27 enN_97 enN_122 enN_182
attribute [go_sem ↓] enN_35 enN_115 enN_36 enN_120 enN_106 enN_179 enN_126 enN_103 enN_104 enN_105 enN_99 enN_226
attribute [go_sem ↓] enN_134 enN_177 enN_180 enN_98 enN_181 enN_183 enN_110 enN_112 enN_113 enN_29 enN_100 enN_101
attribute [go_sem ↓] enN_102 enN_107
def inB (l : Ln) (m : Int) (k : Nat) : Bool := match l.ps[k]? with
  | none => false
  | some p => !decide (wrapq .i64 (Int.sub m (begI l k)) < 0) && decide (wrapq .i64 (Int.sub m (begI l k)) < p.len)
def addrR (l : Ln) (s : List Nat) (m : Int) : AV := match (List.range l.ps.length).find? (inB l m) with
  | none => noAddr
  | some k => match l.ps[k]? with
    | none => noAddr
    | some p => .agg [.str s, i64 k, i64 (postI p (wrapq .i64 (Int.sub m (begI l k))))]
theorem find_range {f : Nat → Bool} {n k : Nat} (hk : k < n) (h0 : ∀ j, j < k → f j = false) (h : f k = true) : (List.range n).find? f = some k := by
  rw [List.find?_eq_some_iff_getElem]
  refine ⟨h, k, by simpa using hk, by simp, fun j hj => ?_⟩
  simp [h0 j hj]
theorem find_range_none {f : Nat → Bool} {n : Nat} (h0 : ∀ j, j < n → f j = false) : (List.range n).find? f = none := by
  rw [List.find?_eq_none]
  intro j hj
  simp [h0 j (by simpa using hj)]
theorem c28 (n : Net) (s : List Nat) (m : Int) (hn : n.fits) {i : Nat} (hf : findL n.lines s = some i) : ∀ lo H, CallOk NC lo 28 [.agg n.cells, .agg [.str s, i64 m]] H (addrR (lnOf n.lines s) s m) H := by
  obtain ⟨l, hl, hlt, hmem⟩ := findL_at hf
  have hlo : lnOf n.lines s = l := by unfold lnOf; rw [hf]; simp [hl]
  rw [hlo]
  have hpv : (addrR l s m).pure = true := by
    unfold addrR
    split
    · rfl
    · split <;> rfl
  refine contract saneNC primsN (fn := Tryz.f28) (by kernel_rfl) Tryz.func28 rfl rfl (by rfl) hpv ?_
  have e27 := pe27 (n, s) hn.1
  have hfit := hn.2 l hmem
  have hr := map_at (f := Ln.row) hl
  simp only [Net.cells, i64, findI, hf] at e27
  simp only [Ln.row] at hr
  simp only [go_sem, reduceIte, Nat.reduceEqDiff, Nat.reduceAdd, Nat.reduceMul, Nat.reduceSub, Nat.reduceLeDiff, Nat.reduceLT, Nat.reduceBEq, reduceCtorEq, Net.cells, e27, List.length_map, hlt, hr]
  refine W_for (fun k T H M => M = [] ∧ getT T 3 = .ptr 1 0 ∧ getT T 4 = .ptr 2 0 ∧ getT T 5 = .ptr 3 0 ∧ getT T 6 = i64 k ∧ H.get 1 = .cells [.str s, i64 m] 28 ∧ H.get 2 = .cells [.str [], i64 0, i64 0] 30 ∧ H.get 3 = .cells l.row 56 ∧ ∀ j, j < k → inB l m j = false) l.ps.length ?_ ?_ ?_
  · simp only [go_sem, reduceIte, Nat.reduceEqDiff, Nat.reduceAdd, Nat.reduceMul, Nat.reduceSub, Nat.reduceLeDiff, Nat.reduceLT, Nat.reduceBEq, reduceCtorEq, Ln.row]; exact fun j hj => by omega
  · rintro k T H M hk ⟨rfl, g3, g4, g5, g6, h1, h2, h3, hno⟩
    obtain ⟨p, hp⟩ : ∃ p, l.ps[k]? = some p := ⟨l.ps[k], by simp⟩
    have hpr := map_at (f := Pc.row) hp
    have hw := wrap_succ hk hfit
    have e108 := pe108 (l, k) ⟨Nat.le_of_lt hk, hfit⟩
    obtain ⟨pl, pq, pb⟩ := p
    simp only [Pc.row] at hpr
    simp only [Ln.row, i64] at e108
    have hbeg : sumW (l.ps.take k) 0 = begI l k := rfl
    rw [hbeg] at e108
    generalize hE : wrapq .i64 (Int.sub m (begI l k)) = E
    have hin : inB l m k = (!decide (E < 0) && decide (E < pl)) := by unfold inB; simp only [hp, hE]
    rcases Classical.propComplete (E < 0) with c1 | c1 <;> rcases Classical.propComplete (E < pl) with c2 | c2 <;> simp only [go_sem, reduceIte, Nat.reduceEqDiff, Nat.reduceAdd, Nat.reduceMul, Nat.reduceSub, Nat.reduceLeDiff, Nat.reduceLT, Nat.reduceBEq, reduceCtorEq, Ln.row, g3, g4, g5, g6, h1, h2, h3, List.length_map, hk, hpr, hw, e108, hE, e109, c1, c2]
    case inr.inl =>
      unfold addrR
      rw [find_range hk hno (by rw [hin]; simp [c1, c2])]
      simp only [hp, hE]
    all_goals
      intro j hj
      by_cases e : j = k
      · subst e; rw [hin]; simp [c1, c2]
      · exact hno j (by omega)
  · rintro T H M ⟨rfl, g3, g4, g5, g6, h1, h2, h3, hno⟩
    simp only [go_sem, reduceIte, Nat.reduceEqDiff, Nat.reduceAdd, Nat.reduceMul, Nat.reduceSub, Nat.reduceLeDiff, Nat.reduceLT, Nat.reduceBEq, reduceCtorEq, Ln.row, g3, g4, g5, g6, h1, h2, h3, List.length_map, Nat.lt_irrefl]
    unfold addrR
    rw [find_range_none hno]; rfl
def placedR (n : Net) (s : List Nat) (piece post : Int) : List AV := match findL n.lines s with
  | none => [noPlace, i64 10]
  | some _ =>
    if piece < 0 ∨ ¬ piece < ((lnOf n.lines s).ps.length : Nat) then [noPlace, i64 7]
    else if post < 0 ∨ 9999999 < post ∨ metreOfI (lnOf n.lines s) piece.toNat post < 0 then [noPlace, i64 14]
    else [.agg [.str s, i64 (metreOfI (lnOf n.lines s) piece.toNat post)], i64 0]
theorem placedR_pure (n : Net) (s : List Nat) (piece post : Int) : (AV.tup (placedR n s piece post)).pure = true := by
  unfold placedR
  split
  · rfl
  · split
    · rfl
    · split <;> rfl
theorem c25 (n : Net) (s : List Nat) (piece post : Int) (hn : n.fits) : ∀ lo H, CallOk NC lo 25 [.agg n.cells, .agg [.str s, i64 piece, i64 post]] H (.tup (placedR n s piece post)) H := by
  refine contract saneNC primsN (fn := Tryz.f25) (by kernel_rfl) Tryz.func25 rfl rfl (by rfl) (placedR_pure ..) ?_
  have e27 := pe27 (n, s) hn.1
  cases hf : findL n.lines s with
  | none =>
    simp only [Net.cells, i64, findI, hf] at e27
    simp only [go_sem, reduceIte, Nat.reduceEqDiff, Nat.reduceAdd, Nat.reduceMul, Nat.reduceSub, Nat.reduceLeDiff, Nat.reduceLT, Nat.reduceBEq, reduceCtorEq, Net.cells, e27, neg_one]
    simp [placedR, hf, noPlace]
  | some i =>
    obtain ⟨l, hl, hlt, hmem⟩ := findL_at hf
    have hlo : lnOf n.lines s = l := by unfold lnOf; rw [hf]; simp [hl]
    have hfit := hn.2 l hmem
    have hr := map_at (f := Ln.row) hl
    simp only [Net.cells, i64, findI, hf] at e27
    simp only [Ln.row] at hr
    rcases Classical.propComplete (piece < 0) with c1 | c1
    · simp only [go_sem, reduceIte, Nat.reduceEqDiff, Nat.reduceAdd, Nat.reduceMul, Nat.reduceSub, Nat.reduceLeDiff, Nat.reduceLT, Nat.reduceBEq, reduceCtorEq, Net.cells, e27, neg_cast, List.length_map, hlt, hr, c1]
      simp [placedR, hf, hlo, c1, noPlace]
    obtain ⟨k, rfl⟩ : ∃ k : Nat, piece = k := ⟨piece.toNat, by have := of_eq_false c1; omega⟩
    by_cases c2 : k < l.ps.length
    case neg =>
      simp only [go_sem, reduceIte, Nat.reduceEqDiff, Nat.reduceAdd, Nat.reduceMul, Nat.reduceSub, Nat.reduceLeDiff, Nat.reduceLT, Nat.reduceBEq, reduceCtorEq, Net.cells, Ln.row, e27, neg_cast, List.length_map, hlt, hr, c2]
      simp [placedR, hf, hlo, c2, noPlace]
    have e107 := pe107 (l, k, post) ⟨hfit, c2⟩
    simp only [Ln.row, i64] at e107
    generalize hE : metreOfI l k post = E at e107
    rcases Classical.propComplete (post < 0) with c3 | c3 <;> rcases Classical.propComplete (9999999 < post) with c4 | c4 <;> rcases Classical.propComplete (E < 0) with c5 | c5 <;> simp only [go_sem, reduceIte, Nat.reduceEqDiff, Nat.reduceAdd, Nat.reduceMul, Nat.reduceSub, Nat.reduceLeDiff, Nat.reduceLT, Nat.reduceBEq, reduceCtorEq, Net.cells, Ln.row, e27, neg_cast, List.length_map, hlt, hr, c2, c3, c4, e107, c5] <;> simp [placedR, hf, hlo, c2, c3, c4, c5, hE, noPlace]
end Go.Sim

/-
The plain law: the program's errors are the reference's.
-/
namespace Go.Sim
open Go
theorem whenI_true (e : Int) : whenI true e = e := rfl
theorem whenI_false (e : Int) : whenI false e = 0 := rfl
theorem firstI_cons (e : Int) (r : List Int) : firstI (e :: r) = if e = 0 then firstI r else e := rfl
theorem firstI_nil : firstI [] = 0 := rfl
theorem beqL_iff : ∀ (a b : List Nat), beqL a b = true ↔ a = b
  | [], [] => by simp [beqL]
  | [], _ :: _ => by simp [beqL]
  | _ :: _, [] => by simp [beqL]
  | a :: x, b :: y => by
    unfold beqL
    by_cases h : a = b
    · subst h
      have : Nat.beq a a = true := Nat.beq_refl a
      rw [this]
      simp [beqL_iff x y]
    · have : Nat.beq a b = false := by
        cases hb : Nat.beq a b with
        | false => rfl
        | true => exact absurd (Nat.eq_of_beq_eq_true hb) h
      rw [this]
      simp [h]
theorem rangeI_zero {n a b : Int} (h : rangeI n a b = 0) : a ≤ n ∧ n ≤ b := by
  unfold rangeI whenI at h
  by_cases h1 : n < a
  · simp [h1] at h
  · by_cases h2 : b < n
    · simp [h2] at h
    · omega
theorem wrap_small {x : Int} (h : -1000000000 ≤ x) (h2 : x ≤ 1000000000) : wrapq .i64 x = x := wrapq_i64 (by omega) (by omega)
theorem last_post {p : Pc} (h1 : 1 ≤ p.len ∧ p.len ≤ 100000) (h2 : 0 ≤ p.post ∧ p.post ≤ 9999999) : lastI p = postI p (wrapq .i64 (Int.sub p.len 1)) := by
  unfold lastI postI stepI
  have e0 : Int.sub p.len 1 = p.len - 1 := rfl
  rw [e0, wrap_small (x := p.len - 1) (by omega) (by omega)]
  cases p.back with
  | true =>
    simp only [if_true]
    have e1 : Int.mul (-1) (p.len - 1) = -(p.len - 1) := by show (-1) * (p.len - 1) = _; omega
    rw [e1, wrap_small (x := -(p.len - 1)) (by omega) (by omega)]
    have e2 : Int.add p.post (-(p.len - 1)) = p.post - (p.len - 1) := by show p.post + -(p.len - 1) = _; omega
    rw [e2]
  | false =>
    simp only [Bool.false_eq_true, if_false]
    have e1 : Int.mul 1 (p.len - 1) = p.len - 1 := by show 1 * (p.len - 1) = _; omega
    rw [e1, wrap_small (x := p.len - 1) (by omega) (by omega)]
    rfl
theorem piece_same (p : Pc) : pieceP p = pieceR p := by
  unfold pieceP pieceR
  simp only [firstI_cons, firstI_nil]
  by_cases h1 : rangeI p.len 1 100000 = 0
  · by_cases h2 : rangeI p.post 0 9999999 = 0
    · have a := rangeI_zero h1
      have b := rangeI_zero h2
      have hl := last_post a b
      simp only [h1, h2, if_true, hl]
      split
      · rename_i h; rw [h]
      · rfl
    · simp [h1, h2]
  · simp [h1]
theorem dup_iff {ls : List Ln} {i : Nat} {l : Ln} (h : ls[i]? = some l) : decide (findI ls l.name < i) = dupP ((ls.take i).map Ln.name) l.name := by
  unfold dupP
  cases hd : ((ls.take i).map Ln.name).any (beqL l.name) with
  | true =>
    rw [List.any_eq_true] at hd
    obtain ⟨x, hx, hb⟩ := hd
    obtain ⟨y, hy, rfl⟩ := List.mem_map.1 hx
    obtain ⟨j, hj⟩ := List.mem_iff_getElem?.1 hy
    rw [List.getElem?_take] at hj
    split at hj
    · rename_i hji
      have he := (beqL_iff _ _).1 hb
      unfold findI findL
      cases hf : ls.findIdx? (fun l' => beqL l'.name l.name) with
      | none => simp only [decide_eq_true_eq]; omega
      | some k =>
        simp only [decide_eq_true_eq]
        rw [List.findIdx?_eq_some_iff_getElem] at hf
        obtain ⟨hk, _, hmin⟩ := hf
        have : k ≤ j := by
          rcases Nat.lt_or_ge j k with h' | h'
          · have := hmin j h'
            have hjl : ls[j]? = some y := hj
            rw [(List.getElem?_eq_some_iff.1 hjl).2] at this
            have h2 : beqL y.name l.name = true := (beqL_iff _ _).2 he.symm
            simp [h2] at this
          · exact h'
        omega
    · cases hj
  | false =>
    rw [List.any_eq_false] at hd
    have hno : ∀ j l', j < i → ls[j]? = some l' → beqL l'.name l.name = false := by
      intro j l' hj hl'
      have hm : l'.name ∈ (ls.take i).map Ln.name := List.mem_map.2 ⟨l', List.mem_of_getElem? (i := j) (by rw [List.getElem?_take_of_lt hj]; exact hl'), rfl⟩
      have := hd _ hm
      cases hb : beqL l'.name l.name with
      | false => rfl
      | true =>
        have he := (beqL_iff _ _).1 hb
        rw [he] at this
        exact absurd ((beqL_iff _ _).2 rfl) (by simpa using this)
    have := findL_drop hno h ((beqL_iff _ _).2 rfl)
    unfold findI
    rw [this]
    simp
theorem line_same (n : Net) (i : Nat) : lineP n.lines i = lineR n i := by
  unfold lineP lineR
  cases h : n.lines[i]? with
  | none => rfl
  | some l =>
    simp only []
    rw [← dup_iff h]
    have : l.ps.map pieceP = l.ps.map pieceR := List.map_congr_left fun p _ => piece_same p
    rw [this]
theorem allR_congr {f g : Nat → Int} {n : Nat} (h : ∀ i, f i = g i) : allR f n = allR g n := by
  have : f = g := funext h
  rw [this]
theorem dupB_same {α : Type} (nm : α → List Nat) (l : List α) (i : Nat) (s : List Nat) : dupP ((l.take i).map nm) s = dupB nm l i s := by
  unfold dupP dupB
  rw [List.any_map]
  congr 1
  funext x
  simp only [Function.comp]
  rw [Bool.eq_iff_iff, beqL_iff, beqL_iff]
  exact eq_comm
theorem findI_neg (ls : List Ln) (s : List Nat) : decide (findI ls s < 0) = !lnB ls s := by
  unfold findI lnB
  cases findL ls s <;> simp
theorem has_same (ls : List Ln) (s : List Nat) (m : Int) (r : List Int) : firstI (whenI (!lnB ls s) 10 :: whenI (!hasB (lnOf ls s) m) 14 :: r) = firstI (hasI ls s m :: r) := by
  unfold hasI lnB lnOf
  cases hf : findL ls s with
  | none => simp [firstI, whenI]
  | some i =>
    obtain ⟨l, hl, _⟩ := findL_at hf
    simp only [hl, Option.isSome_some, Bool.not_true, whenI_false, firstI_cons, if_true, List.getD_eq_getElem?_getD, Option.getD_some]
    have : (!hasB l m) = (decide (m < 0) || !decide (m < sumW l.ps 0)) := by
      unfold hasB
      by_cases h1 : m < 0 <;> by_cases h2 : m < sumW l.ps 0 <;> simp [h1, h2]
    rw [this]
theorem switch_same (n : Net) (i : Nat) : switchP n i = switchR n i := by
  unfold switchP switchR
  cases h : n.sws[i]? with
  | none => rfl
  | some s =>
    simp only []
    rw [dupB_same]
    cases hn : nameB s.name with
    | false => simp [firstI, whenI]
    | true =>
      simp only [Bool.not_true, whenI_false, if_true]
      rw [firstI_cons, if_pos rfl]
      cases hd : dupB Sw.name n.sws i s.name with
      | true => simp [firstI, whenI]
      | false =>
        simp only [whenI_false, Bool.false_eq_true, if_false]
        rw [firstI_cons, if_pos rfl, has_same, findI_neg]
theorem metres_same (ls : List Ln) (s : List Nat) (fr till : Int) : firstI [whenI (!lnB ls s) 10, whenI (spanB (lnOf ls s) fr till) 14] = metresI ls s fr till := by
  unfold metresI lnB lnOf
  cases hf : findL ls s with
  | none => simp [firstI, whenI]
  | some i =>
    obtain ⟨l, hl, _⟩ := findL_at hf
    simp only [hl, Option.isSome_some, Bool.not_true, whenI_false, firstI_cons, firstI_nil, if_true, List.getD_eq_getElem?_getD, Option.getD_some]
    have : spanB l fr till = (decide (fr < 0) || !decide (fr < till) || decide (sumW l.ps 0 < till)) := by
      unfold spanB hasB
      by_cases h1 : fr < 0
      · simp [h1]
      · by_cases h2 : fr < till
        · by_cases h3 : sumW l.ps 0 < till
          · simp [h3]
          · have h4 : fr < sumW l.ps 0 := by omega
            simp [h1, h2, h3, h4]
        · simp [h2]
    rw [this]
    split
    · rename_i h; exact h.symm
    · rfl
theorem struct_same (n : Net) (i : Nat) : structP n i = structR n i := by
  unfold structP structR
  cases h : n.sts[i]? with
  | none => rfl
  | some s =>
    simp only []
    rw [dupB_same]
    cases hn : nameB s.name with
    | false => simp [firstI, whenI]
    | true =>
      simp only [Bool.not_true, whenI_false, if_true]
      rw [firstI_cons, if_pos rfl]
      cases hd : dupB Stc.name n.sts i s.name with
      | true => simp [firstI, whenI]
      | false =>
        simp only [whenI_false, Bool.false_eq_true, if_false]
        rw [firstI_cons, if_pos rfl]
        cases hk : nameB s.kind with
        | false => simp [firstI, whenI]
        | true =>
          simp only [Bool.not_true, whenI_false, decide_true]
          show firstI [whenI (!lnB n.lines s.line) 10, whenI (spanB (lnOf n.lines s.line) s.fr s.till) 14] = firstI [metresI n.lines s.line s.fr s.till]
          rw [metres_same]
          simp only [firstI_cons, firstI_nil]
          split
          · rename_i h; exact h
          · rfl
theorem net_same (n : Net) : netP n = netR n := by
  unfold netP netR linesP switchesP structsP
  rw [allR_congr (line_same n), allR_congr (switch_same n), allR_congr (struct_same n)]
  by_cases h1 : (8 : Int) < n.lines.length
  · simp [h1]
  · simp only [h1, if_false]
    split
    · simp only [firstI_cons, firstI_nil]
      by_cases h2 : (8 : Int) < n.sws.length
      · simp [h2]
      · simp only [h2, if_false]
        split
        · by_cases h3 : (16 : Int) < n.sts.length
          · simp [h3]
          · simp only [h3, if_false]
            split
            · rename_i h; exact h.symm
            · rfl
        · rfl
    · rfl
theorem place_same (n : Net) (s : List Nat) (m : Int) : placeP n s m = hasI n.lines s m := by
  unfold placeP
  rw [has_same]
  simp only [firstI_cons, firstI_nil]
  split
  · rename_i h; exact h.symm
  · rfl
end Go.Sim

/-
The plain law: addresses and places of valid networks.
-/
namespace Go.Sim
open Go
theorem firstI_zero : ∀ {es : List Int}, firstI es = 0 → ∀ e ∈ es, e = 0
  | [], _, e, he => by simp at he
  | a :: r, h, e, he => by
    rw [firstI_cons] at h
    by_cases ha : a = 0
    · rw [if_pos ha] at h
      rcases List.mem_cons.1 he with rfl | he
      · exact ha
      · exact firstI_zero h e he
    · rw [if_neg ha] at h; exact absurd h ha
theorem allR_zero {f : Nat → Int} {n : Nat} (h : allR f n = 0) {i : Nat} (hi : i < n) : f i = 0 :=
  firstI_zero h _ (List.mem_map.2 ⟨i, by simpa using hi, rfl⟩)
structure Ln.Good (l : Ln) : Prop where
  few : l.ps.length ≤ 8
  piece : ∀ p ∈ l.ps, 1 ≤ p.len ∧ p.len ≤ 100000 ∧ 0 ≤ p.post ∧ p.post ≤ 9999999
theorem netR_lines {n : Net} (h : netR n = 0) : allR (lineR n) n.lines.length = 0 := by
  unfold netR at h
  by_cases h1 : (8 : Int) < n.lines.length
  · simp [h1] at h
  · simp only [h1, if_false] at h
    split at h
    · rename_i h2; exact h2
    · exact h
theorem line_good {n : Net} (h : netR n = 0) {i : Nat} {l : Ln} (hl : n.lines[i]? = some l) : l.Good := by
  have hz := allR_zero (netR_lines h) (List.getElem?_eq_some_iff.1 hl).1
  unfold lineR at hz
  simp only [hl] at hz
  split at hz
  · rename_i he
    have hm := firstI_zero he
    have hp := firstI_zero hz
    refine ⟨?_, fun p hpm => ?_⟩
    · have := hm (whenI (decide ((8 : Int) < l.ps.length)) 5) (by simp)
      by_cases h8 : (8 : Int) < l.ps.length
      · simp [h8, whenI] at this
      · omega
    · have := hp (pieceR p) (List.mem_map.2 ⟨p, hpm, rfl⟩)
      unfold pieceR at this
      simp only [] at this
      split at this
      · rename_i h2
        have h3 := firstI_zero h2
        have a := rangeI_zero (h3 (rangeI p.len 1 100000) (by simp))
        have b := rangeI_zero (h3 (rangeI p.post 0 9999999) (by simp))
        exact ⟨a.1, a.2, b.1, b.2⟩
      · rename_i h2; exact absurd this h2
  · rename_i he; exact absurd hz he
variable {l : Ln}
theorem beg_bound (hg : l.Good) : ∀ k, k ≤ l.ps.length → 0 ≤ begI l k ∧ begI l k ≤ 100000 * (k : Int)
  | 0, _ => by simp [begI, sumW]
  | k + 1, hk => by
    have ih := beg_bound hg k (by omega)
    obtain ⟨p, hp⟩ : ∃ p, l.ps[k]? = some p := ⟨l.ps[k], by simp⟩
    have hgp := hg.piece p (List.mem_of_getElem? hp)
    rw [begI_succ hp]
    have h8 := hg.few
    have e : Int.add (begI l k) p.len = begI l k + p.len := rfl
    rw [e, wrap_small (by omega) (by omega)]
    push_cast
    omega
theorem beg_step (hg : l.Good) {k : Nat} {p : Pc} (hp : l.ps[k]? = some p) : begI l (k + 1) = begI l k + p.len := by
  have hk := (List.getElem?_eq_some_iff.1 hp).1
  have ih := beg_bound hg k (by omega)
  have hgp := hg.piece p (List.mem_of_getElem? hp)
  have h8 := hg.few
  rw [begI_succ hp]
  have e : Int.add (begI l k) p.len = begI l k + p.len := rfl
  rw [e, wrap_small (by omega) (by omega)]
theorem beg_mono (hg : l.Good) {j : Nat} : ∀ {k : Nat}, j ≤ k → k ≤ l.ps.length → begI l j ≤ begI l k
  | 0, hj, _ => by have : j = 0 := by omega
                   rw [this]; exact Int.le_refl _
  | k + 1, hj, hk => by
    by_cases e : j = k + 1
    · rw [e]; exact Int.le_refl _
    · have ih := beg_mono hg (j := j) (k := k) (by omega) (by omega)
      obtain ⟨p, hp⟩ : ∃ p, l.ps[k]? = some p := ⟨l.ps[k], by simp⟩
      have hgp := hg.piece p (List.mem_of_getElem? hp)
      have := beg_step hg hp
      omega
theorem addrK_at (hg : l.Good) {m : Int} (hm : 0 ≤ m) : ∀ n, n ≤ l.ps.length → (begI l n ≤ m → addrK l m n = (0, 0)) ∧
    (m < begI l n → ∃ k p, k < n ∧ l.ps[k]? = some p ∧ begI l k ≤ m ∧ m < begI l (k + 1) ∧ addrK l m n = ((k : Int), wrapq .i64 (Int.add p.post (wrapq .i64 (Int.mul (stepI p.back) (wrapq .i64 (Int.sub m (begI l k))))))))
  | 0, _ => ⟨fun _ => rfl, fun h => by have := (beg_bound hg 0 (by omega)).2; simp [begI, sumW] at h; omega⟩
  | n + 1, hn => by
    obtain ⟨h1, h2⟩ := addrK_at hg hm n (by omega)
    obtain ⟨p, hp⟩ : ∃ p, l.ps[n]? = some p := ⟨l.ps[n], by simp⟩
    have hstep := beg_step hg hp
    have hgp := hg.piece p (List.mem_of_getElem? hp)
    have hu : addrK l m (n + 1) = if !decide (m < begI l n) && decide (m < begI l (n + 1)) then ((n : Int), wrapq .i64 (Int.add p.post (wrapq .i64 (Int.mul (stepI p.back) (wrapq .i64 (Int.sub m (begI l n))))))) else addrK l m n := by
      show (match l.ps[n]? with | none => _ | some p => _) = _
      rw [hp]
    rw [hu]
    by_cases c1 : m < begI l n
    · refine ⟨fun h => by omega, fun _ => ?_⟩
      obtain ⟨k, p', a, b, c, d, e⟩ := h2 c1
      refine ⟨k, p', by omega, b, c, d, ?_⟩
      simp only [c1, decide_true, Bool.not_true, Bool.false_and, Bool.false_eq_true, if_false]
      exact e
    · by_cases c2 : m < begI l (n + 1)
      · refine ⟨fun h => by omega, fun _ => ⟨n, p, by omega, hp, by omega, c2, ?_⟩⟩
        simp [c1, c2]
      · refine ⟨fun _ => ?_, fun h => absurd h c2⟩
        simp only [c2, decide_false, Bool.and_false, Bool.false_eq_true, if_false]
        exact h1 (by omega)
theorem post_same {p : Pc} {x : Int} (h1 : 0 ≤ x ∧ x ≤ 100000) : wrapq .i64 (Int.add p.post (wrapq .i64 (Int.mul (stepI p.back) (wrapq .i64 x)))) = postI p (wrapq .i64 x) := by
  rw [wrap_small (x := x) (by omega) (by omega)]
  unfold postI stepI
  cases p.back with
  | true =>
    simp only [if_true]
    have e1 : Int.mul (-1) x = -x := by show (-1) * x = _; omega
    rw [e1, wrap_small (x := -x) (by omega) (by omega)]
    have e2 : Int.add p.post (-x) = p.post - x := by show p.post + -x = _; omega
    rw [e2]
  | false =>
    simp only [Bool.false_eq_true, if_false]
    have e1 : Int.mul 1 x = x := by show 1 * x = _; omega
    rw [e1, wrap_small (x := x) (by omega) (by omega)]
    rfl
theorem addr_same (hg : l.Good) (s : List Nat) {m : Int} (h0 : 0 ≤ m) (h1 : m < sumW l.ps 0) : AV.agg [.str s, i64 (addrK l m l.ps.length).1, i64 (addrK l m l.ps.length).2] = addrR l s m := by
  rw [← begI_all] at h1
  obtain ⟨k, p, hk, hp, c1, c2, he⟩ := (addrK_at hg h0 l.ps.length (Nat.le_refl _)).2 h1
  have hgp := hg.piece p (List.mem_of_getElem? hp)
  have hstep := beg_step hg hp
  have h8 := hg.few
  have hb := beg_bound hg k (by omega)
  have inb : ∀ j, j < l.ps.length → inB l m j = (decide (begI l j ≤ m) && decide (m < begI l (j + 1))) := by
    intro j hj
    obtain ⟨q, hq⟩ : ∃ q, l.ps[j]? = some q := ⟨l.ps[j], by simp⟩
    have hbj := beg_bound hg j (by omega)
    have hsj := beg_step hg hq
    have htop := beg_bound hg l.ps.length (Nat.le_refl _)
    unfold inB
    simp only [hq]
    have e : Int.sub m (begI l j) = m - begI l j := rfl
    rw [e, wrap_small (by omega) (by omega), hsj]
    by_cases d1 : begI l j ≤ m
    · by_cases d2 : m < begI l j + q.len
      · have e1 : ¬ (m - begI l j < 0) := by omega
        have e2 : m - begI l j < q.len := by omega
        simp [d1, d2, e1, e2]
      · have e2 : ¬ (m - begI l j < q.len) := by omega
        simp [d2, e2]
    · have e1 : m - begI l j < 0 := by omega
      simp [d1, e1]
  have hfind : (List.range l.ps.length).find? (inB l m) = some k := by
    refine find_range hk (fun j hj => ?_) ?_
    · rw [inb j (by omega)]
      have := beg_mono hg (j := j + 1) (k := k) (by omega) (by omega)
      have : ¬ (m < begI l (j + 1)) := by omega
      simp [this]
    · rw [inb k hk]; simp [c1, c2]
  unfold addrR
  rw [hfind, he]
  simp only [hp]
  have e : Int.sub m (begI l k) = m - begI l k := rfl
  rw [e, post_same (p := p) (x := m - begI l k) (by omega)]
theorem off_same {p : Pc} {post : Int} (h1 : 0 ≤ p.post ∧ p.post ≤ 9999999) (h2 : 0 ≤ post ∧ post ≤ 9999999) : metreI p post = offI p post := by
  unfold metreI offI stepI
  have e : Int.sub post p.post = post - p.post := rfl
  have e' : Int.sub p.post post = p.post - post := rfl
  rw [e, e', wrap_small (x := post - p.post) (by omega) (by omega)]
  cases p.back with
  | true =>
    simp only [if_true]
    have e1 : Int.mul (post - p.post) (-1) = p.post - post := by show (post - p.post) * (-1) = _; omega
    rw [e1]
  | false =>
    simp only [Bool.false_eq_true, if_false]
    have e1 : Int.mul (post - p.post) 1 = post - p.post := by show (post - p.post) * 1 = _; omega
    rw [e1, wrap_small (x := post - p.post) (by omega) (by omega)]
theorem placed_same {n : Net} (h : netR n = 0) (s : List Nat) (piece post : Int) : placedP n s piece post = placedR n s piece post := by
  unfold placedP placedR
  cases hf : findL n.lines s with
  | none =>
    have : lnB n.lines s = false := by unfold lnB; rw [hf]; rfl
    simp [this, firstI, whenI]
  | some i =>
    obtain ⟨l, hl, _⟩ := findL_at hf
    have hg := line_good h hl
    have hb : lnB n.lines s = true := by unfold lnB; rw [hf]; rfl
    have hlo : lnOf n.lines s = l := by unfold lnOf; rw [hf]; simp [hl]
    simp only [hb, hlo, Bool.not_true, whenI_false]
    rw [firstI_cons, if_pos rfl, firstI_cons, firstI_nil]
    by_cases c1 : piece < 0
    · simp [c1, whenI]
    · by_cases c2 : piece < (l.ps.length : Nat)
      · simp only [c1, c2, decide_false, decide_true, Bool.not_true, Bool.or_self, whenI_false, if_true, not_true_eq_false, or_self, if_false]
        by_cases c3 : post < 0
        · have : rangeI post 0 9999999 ≠ 0 := by unfold rangeI; simp [c3, whenI]
          simp [this, c3]
        · by_cases c4 : 9999999 < post
          · have : rangeI post 0 9999999 ≠ 0 := by unfold rangeI; simp [c4, whenI]
            simp [this, c4]
          · have hr : rangeI post 0 9999999 = 0 := by unfold rangeI; simp [c3, c4, whenI]
            simp only [hr, if_true, c3, c4, false_or]
            obtain ⟨p, hp⟩ : ∃ p, l.ps[piece.toNat]? = some p := ⟨l.ps[piece.toNat]'(by omega), by simp⟩
            have hgp := hg.piece p (List.mem_of_getElem? hp)
            have hoff := off_same (p := p) (post := post) ⟨hgp.2.2.1, hgp.2.2.2⟩ ⟨by omega, by omega⟩
            have hbb := beg_bound hg piece.toNat (by omega)
            have h8 := hg.few
            unfold placedV metreOfI metreB
            simp only [hp, hoff]
            by_cases d1 : offI p post < 0
            · simp [d1]
            · by_cases d2 : offI p post < p.len
              · have h0 : 0 ≤ piece := by omega
                have e : Int.add (begI l piece.toNat) (offI p post) = begI l piece.toNat + offI p post := rfl
                have hnn : ¬ (wrapq .i64 (Int.add (begI l piece.toNat) (offI p post)) < 0) := by
                  rw [e, wrap_small (by omega) (by omega)]; omega
                have hnn' : 0 ≤ wrapq .i64 (begI l piece.toNat + offI p post) := by rw [wrap_small (by omega) (by omega)]; omega
                simp [d1, d2, h0, hnn, hnn']
              · simp [d2]
      · simp [c2, whenI]
end Go.Sim

/-
Maps: data; the small functions, of the program and of the reference.
-/
namespace Go.Sim
open Go Go.Proofs
set_option maxRecDepth 100000
set_option maxHeartbeats 4000000
structure Mv where
  line : List Nat
  fr : Int
  len : Int
  other : List Nat
  to : Int
  turned : Bool
def Mv.row (x : Mv) : List AV := [.str x.line, i64 x.fr, i64 x.len, .str x.other, i64 x.to, .bool x.turned]
theorem Mv.row_inj (a b : Mv) (h : a.row = b.row) : a = b := by
  cases a; cases b; simp [Mv.row] at h; obtain ⟨rfl, rfl, rfl, rfl, rfl, rfl⟩ := h; rfl
theorem Mv.row_len (p : Mv) : p.row.length = 6 := rfl
theorem Net.cells_iff (a b : Net) : a.cells = b.cells ↔ a = b := ⟨Net.cells_inj a b, fun h => by rw [h]⟩
theorem Ln.row_iff (a b : Ln) : a.row = b.row ↔ a = b := ⟨Ln.row_inj a b, fun h => by rw [h]⟩
theorem Pc.row_iff (a b : Pc) : a.row = b.row ↔ a = b := ⟨Pc.row_inj a b, fun h => by rw [h]⟩
theorem Mv.row_iff (a b : Mv) : a.row = b.row ↔ a = b := ⟨Mv.row_inj a b, fun h => by rw [h]⟩
theorem lns_iff (a b : List Ln) : a.map Ln.row = b.map Ln.row ↔ a = b := ⟨fun h => map_inj Ln.row_inj h, fun h => by rw [h]⟩
theorem pcs_iff (a b : List Pc) : a.map Pc.row = b.map Pc.row ↔ a = b := ⟨fun h => map_inj Pc.row_inj h, fun h => by rw [h]⟩
theorem mvs_iff (a b : List Mv) : a.map Mv.row = b.map Mv.row ↔ a = b := ⟨fun h => map_inj Mv.row_inj h, fun h => by rw [h]⟩
structure MapOk (m : List Mv) : Prop where
  few : m.length ≤ maxRows
  word : ∀ x ∈ m, x.line.length ≤ maxRows ∧ x.other.length ≤ maxRows
noncomputable def PPF193 : FuncId → Option (List AV → Option AV) := addPrim 182 p182 (fun _ => none)
theorem primsF193 : PrimsOk NC PPF193 := primsOk_add (primsOk_none) (by kernel_rfl) (by kernel_rfl) pok182
theorem enF193_182 : En PPF193 182 p182 := enter_prim (by rfl) (by kernel_rfl)
attribute [go_sem ↓] enF193_182
theorem c193 (s : List Nat) (hp : s.length ≤ maxRows) : ∀ lo H, CallOk NC lo 193 [.str s] H (.bool (nameB s)) H := by
  refine contract saneNC primsF193 (fn := Tryz.f193) (by kernel_rfl) Tryz.func193 rfl rfl (by rfl) (by first | rfl | (split <;> first | rfl | (split <;> rfl))) ?_
  simp only [go_sem, reduceIte, Nat.reduceEqDiff, Nat.reduceAdd, Nat.reduceMul, Nat.reduceSub, Nat.reduceLeDiff, Nat.reduceLT, Nat.reduceBEq, reduceCtorEq, e182 s hp]
noncomputable def p193 : List AV → Option AV := primOf (α := (List Nat)) (fun x => [.str x]) (fun x => x.length ≤ maxRows) (fun x => .bool (nameB x))
theorem pok193 : ∀ args v, p193 args = some v → ∀ lo H, CallOk NC lo 193 args H v H := by
  intro args v h
  obtain ⟨x, rfl, hp, rfl⟩ := primOf_inv h
  exact c193 x hp
theorem pe193 (s : List Nat) (hp : s.length ≤ maxRows) : p193 [.str s] = some (.bool (nameB s)) := primOf_enc (α := (List Nat)) (enc := fun x => [.str x]) (pre := fun x => x.length ≤ maxRows) (spec := fun x => .bool (nameB x)) (by intro x y h; (simp only [List.cons.injEq, AV.agg.injEq, AV.str.injEq, AV.int.injEq, AV.ps.injEq, AV.bool.injEq, Net.cells_iff, Ln.row_iff, Pc.row_iff, Mv.row_iff, lns_iff, pcs_iff, mvs_iff, true_and, and_true] at h; first | simpa only [Prod.ext_iff] using h | simpa only [Prod.ext_iff, and_assoc] using h)) s hp
def endI (x : Mv) : Int := wrapq .i64 (Int.add x.fr x.len)
noncomputable def PPF128 : FuncId → Option (List AV → Option AV) := fun _ => none
theorem primsF128 : PrimsOk NC PPF128 := primsOk_none
theorem c128 (x : Mv) : ∀ lo H, CallOk NC lo 128 [.agg x.row] H (i64 (endI x)) H := by
  refine contract saneNC primsF128 (fn := Tryz.f128) (by kernel_rfl) Tryz.func128 rfl rfl (by rfl) (by first | rfl | (split <;> first | rfl | (split <;> rfl))) ?_
  obtain ⟨a, b, c, d, e, f⟩ := x
  simp only [go_sem, reduceIte, Nat.reduceEqDiff, Nat.reduceAdd, Nat.reduceMul, Nat.reduceSub, Nat.reduceLeDiff, Nat.reduceLT, Nat.reduceBEq, reduceCtorEq, Mv.row]
  rfl
noncomputable def p128 : List AV → Option AV := primOf (α := (Mv)) (fun x => [.agg x.row]) (fun x => True) (fun x => i64 (endI x))
theorem pok128 : ∀ args v, p128 args = some v → ∀ lo H, CallOk NC lo 128 args H v H := by
  intro args v h
  obtain ⟨x, rfl, hp, rfl⟩ := primOf_inv h
  exact c128 x
theorem pe128 (x : Mv) : p128 [.agg x.row] = some (.int .i64 (endI x)) := primOf_enc (α := (Mv)) (enc := fun x => [.agg x.row]) (pre := fun x => True) (spec := fun x => i64 (endI x)) (by intro x y h; (simp only [List.cons.injEq, AV.agg.injEq, AV.str.injEq, AV.int.injEq, AV.ps.injEq, AV.bool.injEq, Net.cells_iff, Ln.row_iff, Pc.row_iff, Mv.row_iff, lns_iff, pcs_iff, mvs_iff, true_and, and_true] at h; first | simpa only [Prod.ext_iff] using h | simpa only [Prod.ext_iff, and_assoc] using h)) x trivial
def atI (x : Mv) (k : Int) : Int := if x.turned then wrapq .i64 (Int.sub (wrapq .i64 (Int.sub (wrapq .i64 (Int.add x.to x.len)) 1)) (wrapq .i64 (Int.sub k x.fr))) else wrapq .i64 (Int.sub (wrapq .i64 (Int.add x.to k)) x.fr)
noncomputable def PPF192 : FuncId → Option (List AV → Option AV) := fun _ => none
theorem primsF192 : PrimsOk NC PPF192 := primsOk_none
theorem c192 (x : Mv) (k : Int) : ∀ lo H, CallOk NC lo 192 [.agg x.row, i64 k] H (i64 (atI x k)) H := by
  refine contract saneNC primsF192 (fn := Tryz.f192) (by kernel_rfl) Tryz.func192 rfl rfl (by rfl) (by first | rfl | (split <;> first | rfl | (split <;> rfl))) ?_
  obtain ⟨a, b, c, d, e, f⟩ := x
  cases f <;> simp only [go_sem, reduceIte, Nat.reduceEqDiff, Nat.reduceAdd, Nat.reduceMul, Nat.reduceSub, Nat.reduceLeDiff, Nat.reduceLT, Nat.reduceBEq, reduceCtorEq, Mv.row] <;> simp [atI]
noncomputable def p192 : List AV → Option AV := primOf (α := (Mv) × (Int)) (fun x => [.agg x.1.row, i64 x.2]) (fun x => True) (fun x => i64 (atI x.1 x.2))
theorem pok192 : ∀ args v, p192 args = some v → ∀ lo H, CallOk NC lo 192 args H v H := by
  intro args v h
  obtain ⟨x, rfl, hp, rfl⟩ := primOf_inv h
  exact c192 x.1 x.2
theorem pe192 (x : Mv) (k : Int) : p192 [.agg x.row, .int .i64 k] = some (.int .i64 (atI x k)) := primOf_enc (α := (Mv) × (Int)) (enc := fun x => [.agg x.1.row, i64 x.2]) (pre := fun x => True) (spec := fun x => i64 (atI x.1 x.2)) (by intro x y h; (simp only [List.cons.injEq, AV.agg.injEq, AV.str.injEq, AV.int.injEq, AV.ps.injEq, AV.bool.injEq, Net.cells_iff, Ln.row_iff, Pc.row_iff, Mv.row_iff, lns_iff, pcs_iff, mvs_iff, true_and, and_true] at h; first | simpa only [Prod.ext_iff] using h | simpa only [Prod.ext_iff, and_assoc] using h)) (x, k) trivial
def overB (a b : Mv) : Bool := beqL a.other b.other && decide (a.to < wrapq .i64 (Int.add b.to b.len)) && decide (b.to < wrapq .i64 (Int.add a.to a.len))
noncomputable def PPF125 : FuncId → Option (List AV → Option AV) := fun _ => none
theorem primsF125 : PrimsOk NC PPF125 := primsOk_none
theorem c125 (x y : Mv) : ∀ lo H, CallOk NC lo 125 [.agg x.row, .agg y.row] H (.bool (overB x y)) H := by
  refine contract saneNC primsF125 (fn := Tryz.f125) (by kernel_rfl) Tryz.func125 rfl rfl (by rfl) (by first | rfl | (split <;> first | rfl | (split <;> rfl))) ?_
  obtain ⟨a, b, c, d, e, f⟩ := x
  obtain ⟨a', b', c', d', e', f'⟩ := y
  simp only [go_sem, reduceIte, Nat.reduceEqDiff, Nat.reduceAdd, Nat.reduceMul, Nat.reduceSub, Nat.reduceLeDiff, Nat.reduceLT, Nat.reduceBEq, reduceCtorEq, Mv.row]
  repeat' (first
    | (refine branch_cases (fun hc => ?_) (fun hc => ?_) <;> (try simp only [decide_eq_true_eq, decide_eq_false_iff_not, Bool.not_eq_true', Bool.not_eq_false', Bool.and_eq_true, Bool.or_eq_false_iff] at hc) <;> (try simp only [go_sem, reduceIte, Nat.reduceEqDiff, Nat.reduceAdd, Nat.reduceMul, Nat.reduceSub, Nat.reduceLeDiff, Nat.reduceLT, Nat.reduceBEq, reduceCtorEq, *]))
    | (refine guardT_cases (fun hc => ?_) (fun hc => ?_) <;> (try simp only [decide_eq_true_eq, decide_eq_false_iff_not, Bool.not_eq_true', Bool.not_eq_false', Bool.and_eq_true, Bool.or_eq_false_iff] at hc) <;> (try simp only [go_sem, reduceIte, Nat.reduceEqDiff, Nat.reduceAdd, Nat.reduceMul, Nat.reduceSub, Nat.reduceLeDiff, Nat.reduceLT, Nat.reduceBEq, reduceCtorEq, *]))
    | (refine guardF_cases (fun hc => ?_) (fun hc => ?_) <;> (try simp only [decide_eq_true_eq, decide_eq_false_iff_not, Bool.not_eq_true', Bool.not_eq_false', Bool.and_eq_true, Bool.or_eq_false_iff] at hc) <;> (try simp only [go_sem, reduceIte, Nat.reduceEqDiff, Nat.reduceAdd, Nat.reduceMul, Nat.reduceSub, Nat.reduceLeDiff, Nat.reduceLT, Nat.reduceBEq, reduceCtorEq, *]))
    | (refine pick_cases (fun hc => ?_) (fun hc => ?_) <;> (try simp only [decide_eq_true_eq, decide_eq_false_iff_not, Bool.not_eq_true', Bool.not_eq_false', Bool.and_eq_true, Bool.or_eq_false_iff] at hc) <;> (try simp only [go_sem, reduceIte, Nat.reduceEqDiff, Nat.reduceAdd, Nat.reduceMul, Nat.reduceSub, Nat.reduceLeDiff, Nat.reduceLT, Nat.reduceBEq, reduceCtorEq, *])))
  all_goals simp only [go_sem, reduceIte, Nat.reduceEqDiff, Nat.reduceAdd, Nat.reduceMul, Nat.reduceSub, Nat.reduceLeDiff, Nat.reduceLT, Nat.reduceBEq, reduceCtorEq, overB, *]
noncomputable def p125 : List AV → Option AV := primOf (α := (Mv) × (Mv)) (fun x => [.agg x.1.row, .agg x.2.row]) (fun x => True) (fun x => .bool (overB x.1 x.2))
theorem pok125 : ∀ args v, p125 args = some v → ∀ lo H, CallOk NC lo 125 args H v H := by
  intro args v h
  obtain ⟨x, rfl, hp, rfl⟩ := primOf_inv h
  exact c125 x.1 x.2
theorem pe125 (x y : Mv) : p125 [.agg x.row, .agg y.row] = some (.bool (overB x y)) := primOf_enc (α := (Mv) × (Mv)) (enc := fun x => [.agg x.1.row, .agg x.2.row]) (pre := fun x => True) (spec := fun x => .bool (overB x.1 x.2)) (by intro x y h; (simp only [List.cons.injEq, AV.agg.injEq, AV.str.injEq, AV.int.injEq, AV.ps.injEq, AV.bool.injEq, Net.cells_iff, Ln.row_iff, Pc.row_iff, Mv.row_iff, lns_iff, pcs_iff, mvs_iff, true_and, and_true] at h; first | simpa only [Prod.ext_iff] using h | simpa only [Prod.ext_iff, and_assoc] using h)) (x, y) trivial
def pointI (s : List Nat) (k : Int) : Int := firstI [whenI (!nameB s) 8, rangeI k 0 800000]
noncomputable def PPF46 : FuncId → Option (List AV → Option AV) := addPrim 34 p34 (addPrim 35 p35 (addPrim 36 p36 (fun _ => none)))
theorem primsF46 : PrimsOk NC PPF46 := primsOk_add (primsOk_add (primsOk_add (primsOk_none) (by kernel_rfl) (by kernel_rfl) pok36) (by kernel_rfl) (by kernel_rfl) pok35) (by kernel_rfl) (by kernel_rfl) pok34
theorem enF46_36 : En PPF46 36 p36 := enter_prim (by rfl) (by kernel_rfl)
theorem enF46_35 : En PPF46 35 p35 := enter_prim (by rfl) (by kernel_rfl)
theorem enF46_34 : En PPF46 34 p34 := enter_prim (by rfl) (by kernel_rfl)
attribute [go_sem ↓] enF46_36 enF46_35 enF46_34
theorem c46 (s : List Nat) (k : Int) : ∀ lo H, CallOk NC lo 46 [.agg [.str s, i64 k]] H (i64 (pointI s k)) H := by
  refine contract saneNC primsF46 (fn := Tryz.f46) (by kernel_rfl) Tryz.func46 rfl rfl (by rfl) (by first | rfl | (split <;> first | rfl | (split <;> rfl))) ?_
  have h1 := e36 s
  have h2 := e35 k 0 800000
  simp only [go_sem, reduceIte, Nat.reduceEqDiff, Nat.reduceAdd, Nat.reduceMul, Nat.reduceSub, Nat.reduceLeDiff, Nat.reduceLT, Nat.reduceBEq, reduceCtorEq, h1, h2, e34_2]
  rfl
noncomputable def p46 : List AV → Option AV := primOf (α := (List Nat) × (Int)) (fun x => [.agg [.str x.1, i64 x.2]]) (fun x => True) (fun x => i64 (pointI x.1 x.2))
theorem pok46 : ∀ args v, p46 args = some v → ∀ lo H, CallOk NC lo 46 args H v H := by
  intro args v h
  obtain ⟨x, rfl, hp, rfl⟩ := primOf_inv h
  exact c46 x.1 x.2
theorem pe46 (s : List Nat) (k : Int) : p46 [.agg [.str s, .int .i64 k]] = some (.int .i64 (pointI s k)) := primOf_enc (α := (List Nat) × (Int)) (enc := fun x => [.agg [.str x.1, i64 x.2]]) (pre := fun x => True) (spec := fun x => i64 (pointI x.1 x.2)) (by intro x y h; (simp only [List.cons.injEq, AV.agg.injEq, AV.str.injEq, AV.int.injEq, AV.ps.injEq, AV.bool.injEq, Net.cells_iff, Ln.row_iff, Pc.row_iff, Mv.row_iff, lns_iff, pcs_iff, mvs_iff, true_and, and_true] at h; first | simpa only [Prod.ext_iff] using h | simpa only [Prod.ext_iff, and_assoc] using h)) (s, k) trivial
end Go.Sim

/-
The law: what it takes for short.
-/
namespace Go.Sim
open Go Go.Proofs
set_option maxRecDepth 100000
set_option maxHeartbeats 8000000
def shortLn (l : Ln) : Bool := shortB l.name && !decide ((9 : Int) < l.ps.length)
def shortSw (s : Sw) : Bool := shortB s.name && shortB s.line && shortB s.other
def shortSt (s : Stc) : Bool := shortB s.name && shortB s.kind && shortB s.line
def shortN (n : Net) : Bool := !(decide ((9 : Int) < n.lines.length) || decide ((9 : Int) < n.sws.length) || decide ((17 : Int) < n.sts.length)) && n.lines.all shortLn && n.sws.all shortSw && n.sts.all shortSt
theorem all_false {α : Type} {f : α → Bool} {l : List α} {k : Nat} {x : α} (h : l[k]? = some x) (hf : f x = false) : l.all f = false := by
  rw [List.all_eq_false]; exact ⟨x, List.mem_of_getElem? h, by simp [hf]⟩
theorem all_true {α : Type} {f : α → Bool} {l : List α} (h : ∀ (j : Nat) x, j < l.length → l[j]? = some x → f x = true) : l.all f = true := by
  rw [List.all_eq_true]
  intro x hx
  obtain ⟨j, hj⟩ := List.mem_iff_getElem?.1 hx
  exact h j x (List.getElem?_eq_some_iff.1 hj).1 hj
theorem c17 (n : Net) : ∀ lo H, CallOk NC lo 17 [.agg n.cells] H (.bool (shortN n)) H := by
  refine contract saneNC primsN (fn := Tryz.f17) (by kernel_rfl) Tryz.func17 rfl rfl (by rfl) (by rfl) ?_
  rcases Classical.propComplete ((9 : Int) < n.lines.length) with q1 | q1
  · simp only [go_sem, reduceIte, Nat.reduceEqDiff, Nat.reduceAdd, Nat.reduceMul, Nat.reduceSub, Nat.reduceLeDiff, Nat.reduceLT, Nat.reduceBEq, reduceCtorEq, Net.cells, List.length_map, q1]
    simp [shortN, q1]
  rcases Classical.propComplete ((9 : Int) < n.sws.length) with q2 | q2
  · simp only [go_sem, reduceIte, Nat.reduceEqDiff, Nat.reduceAdd, Nat.reduceMul, Nat.reduceSub, Nat.reduceLeDiff, Nat.reduceLT, Nat.reduceBEq, reduceCtorEq, Net.cells, List.length_map, q1, q2]
    simp [shortN, q1, q2]
  rcases Classical.propComplete ((17 : Int) < n.sts.length) with q3 | q3
  · simp only [go_sem, reduceIte, Nat.reduceEqDiff, Nat.reduceAdd, Nat.reduceMul, Nat.reduceSub, Nat.reduceLeDiff, Nat.reduceLT, Nat.reduceBEq, reduceCtorEq, Net.cells, List.length_map, q1, q2, q3]
    simp [shortN, q1, q2, q3]
  have z1 : n.lines.length ≤ maxRows := by have := of_eq_false q1; unfold maxRows; omega
  have z2 : n.sws.length ≤ maxRows := by have := of_eq_false q2; unfold maxRows; omega
  have z3 : n.sts.length ≤ maxRows := by have := of_eq_false q3; unfold maxRows; omega
  have hsp : shortN n = (n.lines.all shortLn && n.sws.all shortSw && n.sts.all shortSt) := by simp [shortN, q1, q2, q3]
  rw [hsp]
  simp only [go_sem, reduceIte, Nat.reduceEqDiff, Nat.reduceAdd, Nat.reduceMul, Nat.reduceSub, Nat.reduceLeDiff, Nat.reduceLT, Nat.reduceBEq, reduceCtorEq, Net.cells, List.length_map, q1, q2, q3]
  refine W_for (fun k T H M => M = [] ∧ getT T 1 = .ptr 0 0 ∧ getT T 3 = i64 k ∧ H.get 0 = .cells n.cells 26 ∧ 0 < H.n ∧ ∀ (j : Nat) x, j < k → n.lines[j]? = some x → shortLn x = true) n.lines.length ?_ ?_ ?_
  · simp only [go_sem, reduceIte, Nat.reduceEqDiff, Nat.reduceAdd, Nat.reduceMul, Nat.reduceSub, Nat.reduceLeDiff, Nat.reduceLT, Nat.reduceBEq, reduceCtorEq, Net.cells]; exact fun j x hj => by omega
  · rintro k T H M hk ⟨rfl, g1, g3, h0, hn, hall⟩
    obtain ⟨l, hp⟩ : ∃ p, n.lines[k]? = some p := ⟨n.lines[k], by simp⟩
    have hr := map_at (f := Ln.row) hp
    have hw := wrap_succ hk z1
    simp only [Ln.row] at hr
    cases d1 : shortB l.name <;> rcases Classical.propComplete ((9 : Int) < l.ps.length) with d2 | d2 <;> simp only [go_sem, reduceIte, Nat.reduceEqDiff, Nat.reduceAdd, Nat.reduceMul, Nat.reduceSub, Nat.reduceLeDiff, Nat.reduceLT, Nat.reduceBEq, reduceCtorEq, g1, g3, h0, Net.cells, List.length_map, hk, hr, hw, e97, d1, d2]
    case true.inr =>
      refine ⟨hn, fun j x hj hx => ?_⟩
      by_cases e : j = k
      · subst e; rw [hp] at hx; cases hx; simp [shortLn, d1, d2]
      · exact hall j x (by omega) hx
    all_goals rw [all_false hp (by simp [shortLn, d1, d2])]; try rfl
  rintro T H M ⟨rfl, g1, g3, h0, hn, hall⟩
  rw [all_true hall]
  simp only [go_sem, reduceIte, Nat.reduceEqDiff, Nat.reduceAdd, Nat.reduceMul, Nat.reduceSub, Nat.reduceLeDiff, Nat.reduceLT, Nat.reduceBEq, reduceCtorEq, g1, g3, h0, Net.cells, List.length_map, Nat.lt_irrefl]
  refine W_for (fun k T H M => M = [] ∧ getT T 1 = .ptr 0 0 ∧ getT T 4 = i64 k ∧ H.get 0 = .cells n.cells 26 ∧ 0 < H.n ∧ ∀ (j : Nat) x, j < k → n.sws[j]? = some x → shortSw x = true) n.sws.length ?_ ?_ ?_
  · simp only [go_sem, reduceIte, Nat.reduceEqDiff, Nat.reduceAdd, Nat.reduceMul, Nat.reduceSub, Nat.reduceLeDiff, Nat.reduceLT, Nat.reduceBEq, reduceCtorEq, g1, h0, Net.cells]; exact ⟨hn, fun j x hj => by omega⟩
  · rintro k T H M hk ⟨rfl, g1, g3, h0, hn, hall⟩
    obtain ⟨l, hp⟩ : ∃ p, n.sws[k]? = some p := ⟨n.sws[k], by simp⟩
    have hr := map_at (f := Sw.row) hp
    have hw := wrap_succ hk z2
    have b0 : (0 = H.n) = False := by simp; omega
    simp only [Sw.row] at hr
    cases d1 : shortB l.name <;> cases d2 : shortB l.line <;> cases d3 : shortB l.other <;> simp only [go_sem, reduceIte, Nat.reduceEqDiff, Nat.reduceAdd, Nat.reduceMul, Nat.reduceSub, Nat.reduceLeDiff, Nat.reduceLT, Nat.reduceBEq, reduceCtorEq, g1, g3, h0, b0, Net.cells, List.length_map, hk, hr, hw, e97, d1, d2, d3]
    case true.true.true =>
      refine ⟨by omega, fun j x hj hx => ?_⟩
      by_cases e : j = k
      · subst e; rw [hp] at hx; cases hx; simp [shortSw, d1, d2, d3]
      · exact hall j x (by omega) hx
    all_goals rw [all_false hp (by simp [shortSw, d1, d2, d3])]; try rfl
  rintro T H M ⟨rfl, g1, g3, h0, hn, hall⟩
  rw [all_true hall]
  simp only [go_sem, reduceIte, Nat.reduceEqDiff, Nat.reduceAdd, Nat.reduceMul, Nat.reduceSub, Nat.reduceLeDiff, Nat.reduceLT, Nat.reduceBEq, reduceCtorEq, g1, g3, h0, Net.cells, List.length_map, Nat.lt_irrefl]
  refine W_for (fun k T H M => M = [] ∧ getT T 1 = .ptr 0 0 ∧ getT T 6 = i64 k ∧ H.get 0 = .cells n.cells 26 ∧ 0 < H.n ∧ ∀ (j : Nat) x, j < k → n.sts[j]? = some x → shortSt x = true) n.sts.length ?_ ?_ ?_
  · simp only [go_sem, reduceIte, Nat.reduceEqDiff, Nat.reduceAdd, Nat.reduceMul, Nat.reduceSub, Nat.reduceLeDiff, Nat.reduceLT, Nat.reduceBEq, reduceCtorEq, g1, h0, Net.cells]; exact ⟨hn, fun j x hj => by omega⟩
  · rintro k T H M hk ⟨rfl, g1, g3, h0, hn, hall⟩
    obtain ⟨l, hp⟩ : ∃ p, n.sts[k]? = some p := ⟨n.sts[k], by simp⟩
    have hr := map_at (f := Stc.row) hp
    have hw := wrap_succ hk z3
    have b0 : (0 = H.n) = False := by simp; omega
    simp only [Stc.row] at hr
    cases d1 : shortB l.name <;> cases d2 : shortB l.kind <;> cases d3 : shortB l.line <;> simp only [go_sem, reduceIte, Nat.reduceEqDiff, Nat.reduceAdd, Nat.reduceMul, Nat.reduceSub, Nat.reduceLeDiff, Nat.reduceLT, Nat.reduceBEq, reduceCtorEq, g1, g3, h0, b0, Net.cells, List.length_map, hk, hr, hw, e97, d1, d2, d3]
    case true.true.true =>
      refine ⟨by omega, fun j x hj hx => ?_⟩
      by_cases e : j = k
      · subst e; rw [hp] at hx; cases hx; simp [shortSt, d1, d2, d3]
      · exact hall j x (by omega) hx
    all_goals rw [all_false hp (by simp [shortSt, d1, d2, d3])]; try rfl
  rintro T H M ⟨rfl, g1, g3, h0, hn, hall⟩
  rw [all_true hall]
  simp only [go_sem, reduceIte, Nat.reduceEqDiff, Nat.reduceAdd, Nat.reduceMul, Nat.reduceSub, Nat.reduceLeDiff, Nat.reduceLT, Nat.reduceBEq, reduceCtorEq, g1, g3, h0, Net.cells, List.length_map, Nat.lt_irrefl]
end Go.Sim

/-
The law: the network told to the program.
-/
namespace Go.Sim
open Go Go.Proofs
set_option maxRecDepth 100000
set_option maxHeartbeats 16000000
def App (H : Heap) (t : Tok) (rows : List (List AV)) (sz : Nat) (e : TypeId) : Prop := (t = .nil ∧ rows = []) ∨ ∃ j, t = .tok j ∧ rows ≠ [] ∧ j < H.n ∧ H.get j = .row [] sz e
theorem App.push {H : Heap} {t : Tok} {rows : List (List AV)} {sz : Nat} {e : TypeId} (h : App H t rows sz e) (b : ABlk) : App (H.push b) t rows sz e := by
  rcases h with h | ⟨j, h1, h2, h3, h4⟩
  · exact .inl h
  · exact .inr ⟨j, h1, h2, by simp; omega, by rw [Heap.get_push, if_neg (by omega)]; exact h4⟩
theorem App.set {H : Heap} {t : Tok} {rows : List (List AV)} {sz : Nat} {e : TypeId} (h : App H t rows sz e) {i : Nat} (b : ABlk) (hi : H.get i ≠ .row [] sz e) : App (H.set i b) t rows sz e := by
  rcases h with h | ⟨j, h1, h2, h3, h4⟩
  · exact .inl h
  · exact .inr ⟨j, h1, h2, h3, by rw [Heap.get_set, if_neg (fun he => hi (by rw [← he]; exact h4))]; exact h4⟩
theorem App.fresh {H : Heap} {t : Tok} {rows : List (List AV)} {sz : Nat} {e : TypeId} (h : App H t rows sz e) (b c : ABlk) {i : Nat} (hi : i = H.n) : App ((H.push b).set i c) t rows sz e := by
  subst hi
  rcases h with h | ⟨j, h1, h2, h3, h4⟩
  · exact .inl h
  · exact .inr ⟨j, h1, h2, by simp; omega, by rw [Heap.get_set, if_neg (by omega), Heap.get_push, if_neg (by omega)]; exact h4⟩
theorem app_any {H : Heap} {t : Tok} {rows : List (List AV)} {sz : Nat} {e : TypeId} (h : App H t rows sz e) {r : List AV} (h1 : rows.length + 1 ≤ maxRows) (h2 : pureRow r = true) (h3 : 0 < sz) (h4 : rows.all (fun r => r.length = sz) = true) :
    ∃ t' H', appP 0 H sz e (.ps t rows) [r] = some (.ps t' (rows ++ [r.map AV.strip0]), H') ∧ App H' t' (rows ++ [r.map AV.strip0]) sz e ∧ H.n ≤ H'.n ∧ (∀ i c u, i < H.n → H.get i = .cells c u → H'.get i = .cells c u) ∧
      ∀ t2 rows2 sz2 e2, ¬ (sz2 = sz ∧ e2 = e) → App H t2 rows2 sz2 e2 → App H' t2 rows2 sz2 e2 := by
  rcases h with ⟨rfl, rfl⟩ | ⟨j, rfl, h6, h7, h8⟩
  · refine ⟨.tok H.n, H.push (.row [] sz e), app_first (by simp) (by show 1 ≤ 1073741824; decide) (by simp [h2]) h3, .inr ⟨H.n, rfl, by simp, by simp, by rw [Heap.get_push, if_pos rfl]⟩, by simp, fun i c u hi hc => ?_, fun t2 rows2 sz2 e2 _ ha => ha.push _⟩
    rw [Heap.get_push, if_neg (by omega)]; exact hc
  · refine ⟨.tok H.n, (H.set j .dead).push (.row [] sz e), app_next (by simp) (by simpa using h1) (by simp [h2]) h3 h4 h8 (Nat.zero_le _) h6, .inr ⟨H.n, rfl, by simp, by simp, by rw [Heap.get_push, if_pos (by simp)]⟩, by simp, fun i c u hi hc => ?_, fun t2 rows2 sz2 e2 hne ha => ?_⟩
    · rw [Heap.get_push, if_neg (by simp; omega), Heap.get_set, if_neg (fun he => by rw [he, h8] at hc; cases hc)]; exact hc
    · exact (ha.set _ (by rw [h8]; intro he; cases he; exact hne ⟨rfl, rfl⟩)).push _
theorem rows_all {α : Type} {f : α → List AV} {sz : Nat} (hf : ∀ x, (f x).length = sz) (l : List α) : (l.map f).all (fun r => decide (r.length = sz)) = true := by
  rw [List.all_eq_true]
  intro r hr
  obtain ⟨x, _, rfl⟩ := List.mem_map.1 hr
  simp [hf x]
theorem strip_ps (t : Tok) (rows : List (List AV)) : AV.strip0 (.ps t rows) = .ps .unk rows := rfl
attribute [go_sem] strip_ps
theorem take_map {α β : Type} {f : α → β} {l : List α} {k : Nat} {x : α} (h : l[k]? = some x) : (l.take (k + 1)).map f = (l.take k).map f ++ [f x] := by
  rw [List.take_add_one, h]; simp
theorem c19 (n : Net) (hn : n.fits) (hs : n.sws.length ≤ maxRows) (ht : n.sts.length ≤ maxRows) : ∀ lo H, CallOk NC lo 19 [.agg n.cells] H (.agg n.cells) H := by
  refine contract saneNC primsN (fn := Tryz.f19) (by kernel_rfl) Tryz.func19 rfl rfl (by rfl) (by rfl) ?_
  simp only [go_sem, reduceIte, Nat.reduceEqDiff, Nat.reduceAdd, Nat.reduceMul, Nat.reduceSub, Nat.reduceLeDiff, Nat.reduceLT, Nat.reduceBEq, reduceCtorEq, Net.cells]
  refine W_for (fun k T H M => M = [] ∧ getT T 1 = .ptr 0 0 ∧ getT T 2 = .ptr 1 0 ∧ getT T 3 = .ptr 2 0 ∧ getT T 14 = .ps .unk (n.lines.map Ln.row) ∧ getT T 15 = i64 (n.lines.length : Nat) ∧ getT T 16 = i64 k ∧ H.get 0 = .cells n.cells 26 ∧ H.get 1 = .cells [.ps .nil [], .ps .nil [], .ps .nil []] 40 ∧ 2 < H.n ∧ ∃ t, H.get 2 = .cells [.ps t ((n.lines.take k).map Ln.row), .ps .nil [], .ps .nil []] 40 ∧ App H t ((n.lines.take k).map Ln.row) 2 196) n.lines.length ?_ ?_ ?_
  · simp only [go_sem, reduceIte, Nat.reduceEqDiff, Nat.reduceAdd, Nat.reduceMul, Nat.reduceSub, Nat.reduceLeDiff, Nat.reduceLT, Nat.reduceBEq, reduceCtorEq, Net.cells, List.length_map]; exact ⟨.nil, by simp, .inl ⟨rfl, rfl⟩⟩
  · rintro k T H M hk ⟨rfl, g1, g2, g3, g14, g15, g16, h0, h1, hh, t, h2, hA⟩
    obtain ⟨l, hp⟩ : ∃ p, n.lines[k]? = some p := ⟨n.lines[k], by simp⟩
    have hfit := hn.2 l (List.mem_of_getElem? hp)
    have hr := map_at (f := Ln.row) hp
    have hw := wrap_succ hk hn.1
    have htk := take_map (f := Ln.row) hp
    simp only [Ln.row] at hr
    have b0 : (0 = H.n) = False := by simp; omega
    have b1 : (1 = H.n) = False := by simp; omega
    have b2 : (2 = H.n) = False := by simp; omega
    have b3 : (H.n = H.n + 1) = False := by simp
    have b4 : (0 = H.n + 1) = False := by simp
    have b5 : (1 = H.n + 1) = False := by simp; omega
    have b6 : (2 = H.n + 1) = False := by simp; omega
    simp only [go_sem, reduceIte, Nat.reduceEqDiff, Nat.reduceAdd, Nat.reduceMul, Nat.reduceSub, Nat.reduceLeDiff, Nat.reduceLT, Nat.reduceBEq, reduceCtorEq, g1, g2, g3, g14, g15, g16, h0, h1, h2, b0, b1, b2, b3, b4, b5, b6, List.length_map, hk, hr]
    refine W_for (fun k2 T' H' M => M = [] ∧ getT T' 1 = .ptr 0 0 ∧ getT T' 2 = .ptr 1 0 ∧ getT T' 3 = .ptr 2 0 ∧ getT T' 14 = .ps .unk (n.lines.map Ln.row) ∧ getT T' 15 = i64 (n.lines.length : Nat) ∧ getT T' 16 = i64 k ∧ getT T' 6 = .ptr (H.n + 1) 0 ∧ getT T' 24 = .ps .unk (l.ps.map Pc.row) ∧ getT T' 25 = i64 (l.ps.length : Nat) ∧ getT T' 26 = i64 k2 ∧ H'.get 0 = .cells n.cells 26 ∧ H'.get 1 = .cells [.ps .nil [], .ps .nil [], .ps .nil []] 40 ∧ H.n + 1 < H'.n ∧ (∃ t, H'.get 2 = .cells [.ps t ((n.lines.take k).map Ln.row), .ps .nil [], .ps .nil []] 40 ∧ App H' t ((n.lines.take k).map Ln.row) 2 196) ∧
        ∃ u, H'.get (H.n + 1) = .cells [.str l.name, .ps u ((l.ps.take k2).map Pc.row)] 196 ∧ App H' u ((l.ps.take k2).map Pc.row) 3 200) l.ps.length ?_ ?_ ?_
    · simp only [go_sem, reduceIte, Nat.reduceEqDiff, Nat.reduceAdd, Nat.reduceMul, Nat.reduceSub, Nat.reduceLeDiff, Nat.reduceLT, Nat.reduceBEq, reduceCtorEq, g1, g2, g3, g14, g15, g16, h0, h1, h2, b0, b1, b2, b3, b4, b5, b6, Net.cells, List.length_map]
      refine ⟨⟨t, rfl, ?_⟩, .nil, by simp, .inl ⟨rfl, rfl⟩⟩
      exact (hA.fresh _ _ rfl).fresh _ _ rfl
    · rintro k2 T' H' M hk2 ⟨rfl, i1, i2, i3, i14, i15, i16, i6, i24, i25, i26, j0, j1, jh, ⟨t', j2, jA⟩, u, ju, jB⟩
      obtain ⟨p, hpp⟩ : ∃ p, l.ps[k2]? = some p := ⟨l.ps[k2], by simp⟩
      have hpr := map_at (f := Pc.row) hpp
      have hw2 := wrap_succ hk2 hfit
      have htk2 := take_map (f := Pc.row) hpp
      obtain ⟨pl, pq, pb⟩ := p
      simp only [Pc.row] at hpr
      have d0 : (0 = H'.n) = False := by simp; omega
      have d1 : (1 = H'.n) = False := by simp; omega
      have d2 : (2 = H'.n) = False := by simp; omega
      have d3 : (H.n + 1 = H'.n) = False := by simp; omega
      obtain ⟨u', H1, ha, hB', hn1, hc1, ho1⟩ := app_any (H := (H'.push (.cells [.int .i64 0, .int .i64 0, .bool false] 97)).set H'.n (.cells [.int .i64 pl, .int .i64 pq, .bool pb] 97)) (jB.fresh _ _ rfl) (r := [.int .i64 pl, .int .i64 pq, .bool pb]) (by simp; omega) rfl (by decide) (rows_all Pc.row_len _)
      have x1 := hc1 (H.n + 1) [.str l.name, .ps u ((l.ps.take k2).map Pc.row)] 196 (by simp; omega) (by rw [Heap.get_set, if_neg (by omega), Heap.get_push, if_neg (by omega)]; exact ju)
      have x0 := hc1 0 _ _ (by simp) (by rw [Heap.get_set, if_neg (by omega), Heap.get_push, if_neg (by omega)]; exact j0)
      have x01 := hc1 1 _ _ (by simp; omega) (by rw [Heap.get_set, if_neg (by omega), Heap.get_push, if_neg (by omega)]; exact j1)
      have x2 := hc1 2 _ _ (by simp; omega) (by rw [Heap.get_set, if_neg (by omega), Heap.get_push, if_neg (by omega)]; exact j2)
      have xA := ho1 _ _ 2 196 (by decide) (jA.fresh (.cells [.int .i64 0, .int .i64 0, .bool false] 97) (.cells [.int .i64 pl, .int .i64 pq, .bool pb] 97) rfl)
      simp only [Heap.n_set, Heap.n_push] at hn1
      simp only [go_sem, reduceIte, Nat.reduceEqDiff, Nat.reduceAdd, Nat.reduceMul, Nat.reduceSub, Nat.reduceLeDiff, Nat.reduceLT, Nat.reduceBEq, reduceCtorEq, i1, i2, i3, i14, i15, i16, i6, i24, i25, i26, d0, d1, d2, d3, b4, b5, b6, ju, List.length_map, hk2, hpr, hw2, appO, isIntT_slice, rowsIn, ha, x1, x0, x01, x2, strip_ps]
      rw [htk2]
      exact ⟨by omega, ⟨t', rfl, xA.set _ (by rw [x1]; simp)⟩, u', rfl, hB'.set _ (by rw [x1]; simp)⟩
    · rintro T' H' M ⟨rfl, i1, i2, i3, i14, i15, i16, i6, i24, i25, i26, j0, j1, jh, ⟨t', j2, jA⟩, u, ju, jB⟩
      rw [List.take_length] at ju jB
      obtain ⟨t2, H1, ha, hB', hn1, hc1, ho1⟩ := app_any jA (r := [.str l.name, .ps .unk (l.ps.map Pc.row)]) (by simp; have := hn.1; omega) rfl (by decide) (rows_all Ln.row_len _)
      have x0 := hc1 0 _ _ (by omega) j0
      have x01 := hc1 1 _ _ (by omega) j1
      have x2 := hc1 2 _ _ (by omega) j2
      simp only [go_sem, reduceIte, Nat.reduceEqDiff, Nat.reduceAdd, Nat.reduceMul, Nat.reduceSub, Nat.reduceLeDiff, Nat.reduceLT, Nat.reduceBEq, reduceCtorEq, i1, i2, i3, i14, i15, i16, i6, i24, i25, i26, ju, j2, List.length_map, Nat.lt_irrefl, appO, isIntT_slice, rowsIn, ha, x0, x01, x2, strip_ps, hw]
      rw [htk]
      exact ⟨by omega, t2, rfl, hB'.set _ (by rw [x2]; simp)⟩
  rintro T H M ⟨rfl, g1, g2, g3, g14, g15, g16, h0, h1, hh, t, h2, hA⟩
  rw [List.take_length] at h2 hA
  simp only [go_sem, reduceIte, Nat.reduceEqDiff, Nat.reduceAdd, Nat.reduceMul, Nat.reduceSub, Nat.reduceLeDiff, Nat.reduceLT, Nat.reduceBEq, reduceCtorEq, g1, g2, g3, g14, g15, g16, h0, h1, h2, Net.cells, List.length_map, Nat.lt_irrefl]
  refine W_for (fun k T H M => M = [] ∧ getT T 1 = .ptr 0 0 ∧ getT T 2 = .ptr 1 0 ∧ getT T 3 = .ptr 2 0 ∧ getT T 45 = .ps .unk (n.sws.map Sw.row) ∧ getT T 46 = i64 (n.sws.length : Nat) ∧ getT T 47 = i64 k ∧ H.get 0 = .cells n.cells 26 ∧ H.get 1 = .cells [.ps .nil [], .ps .nil [], .ps .nil []] 40 ∧ 2 < H.n ∧ ∃ u, H.get 2 = .cells [.ps t (n.lines.map Ln.row), .ps u ((n.sws.take k).map Sw.row), .ps .nil []] 40 ∧ App H u ((n.sws.take k).map Sw.row) 5 201) n.sws.length ?_ ?_ ?_
  · simp only [go_sem, reduceIte, Nat.reduceEqDiff, Nat.reduceAdd, Nat.reduceMul, Nat.reduceSub, Nat.reduceLeDiff, Nat.reduceLT, Nat.reduceBEq, reduceCtorEq, g1, g2, g3, h0, h1, h2, Net.cells, List.length_map]; exact ⟨hh, .nil, by simp, .inl ⟨rfl, rfl⟩⟩
  · rintro k T H M hk ⟨rfl, g1, g2, g3, g14, g15, g16, h0, h1, hh, u, h2, hA⟩
    obtain ⟨l, hp⟩ : ∃ p, n.sws[k]? = some p := ⟨n.sws[k], by simp⟩
    have hr := map_at (f := Sw.row) hp
    have hw := wrap_succ hk hs
    have htk := take_map (f := Sw.row) hp
    simp only [Sw.row] at hr
    have b0 : (0 = H.n) = False := by simp; omega
    have b1 : (1 = H.n) = False := by simp; omega
    have b2 : (2 = H.n) = False := by simp; omega
    obtain ⟨u', H1, ha, hB', hn1, hc1, ho1⟩ := app_any (H := (H.push (.cells [.str [], .str [], .int .i64 0, .str [], .bool false] 191)).set H.n (.cells [.str l.name, .str l.line, .int .i64 l.metre, .str l.other, .bool l.last] 191)) (hA.fresh _ _ rfl) (r := [.str l.name, .str l.line, .int .i64 l.metre, .str l.other, .bool l.last]) (by simp; omega) rfl (by decide) (rows_all Sw.row_len _)
    have x0 := hc1 0 _ _ (by simp) (by rw [Heap.get_set, if_neg (by omega), Heap.get_push, if_neg (by omega)]; exact h0)
    have x01 := hc1 1 _ _ (by simp; omega) (by rw [Heap.get_set, if_neg (by omega), Heap.get_push, if_neg (by omega)]; exact h1)
    have x2 := hc1 2 _ _ (by simp; omega) (by rw [Heap.get_set, if_neg (by omega), Heap.get_push, if_neg (by omega)]; exact h2)
    simp only [Heap.n_set, Heap.n_push] at hn1
    simp only [go_sem, reduceIte, Nat.reduceEqDiff, Nat.reduceAdd, Nat.reduceMul, Nat.reduceSub, Nat.reduceLeDiff, Nat.reduceLT, Nat.reduceBEq, reduceCtorEq, g1, g2, g3, g14, g15, g16, h0, h1, h2, b0, b1, b2, List.length_map, hk, hr, hw, appO, isIntT_slice, rowsIn, ha, x0, x01, x2]
    rw [htk]
    exact ⟨by omega, u', rfl, hB'.set _ (by rw [x2]; simp)⟩
  rintro T H M ⟨rfl, g1, g2, g3, g14, g15, g16, h0, h1, hh, u, h2, hA⟩
  rw [List.take_length] at h2 hA
  simp only [go_sem, reduceIte, Nat.reduceEqDiff, Nat.reduceAdd, Nat.reduceMul, Nat.reduceSub, Nat.reduceLeDiff, Nat.reduceLT, Nat.reduceBEq, reduceCtorEq, g1, g2, g3, g14, g15, g16, h0, h1, h2, Net.cells, List.length_map, Nat.lt_irrefl]
  refine W_for (fun k T H M => M = [] ∧ getT T 1 = .ptr 0 0 ∧ getT T 2 = .ptr 1 0 ∧ getT T 3 = .ptr 2 0 ∧ getT T 59 = .ps .unk (n.sts.map Stc.row) ∧ getT T 60 = i64 (n.sts.length : Nat) ∧ getT T 61 = i64 k ∧ H.get 0 = .cells n.cells 26 ∧ H.get 1 = .cells [.ps .nil [], .ps .nil [], .ps .nil []] 40 ∧ 2 < H.n ∧ ∃ v, H.get 2 = .cells [.ps t (n.lines.map Ln.row), .ps u (n.sws.map Sw.row), .ps v ((n.sts.take k).map Stc.row)] 40 ∧ App H v ((n.sts.take k).map Stc.row) 5 202) n.sts.length ?_ ?_ ?_
  · simp only [go_sem, reduceIte, Nat.reduceEqDiff, Nat.reduceAdd, Nat.reduceMul, Nat.reduceSub, Nat.reduceLeDiff, Nat.reduceLT, Nat.reduceBEq, reduceCtorEq, g1, g2, g3, h0, h1, h2, Net.cells, List.length_map]; exact ⟨hh, .nil, by simp, .inl ⟨rfl, rfl⟩⟩
  · rintro k T H M hk ⟨rfl, g1, g2, g3, g14, g15, g16, h0, h1, hh, v, h2, hA⟩
    obtain ⟨l, hp⟩ : ∃ p, n.sts[k]? = some p := ⟨n.sts[k], by simp⟩
    have hr := map_at (f := Stc.row) hp
    have hw := wrap_succ hk ht
    have htk := take_map (f := Stc.row) hp
    simp only [Stc.row] at hr
    have b0 : (0 = H.n) = False := by simp; omega
    have b1 : (1 = H.n) = False := by simp; omega
    have b2 : (2 = H.n) = False := by simp; omega
    obtain ⟨u', H1, ha, hB', hn1, hc1, ho1⟩ := app_any (H := (H.push (.cells [.str [], .str [], .str [], .int .i64 0, .int .i64 0] 193)).set H.n (.cells [.str l.name, .str l.kind, .str l.line, .int .i64 l.fr, .int .i64 l.till] 193)) (hA.fresh _ _ rfl) (r := [.str l.name, .str l.kind, .str l.line, .int .i64 l.fr, .int .i64 l.till]) (by simp; omega) rfl (by decide) (rows_all Stc.row_len _)
    have x0 := hc1 0 _ _ (by simp) (by rw [Heap.get_set, if_neg (by omega), Heap.get_push, if_neg (by omega)]; exact h0)
    have x01 := hc1 1 _ _ (by simp; omega) (by rw [Heap.get_set, if_neg (by omega), Heap.get_push, if_neg (by omega)]; exact h1)
    have x2 := hc1 2 _ _ (by simp; omega) (by rw [Heap.get_set, if_neg (by omega), Heap.get_push, if_neg (by omega)]; exact h2)
    simp only [Heap.n_set, Heap.n_push] at hn1
    simp only [go_sem, reduceIte, Nat.reduceEqDiff, Nat.reduceAdd, Nat.reduceMul, Nat.reduceSub, Nat.reduceLeDiff, Nat.reduceLT, Nat.reduceBEq, reduceCtorEq, g1, g2, g3, g14, g15, g16, h0, h1, h2, b0, b1, b2, List.length_map, hk, hr, hw, appO, isIntT_slice, rowsIn, ha, x0, x01, x2]
    rw [htk]
    exact ⟨by omega, u', rfl, hB'.set _ (by rw [x2]; simp)⟩
  rintro T H M ⟨rfl, g1, g2, g3, g14, g15, g16, h0, h1, hh, v, h2, hA⟩
  rw [List.take_length] at h2 hA
  simp only [go_sem, reduceIte, Nat.reduceEqDiff, Nat.reduceAdd, Nat.reduceMul, Nat.reduceSub, Nat.reduceLeDiff, Nat.reduceLT, Nat.reduceBEq, reduceCtorEq, g1, g2, g3, g14, g15, g16, h0, h1, h2, Net.cells, List.length_map, Nat.lt_irrefl]
end Go.Sim

/-
Maps: CheckMap, of the program and of the reference.
-/
namespace Go.Sim
open Go Go.Proofs
set_option maxRecDepth 100000
set_option maxHeartbeats 8000000
/-! ### The program -/
def mvP (x : Mv) : Int :=
  let e := firstI [whenI (!nameB x.line) 8, whenI (!nameB x.other) 8, rangeI x.fr 0 800000, rangeI x.len 1 800000, rangeI x.to 0 800000]
  if e = 0 then whenI (decide (800000 < wrapq .i64 (Int.add (maxI x.fr x.to) x.len))) 4 else e
noncomputable def PPF127 : FuncId → Option (List AV → Option AV) := addPrim 111 p111 (addPrim 115 p115 (addPrim 121 p121 (addPrim 193 p193 (fun _ => none))))
theorem primsF127 : PrimsOk NC PPF127 := primsOk_add (primsOk_add (primsOk_add (primsOk_add (primsOk_none) (by kernel_rfl) (by kernel_rfl) pok193) (by kernel_rfl) (by kernel_rfl) pok121) (by kernel_rfl) (by kernel_rfl) pok115) (by kernel_rfl) (by kernel_rfl) pok111
theorem enF127_193 : En PPF127 193 p193 := enter_prim (by rfl) (by kernel_rfl)
theorem enF127_121 : En PPF127 121 p121 := enter_prim (by rfl) (by kernel_rfl)
theorem enF127_115 : En PPF127 115 p115 := enter_prim (by rfl) (by kernel_rfl)
theorem enF127_111 : En PPF127 111 p111 := enter_prim (by rfl) (by kernel_rfl)
attribute [go_sem ↓] enF127_193 enF127_121 enF127_115 enF127_111
theorem c127 (x : Mv) (hp : x.line.length ≤ maxRows ∧ x.other.length ≤ maxRows) : ∀ lo H, CallOk NC lo 127 [.agg x.row] H (i64 (mvP x)) H := by
  refine contract saneNC primsF127 (fn := Tryz.f127) (by kernel_rfl) Tryz.func127 rfl rfl (by rfl) (by first | rfl | (split <;> first | rfl | (split <;> rfl))) ?_
  have h1 := pe193 x.line hp.1
  have h2 := pe193 x.other hp.2
  obtain ⟨a, b, c, d, e, f⟩ := x
  simp only at h1 h2
  generalize hE : firstI [whenI (!nameB a) 8, whenI (!nameB d) 8, rangeI b 0 800000, rangeI c 1 800000, rangeI e 0 800000] = E
  have hsp : mvP ⟨a, b, c, d, e, f⟩ = if E = 0 then whenI (decide (800000 < wrapq .i64 (Int.add (maxI b e) c))) 4 else E := by unfold mvP; simp only [hE]
  rw [hsp]
  rcases Classical.propComplete (E = 0) with z | z <;> simp only [go_sem, reduceIte, Nat.reduceEqDiff, Nat.reduceAdd, Nat.reduceMul, Nat.reduceSub, Nat.reduceLeDiff, Nat.reduceLT, Nat.reduceBEq, reduceCtorEq, Mv.row, h1, h2, e115, e121, e111_5, hE, z]
noncomputable def p127 : List AV → Option AV := primOf (α := (Mv)) (fun x => [.agg x.row]) (fun x => x.line.length ≤ maxRows ∧ x.other.length ≤ maxRows) (fun x => i64 (mvP x))
theorem pok127 : ∀ args v, p127 args = some v → ∀ lo H, CallOk NC lo 127 args H v H := by
  intro args v h
  obtain ⟨x, rfl, hp, rfl⟩ := primOf_inv h
  exact c127 x hp
theorem pe127 (x : Mv) (hp : x.line.length ≤ maxRows ∧ x.other.length ≤ maxRows) : p127 [.agg x.row] = some (.int .i64 (mvP x)) := primOf_enc (α := (Mv)) (enc := fun x => [.agg x.row]) (pre := fun x => x.line.length ≤ maxRows ∧ x.other.length ≤ maxRows) (spec := fun x => i64 (mvP x)) (by intro x y h; (simp only [List.cons.injEq, AV.agg.injEq, AV.str.injEq, AV.int.injEq, AV.ps.injEq, AV.bool.injEq, Net.cells_iff, Ln.row_iff, Pc.row_iff, Mv.row_iff, lns_iff, pcs_iff, mvs_iff, true_and, and_true] at h; first | simpa only [Prod.ext_iff] using h | simpa only [Prod.ext_iff, and_assoc] using h)) x hp
def meetB (x y : Mv) : Bool := beqL y.other x.other && decide (maxI y.to x.to < minI (wrapq .i64 (Int.add y.to y.len)) (wrapq .i64 (Int.add x.to x.len)))
variable {P : FuncId → Option (List AV → Option AV)}
theorem r129 (lo : Nat) (x y : Mv) (c : Nat) (H : Heap) (hc : c < H.n) (hs : H.get c = .cells x.row 130) : R (NC.withPrims P) (.call lo 129 [.agg y.row, .ptr c 0] H) = some (.ofVal (.bool (meetB x y)) (H.push (.cells y.row 130))) := by
  have hne : (c = H.n) = False := by simp; omega
  obtain ⟨v, H', h1, h2, h3⟩ := R_of_body (C := NC.withPrims P) (f := 129) (lo := lo) (args := [.agg y.row, .ptr c 0]) (H := H) (fn := Tryz.f129) (Q := fun v H' => v = .bool (meetB x y) ∧ H' = H.push (.cells y.row 130)) (by kernel_rfl) Tryz.func129 rfl rfl (by
    obtain ⟨a, b, c, d, e, f⟩ := x
    obtain ⟨a', b', c', d', e', f'⟩ := y
    simp only [Mv.row] at hs
    simp only [go_sem, reduceIte, Nat.reduceEqDiff, Nat.reduceAdd, Nat.reduceMul, Nat.reduceSub, Nat.reduceLeDiff, Nat.reduceLT, Nat.reduceBEq, reduceCtorEq, Mv.row, hs, hne]
    repeat' (first
      | (refine branch_cases (fun hc => ?_) (fun hc => ?_) <;> (try simp only [decide_eq_true_eq, decide_eq_false_iff_not, Bool.not_eq_true', Bool.not_eq_false', Bool.and_eq_true, Bool.or_eq_false_iff] at hc) <;> (try simp only [go_sem, reduceIte, Nat.reduceEqDiff, Nat.reduceAdd, Nat.reduceMul, Nat.reduceSub, Nat.reduceLeDiff, Nat.reduceLT, Nat.reduceBEq, reduceCtorEq, Mv.row, hne, *]))
      | (refine guardT_cases (fun hc => ?_) (fun hc => ?_) <;> (try simp only [decide_eq_true_eq, decide_eq_false_iff_not, Bool.not_eq_true', Bool.not_eq_false', Bool.and_eq_true, Bool.or_eq_false_iff] at hc) <;> (try simp only [go_sem, reduceIte, Nat.reduceEqDiff, Nat.reduceAdd, Nat.reduceMul, Nat.reduceSub, Nat.reduceLeDiff, Nat.reduceLT, Nat.reduceBEq, reduceCtorEq, Mv.row, hne, *]))
      | (refine guardF_cases (fun hc => ?_) (fun hc => ?_) <;> (try simp only [decide_eq_true_eq, decide_eq_false_iff_not, Bool.not_eq_true', Bool.not_eq_false', Bool.and_eq_true, Bool.or_eq_false_iff] at hc) <;> (try simp only [go_sem, reduceIte, Nat.reduceEqDiff, Nat.reduceAdd, Nat.reduceMul, Nat.reduceSub, Nat.reduceLeDiff, Nat.reduceLT, Nat.reduceBEq, reduceCtorEq, Mv.row, hne, *]))
      | (refine pick_cases (fun hc => ?_) (fun hc => ?_) <;> (try simp only [decide_eq_true_eq, decide_eq_false_iff_not, Bool.not_eq_true', Bool.not_eq_false', Bool.and_eq_true, Bool.or_eq_false_iff] at hc) <;> (try simp only [go_sem, reduceIte, Nat.reduceEqDiff, Nat.reduceAdd, Nat.reduceMul, Nat.reduceSub, Nat.reduceLeDiff, Nat.reduceLT, Nat.reduceBEq, reduceCtorEq, Mv.row, hne, *])))
    all_goals simp only [go_sem, reduceIte, Nat.reduceEqDiff, Nat.reduceAdd, Nat.reduceMul, Nat.reduceSub, Nat.reduceLeDiff, Nat.reduceLT, Nat.reduceBEq, reduceCtorEq, meetB, *])
  rw [h1, h2, h3]
theorem en129 {P : FuncId → Option (List AV → Option AV)} (hP : P 129 = none) {lo : Nat} {args : List AV} {H : Heap} {K : AV → Heap → Prop} : VO (aenter (NC.withPrims P) (R (NC.withPrims P)) lo 129 args H) K = AO (R (NC.withPrims P) (.call H.n 129 args H)) fun o => o.val.strip.pure = true ∧ K o.val.strip H := by
  refine enter_pure rfl ?_ (by kernel_rfl) (by kernel_rfl) (by kernel_rfl)
  show (match NC.prim 129 with | some p => some p | none => P 129) = none
  rw [hP]; kernel_rfl
theorem en194 {P : FuncId → Option (List AV → Option AV)} (hP : P 194 = none) {lo : Nat} {args : List AV} {H : Heap} {K : AV → Heap → Prop} : VO (aenter (NC.withPrims P) (R (NC.withPrims P)) lo 194 args H) K = AO (R (NC.withPrims P) (.call H.n 194 args H)) fun o => o.val.strip.pure = true ∧ K o.val.strip H := by
  refine enter_pure rfl ?_ (by kernel_rfl) (by kernel_rfl) (by kernel_rfl)
  show (match NC.prim 194 with | some p => some p | none => P 194) = none
  rw [hP]; kernel_rfl
theorem en130 {P : FuncId → Option (List AV → Option AV)} (hP : P 130 = none) {lo : Nat} {args : List AV} {H : Heap} {K : AV → Heap → Prop} : VO (aenter (NC.withPrims P) (R (NC.withPrims P)) lo 130 args H) K = AO (R (NC.withPrims P) (.call H.n 130 args H)) fun o => o.val.strip.pure = true ∧ K o.val.strip H := by
  refine enter_pure rfl ?_ (by kernel_rfl) (by kernel_rfl) (by kernel_rfl)
  show (match NC.prim 130 with | some p => some p | none => P 130) = none
  rw [hP]; kernel_rfl
def anyI {α : Type} (f : α → Bool) (l : List α) : Int := match l.findIdx? f with
  | some i => (i : Int)
  | none => -1
theorem anyI_at {α : Type} {f : α → Bool} {l : List α} {k : Nat} {x : α} (h0 : ∀ j y, j < k → l[j]? = some y → f y = false) (hk : l[k]? = some x) (hf : f x = true) : anyI f l = k := by
  have hlt := (List.getElem?_eq_some_iff.1 hk)
  have : l.findIdx? f = some k := by
    rw [List.findIdx?_eq_some_iff_getElem]
    refine ⟨hlt.1, by rw [hlt.2]; exact hf, fun j hj => ?_⟩
    have := h0 j (l[j]'(by have := hlt.1; omega)) hj (by simp)
    rw [this]; simp
  unfold anyI; rw [this]
theorem anyI_none {α : Type} {f : α → Bool} {l : List α} (h0 : ∀ j y, j < l.length → l[j]? = some y → f y = false) : anyI f l = -1 := by
  have : l.findIdx? f = none := by
    rw [List.findIdx?_eq_none_iff]
    intro y hy
    obtain ⟨j, hj⟩ := List.mem_iff_getElem?.1 hy
    exact h0 j y (List.getElem?_eq_some_iff.1 hj).1 hj
  unfold anyI; rw [this]
theorem anyI_neg {α : Type} (f : α → Bool) (l : List α) : decide (anyI f l < 0) = !l.any f := by
  unfold anyI
  cases h : l.findIdx? f with
  | none =>
    rw [List.findIdx?_eq_none_iff] at h
    have : l.any f = false := by rw [List.any_eq_false]; intro x hx; simp [h x hx]
    simp [this]
  | some i =>
    rw [List.findIdx?_eq_some_iff_getElem] at h
    obtain ⟨hlt, hf, _⟩ := h
    have : l.any f = true := by rw [List.any_eq_true]; exact ⟨l[i], by simp, hf⟩
    simp [this]
theorem r194 (hP : P 129 = none) (lo : Nat) (x : Mv) (m : List Mv) (c : Nat) (H : Heap) (hl : m.length ≤ maxRows) (hc : c < H.n) (hs : H.get c = .cells x.row 130) :
    ∃ H', R (NC.withPrims P) (.call lo 194 [.ps .unk (m.map Mv.row), .fn 129 [] [.ptr c 0]] H) = some (.ofVal (i64 (anyI (meetB x) m)) H') := by
  obtain ⟨v, H', h1, h2⟩ := R_of_body (C := NC.withPrims P) (f := 194) (lo := lo) (args := [.ps .unk (m.map Mv.row), .fn 129 [] [.ptr c 0]]) (H := H) (fn := Tryz.f194) (Q := fun v H' => v = i64 (anyI (meetB x) m)) (by kernel_rfl) Tryz.func194 rfl rfl (by
    simp only [go_sem, reduceIte, Nat.reduceEqDiff, Nat.reduceAdd, Nat.reduceMul, Nat.reduceSub, Nat.reduceLeDiff, Nat.reduceLT, Nat.reduceBEq, reduceCtorEq]
    refine W_for (fun k T H' M => M = [] ∧ getT T 0 = .ps .unk (m.map Mv.row) ∧ getT T 1 = .fn 129 [] [.ptr c 0] ∧ getT T 7 = i64 (m.length : Nat) ∧ getT T 8 = i64 k ∧ c < H'.n ∧ H'.get c = .cells x.row 130 ∧ ∀ (j : Nat) (y : Mv), j < k → m[j]? = some y → meetB x y = false) m.length ?_ ?_ ?_
    · simp only [go_sem, reduceIte, Nat.reduceEqDiff, Nat.reduceAdd, Nat.reduceMul, Nat.reduceSub, Nat.reduceLeDiff, Nat.reduceLT, Nat.reduceBEq, reduceCtorEq, List.length_map]; exact ⟨hc, hs, fun j l hj => absurd hj (by omega)⟩
    · rintro k T H' M hk ⟨rfl, g0, g1, g7, g8, gc, gs, hf⟩
      obtain ⟨y, hy⟩ : ∃ p, m[k]? = some p := ⟨m[k], by simp⟩
      have hr := map_at (f := Mv.row) hy
      have hw := wrap_succ hk hl
      have hcall := fun lo => r129 (P := P) lo x y c H' gc gs
      simp only [Mv.row] at hr hcall
      cases hb : meetB x y with
      | true =>
        simp only [hb] at hcall
        simp only [go_sem, reduceIte, Nat.reduceEqDiff, Nat.reduceAdd, Nat.reduceMul, Nat.reduceSub, Nat.reduceLeDiff, Nat.reduceLT, Nat.reduceBEq, reduceCtorEq, g0, g1, g7, g8, List.length_map, hk, hr, hw, en129 hP, hcall, ofVal_v, ofVal_H]
        rw [anyI_at hf hy hb]
      | false =>
        simp only [hb] at hcall
        simp only [go_sem, reduceIte, Nat.reduceEqDiff, Nat.reduceAdd, Nat.reduceMul, Nat.reduceSub, Nat.reduceLeDiff, Nat.reduceLT, Nat.reduceBEq, reduceCtorEq, g0, g1, g7, g8, List.length_map, hk, hr, hw, en129 hP, hcall, ofVal_v, ofVal_H]
        refine ⟨gc, gs, fun j l' hj hl' => ?_⟩
        by_cases e : j = k
        · subst e; rw [hy] at hl'; cases hl'; exact hb
        · exact hf j l' (by omega) hl'
    · rintro T H' M ⟨rfl, g0, g1, g7, g8, gc, gs, hf⟩
      simp only [go_sem, reduceIte, Nat.reduceEqDiff, Nat.reduceAdd, Nat.reduceMul, Nat.reduceSub, Nat.reduceLeDiff, Nat.reduceLT, Nat.reduceBEq, reduceCtorEq, g0, g1, g7, g8, List.length_map, Nat.lt_irrefl]
      rw [anyI_none hf])
  exact ⟨H', by rw [h1, h2]⟩
theorem r130 (hP : P 129 = none) (hP2 : P 194 = none) (lo : Nat) (x : Mv) (m : List Mv) (c : Nat) (H : Heap) (hl : m.length ≤ maxRows) (hc : c < H.n) (hs : H.get c = .cells x.row 130) :
    ∃ H', R (NC.withPrims P) (.call lo 130 [.ps .unk (m.map Mv.row), .fn 129 [] [.ptr c 0]] H) = some (.ofVal (.bool (m.any (meetB x))) H') := by
  obtain ⟨H1, hr⟩ := r194 hP H.n x m c H hl hc hs
  obtain ⟨v, H', h1, h2⟩ := R_of_body (C := NC.withPrims P) (f := 130) (lo := lo) (args := [.ps .unk (m.map Mv.row), .fn 129 [] [.ptr c 0]]) (H := H) (fn := Tryz.f130) (Q := fun v H' => v = .bool (m.any (meetB x))) (by kernel_rfl) Tryz.func130 rfl rfl (by
    simp only [go_sem, reduceIte, Nat.reduceEqDiff, Nat.reduceAdd, Nat.reduceMul, Nat.reduceSub, Nat.reduceLeDiff, Nat.reduceLT, Nat.reduceBEq, reduceCtorEq, en194 hP2, hr, ofVal_v, ofVal_H, anyI_neg, Bool.not_not])
  exact ⟨H', by rw [h1, h2]⟩
def orderB (l x : Mv) : Bool := strLt x.line l.line || (beqL x.line l.line && decide (x.fr < endI l))
def moveP (m : List Mv) (i : Nat) : Int := match m[i]? with
  | none => 0
  | some x => if mvP x = 0 then (if (match i with | 0 => false | j + 1 => match m[j]? with | none => false | some l => orderB l x) then 11 else if (m.take i).any (meetB x) then 15 else 0) else mvP x
def mapP (m : List Mv) : Int := if (24 : Int) < m.length then 5 else allR (moveP m) m.length
noncomputable def PPF49 : FuncId → Option (List AV → Option AV) := addPrim 128 p128 (addPrim 127 p127 (fun _ => none))
theorem primsF49 : PrimsOk NC PPF49 := primsOk_add (primsOk_add (primsOk_none) (by kernel_rfl) (by kernel_rfl) pok127) (by kernel_rfl) (by kernel_rfl) pok128
theorem enF49_127 : En PPF49 127 p127 := enter_prim (by rfl) (by kernel_rfl)
theorem enF49_128 : En PPF49 128 p128 := enter_prim (by rfl) (by kernel_rfl)
attribute [go_sem ↓] enF49_127 enF49_128
theorem c49 (m : List Mv) (hp : MapOk m) : ∀ lo H, CallOk NC lo 49 [.ps .unk (m.map Mv.row)] H (i64 (mapP m)) H := by
  refine contract saneNC primsF49 (fn := Tryz.f49) (by kernel_rfl) Tryz.func49 rfl rfl (by rfl) (by first | rfl | (split <;> first | rfl | (split <;> rfl))) ?_
  have hl := hp.few
  rcases Classical.propComplete ((24 : Int) < m.length) with q1 | q1
  · simp only [go_sem, reduceIte, Nat.reduceEqDiff, Nat.reduceAdd, Nat.reduceMul, Nat.reduceSub, Nat.reduceLeDiff, Nat.reduceLT, Nat.reduceBEq, reduceCtorEq, List.length_map, q1]
    simp [mapP, q1]
  simp only [go_sem, reduceIte, Nat.reduceEqDiff, Nat.reduceAdd, Nat.reduceMul, Nat.reduceSub, Nat.reduceLeDiff, Nat.reduceLT, Nat.reduceBEq, reduceCtorEq, List.length_map, q1]
  refine W_for (fun k T H M => M = [] ∧ getT T 0 = .ps .unk (m.map Mv.row) ∧ getT T 11 = .ps .unk (m.map Mv.row) ∧ getT T 12 = i64 (m.length : Nat) ∧ getT T 13 = i64 k ∧ allR (moveP m) m.length = firstI (((List.range m.length).map (moveP m)).drop k)) m.length ?_ ?_ ?_
  · simp only [go_sem, reduceIte, Nat.reduceEqDiff, Nat.reduceAdd, Nat.reduceMul, Nat.reduceSub, Nat.reduceLeDiff, Nat.reduceLT, Nat.reduceBEq, reduceCtorEq, List.length_map]; rfl
  · rintro k T H M hk ⟨rfl, g0, g11, g12, g13, hf⟩
    obtain ⟨x, hx⟩ : ∃ p, m[k]? = some p := ⟨m[k], by simp⟩
    have hr := map_at (f := Mv.row) hx
    have hw := wrap_succ hk hl
    have hfd := allR_step (f := moveP m) hk
    have e127 := pe127 x (hp.word x (List.mem_of_getElem? hx))
    have hms : moveP m k = if mvP x = 0 then (if (match k with | 0 => false | j + 1 => match m[j]? with | none => false | some l => orderB l x) then 11 else if (m.take k).any (meetB x) then 15 else 0) else mvP x := by
      unfold moveP; simp only [hx]
    have htk := fun c => aslice_take (P := NC.P) (t := 83) un_83 sz_130 (rows_all Mv.row_len m) (n := k) (k := c) (by simp; omega)
    have hany : ∀ lo (H' : Heap) c, c < H'.n → H'.get c = .cells x.row 130 → R (NC.withPrims PPF49) (.call lo 130 [.ps .unk ((m.map Mv.row).take k), .fn 129 [] [.ptr c 0]] H') = some (.ofVal (.bool ((m.take k).any (meetB x))) (hEnd (NC.withPrims PPF49) (.call lo 130 [.ps .unk ((m.map Mv.row).take k), .fn 129 [] [.ptr c 0]] H'))) := fun lo H' c h1 h2 => by
      have := ex_eq (r130 (P := PPF49) rfl rfl lo x (m.take k) c H' (by simp; omega) h1 h2)
      rwa [List.map_take] at this
    have hwp : 0 < k → wrapq .i64 (Int.sub (k : Int) 1) = ((k - 1 : Nat) : Int) := fun h => wrap_pred h (Nat.le_of_lt hk) hl
    obtain ⟨l, hl1⟩ : ∃ p, m[k - 1]? = some p := ⟨m[k - 1]'(by omega), by simp⟩
    have hr1 := map_at (f := Mv.row) hl1
    have hk1 : (k - 1 < m.length) = True := by simp; omega
    have hpos : ((0 : Int) < (k : Int)) = (0 < k) := by simp
    have e128 := pe128 l
    have hms' : moveP m k = if mvP x = 0 then (if decide (0 < k) && orderB l x then 11 else if (m.take k).any (meetB x) then 15 else 0) else mvP x := by
      rw [hms]
      cases k with
      | zero => simp
      | succ j => simp at hl1; simp [hl1]
    clear hms
    obtain ⟨a, b, c, d, e, f⟩ := x
    obtain ⟨a', b', c', d', e', f'⟩ := l
    simp only [Mv.row] at hr hr1 e127 hany e128
    simp only [go_sem, reduceIte, Nat.reduceEqDiff, Nat.reduceAdd, Nat.reduceMul, Nat.reduceSub, Nat.reduceLeDiff, Nat.reduceLT, Nat.reduceBEq, reduceCtorEq, g0, g11, g12, g13, List.length_map, hk, hr, hw, e127, hpos]
    repeat' (first
      | (refine branch_cases (fun hc => ?_) (fun hc => ?_) <;> (try simp only [decide_eq_true_eq, decide_eq_false_iff_not, Bool.not_eq_true', Bool.not_eq_false', Bool.and_eq_true, Bool.or_eq_false_iff] at hc) <;> (try simp only [go_sem, reduceIte, Nat.reduceEqDiff, Nat.reduceAdd, Nat.reduceMul, Nat.reduceSub, Nat.reduceLeDiff, Nat.reduceLT, Nat.reduceBEq, reduceCtorEq, en130 (show PPF49 130 = none from rfl), *]))
      | (refine guardT_cases (fun hc => ?_) (fun hc => ?_) <;> (try simp only [decide_eq_true_eq, decide_eq_false_iff_not, Bool.not_eq_true', Bool.not_eq_false', Bool.and_eq_true, Bool.or_eq_false_iff] at hc) <;> (try simp only [go_sem, reduceIte, Nat.reduceEqDiff, Nat.reduceAdd, Nat.reduceMul, Nat.reduceSub, Nat.reduceLeDiff, Nat.reduceLT, Nat.reduceBEq, reduceCtorEq, en130 (show PPF49 130 = none from rfl), *]))
      | (refine guardF_cases (fun hc => ?_) (fun hc => ?_) <;> (try simp only [decide_eq_true_eq, decide_eq_false_iff_not, Bool.not_eq_true', Bool.not_eq_false', Bool.and_eq_true, Bool.or_eq_false_iff] at hc) <;> (try simp only [go_sem, reduceIte, Nat.reduceEqDiff, Nat.reduceAdd, Nat.reduceMul, Nat.reduceSub, Nat.reduceLeDiff, Nat.reduceLT, Nat.reduceBEq, reduceCtorEq, en130 (show PPF49 130 = none from rfl), *]))
      | (refine pick_cases (fun hc => ?_) (fun hc => ?_) <;> (try simp only [decide_eq_true_eq, decide_eq_false_iff_not, Bool.not_eq_true', Bool.not_eq_false', Bool.and_eq_true, Bool.or_eq_false_iff] at hc) <;> (try simp only [go_sem, reduceIte, Nat.reduceEqDiff, Nat.reduceAdd, Nat.reduceMul, Nat.reduceSub, Nat.reduceLeDiff, Nat.reduceLT, Nat.reduceBEq, reduceCtorEq, en130 (show PPF49 130 = none from rfl), *])))
    all_goals simp [mapP, q1, hf, hfd, hms', orderB, *]
  · rintro T H M ⟨rfl, g0, g11, g12, g13, hf⟩
    rw [allR_end] at hf
    simp only [go_sem, reduceIte, Nat.reduceEqDiff, Nat.reduceAdd, Nat.reduceMul, Nat.reduceSub, Nat.reduceLeDiff, Nat.reduceLT, Nat.reduceBEq, reduceCtorEq, g0, g11, g12, g13, List.length_map, Nat.lt_irrefl]
    simp [mapP, q1, hf]
noncomputable def p49 : List AV → Option AV := primOf (α := (List Mv)) (fun x => [.ps .unk (x.map Mv.row)]) (fun x => MapOk x) (fun x => i64 (mapP x))
theorem pok49 : ∀ args v, p49 args = some v → ∀ lo H, CallOk NC lo 49 args H v H := by
  intro args v h
  obtain ⟨x, rfl, hp, rfl⟩ := primOf_inv h
  exact c49 x hp
theorem pe49 (m : List Mv) (hp : MapOk m) : p49 [.ps .unk (m.map Mv.row)] = some (.int .i64 (mapP m)) := primOf_enc (α := (List Mv)) (enc := fun x => [.ps .unk (x.map Mv.row)]) (pre := fun x => MapOk x) (spec := fun x => i64 (mapP x)) (by intro x y h; (simp only [List.cons.injEq, AV.agg.injEq, AV.str.injEq, AV.int.injEq, AV.ps.injEq, AV.bool.injEq, Net.cells_iff, Ln.row_iff, Pc.row_iff, Mv.row_iff, lns_iff, pcs_iff, mvs_iff, true_and, and_true] at h; first | simpa only [Prod.ext_iff] using h | simpa only [Prod.ext_iff, and_assoc] using h)) m hp
end Go.Sim

/-
Slices that are made by append, over blocks that stay.
-/
namespace Go.Sim
open Go Go.Proofs
def AppB (b : Nat) (H : Heap) (t : Tok) (rows : List (List AV)) (sz : Nat) (e : TypeId) : Prop := (t = .nil ∧ rows = []) ∨ ∃ j, t = .tok j ∧ rows ≠ [] ∧ b ≤ j ∧ j < H.n ∧ H.get j = .row [] sz e
def Old (b : Nat) (H H' : Heap) : Prop := b ≤ H'.n ∧ ∀ i, i < b → H'.get i = H.get i
theorem Old.refl (H : Heap) : Old H.n H H := ⟨Nat.le_refl _, fun _ _ => rfl⟩
theorem Old.push {b : Nat} {H H' : Heap} (h : Old b H H') (x : ABlk) : Old b H (H'.push x) := ⟨by simp; have := h.1; omega, fun i hi => by rw [Heap.get_push, if_neg (by have := h.1; omega)]; exact h.2 i hi⟩
theorem Old.set {b : Nat} {H H' : Heap} (h : Old b H H') {j : Nat} (hj : b ≤ j) (x : ABlk) : Old b H (H'.set j x) := ⟨by simpa using h.1, fun i hi => by rw [Heap.get_set, if_neg (by omega)]; exact h.2 i hi⟩
theorem Old.new {b : Nat} {H H' : Heap} (h : Old b H H') (x y : ABlk) : Old b H ((H'.push x).set H'.n y) := (h.push x).set h.1 y
theorem Old.trans {b : Nat} {H H1 H2 : Heap} (h : Old b H H1) (h2 : Old b H1 H2) : Old b H H2 := ⟨h2.1, fun i hi => (h2.2 i hi).trans (h.2 i hi)⟩
theorem AppB.push {b : Nat} {H : Heap} {t : Tok} {rows : List (List AV)} {sz : Nat} {e : TypeId} (h : AppB b H t rows sz e) (x : ABlk) : AppB b (H.push x) t rows sz e := by
  rcases h with h | ⟨j, h1, h2, h3, h4, h5⟩
  · exact .inl h
  · exact .inr ⟨j, h1, h2, h3, by simp; omega, by rw [Heap.get_push, if_neg (by omega)]; exact h5⟩
theorem AppB.set {b : Nat} {H : Heap} {t : Tok} {rows : List (List AV)} {sz : Nat} {e : TypeId} (h : AppB b H t rows sz e) {i : Nat} (x : ABlk) (hi : H.get i ≠ .row [] sz e) : AppB b (H.set i x) t rows sz e := by
  rcases h with h | ⟨j, h1, h2, h3, h4, h5⟩
  · exact .inl h
  · exact .inr ⟨j, h1, h2, h3, h4, by rw [Heap.get_set, if_neg (fun he => hi (by rw [← he]; exact h5))]; exact h5⟩
theorem AppB.new {b : Nat} {H : Heap} {t : Tok} {rows : List (List AV)} {sz : Nat} {e : TypeId} (h : AppB b H t rows sz e) (x y : ABlk) : AppB b ((H.push x).set H.n y) t rows sz e := by
  rcases h with h | ⟨j, h1, h2, h3, h4, h5⟩
  · exact .inl h
  · exact .inr ⟨j, h1, h2, h3, by simp; omega, by rw [Heap.get_set, if_neg (by omega), Heap.get_push, if_neg (by omega)]; exact h5⟩
theorem app_b {b : Nat} {H : Heap} {t : Tok} {rows : List (List AV)} {sz lo : Nat} {e : TypeId} (h : AppB b H t rows sz e) (hb : b ≤ H.n) (hlo : lo ≤ b) {r : List AV} (h1 : rows.length + 1 ≤ maxRows) (h2 : pureRow r = true) (h3 : 0 < sz) (h4 : rows.all (fun r => r.length = sz) = true) :
    ∃ t' H', appP lo H sz e (.ps t rows) [r] = some (.ps t' (rows ++ [r.map AV.strip0]), H') ∧ AppB b H' t' (rows ++ [r.map AV.strip0]) sz e ∧ H.n ≤ H'.n ∧ Old b H H' ∧ (∀ i c u, i < H.n → H.get i = .cells c u → H'.get i = .cells c u) := by
  rcases h with ⟨rfl, rfl⟩ | ⟨j, rfl, h6, hj, h7, h8⟩
  · refine ⟨.tok H.n, H.push (.row [] sz e), app_first (by simp) (by show 1 ≤ 1073741824; decide) (by simp [h2]) h3, .inr ⟨H.n, rfl, by simp, hb, by simp, by rw [Heap.get_push, if_pos rfl]⟩, by simp, ⟨by simp; omega, fun i hi => by rw [Heap.get_push, if_neg (by omega)]⟩, fun i c u hi hc => ?_⟩
    rw [Heap.get_push, if_neg (by omega)]; exact hc
  · refine ⟨.tok H.n, (H.set j .dead).push (.row [] sz e), app_next (by simp) (by simpa using h1) (by simp [h2]) h3 h4 h8 (by omega) h6, .inr ⟨H.n, rfl, by simp, hb, by simp, by rw [Heap.get_push, if_pos (by simp)]⟩, by simp, ⟨by simp; omega, fun i hi => by rw [Heap.get_push, if_neg (by simp; omega), Heap.get_set, if_neg (by omega)]⟩, fun i c u hi hc => ?_⟩
    rw [Heap.get_push, if_neg (by simp; omega), Heap.get_set, if_neg (fun he => by rw [he, h8] at hc; cases hc)]; exact hc
end Go.Sim

/-
Maps: Fits, of the program and of the reference; what a map carries.
-/
namespace Go.Sim
open Go Go.Proofs
set_option maxRecDepth 100000
set_option maxHeartbeats 8000000
noncomputable def PPF133 : FuncId → Option (List AV → Option AV) := addPrim 111 p111 (addPrim 183 p183 (addPrim 121 p121 (addPrim 98 p98 (fun _ => none))))
theorem primsF133 : PrimsOk NC PPF133 := primsOk_add (primsOk_add (primsOk_add (primsOk_add (primsOk_none) (by kernel_rfl) (by kernel_rfl) pok98) (by kernel_rfl) (by kernel_rfl) pok121) (by kernel_rfl) (by kernel_rfl) pok183) (by kernel_rfl) (by kernel_rfl) pok111
theorem enF133_98 : En PPF133 98 p98 := enter_prim (by rfl) (by kernel_rfl)
theorem enF133_121 : En PPF133 121 p121 := enter_prim (by rfl) (by kernel_rfl)
theorem enF133_183 : En PPF133 183 p183 := enter_prim (by rfl) (by kernel_rfl)
theorem enF133_111 : En PPF133 111 p111 := enter_prim (by rfl) (by kernel_rfl)
attribute [go_sem ↓] enF133_98 enF133_121 enF133_183 enF133_111
theorem c133 (n : Net) (s : List Nat) (fr till : Int) (hp : n.Ok) : ∀ lo H, CallOk NC lo 133 [.agg n.cells, .str s, .agg [i64 fr, i64 till]] H (i64 (metresI n.lines s fr till)) H := by
  refine contract saneNC primsF133 (fn := Tryz.f133) (by kernel_rfl) Tryz.func133 rfl rfl (by rfl) (by first | rfl | (split <;> first | rfl | (split <;> rfl))) ?_
  have e98 := pe98 (n, s) hp.lines
  have hfit : (lnOf n.lines s).ps.length ≤ maxRows := lnOf_fits fun l hl => (hp.line l hl).2
  have e183 := pe183 (lnOf n.lines s, fr, till) hfit
  rw [← metres_same]
  simp only [Net.cells, Ln.row, i64] at e98 e183
  simp only [go_sem, reduceIte, Nat.reduceEqDiff, Nat.reduceAdd, Nat.reduceMul, Nat.reduceSub, Nat.reduceLeDiff, Nat.reduceLT, Nat.reduceBEq, reduceCtorEq, Net.cells, Ln.row, e98, e183, e121, e111_2]
noncomputable def p133 : List AV → Option AV := primOf (α := (Net) × (List Nat) × (Int) × (Int)) (fun x => [.agg x.1.cells, .str x.2.1, .agg [i64 x.2.2.1, i64 x.2.2.2]]) (fun x => x.1.Ok) (fun x => i64 (metresI x.1.lines x.2.1 x.2.2.1 x.2.2.2))
theorem pok133 : ∀ args v, p133 args = some v → ∀ lo H, CallOk NC lo 133 args H v H := by
  intro args v h
  obtain ⟨x, rfl, hp, rfl⟩ := primOf_inv h
  exact c133 x.1 x.2.1 x.2.2.1 x.2.2.2 hp
theorem pe133 (n : Net) (s : List Nat) (fr till : Int) (hp : n.Ok) : p133 [.agg n.cells, .str s, .agg [.int .i64 fr, .int .i64 till]] = some (.int .i64 (metresI n.lines s fr till)) := primOf_enc (α := (Net) × (List Nat) × (Int) × (Int)) (enc := fun x => [.agg x.1.cells, .str x.2.1, .agg [i64 x.2.2.1, i64 x.2.2.2]]) (pre := fun x => x.1.Ok) (spec := fun x => i64 (metresI x.1.lines x.2.1 x.2.2.1 x.2.2.2)) (by intro x y h; (simp only [List.cons.injEq, AV.agg.injEq, AV.str.injEq, AV.int.injEq, AV.ps.injEq, AV.bool.injEq, Net.cells_iff, Ln.row_iff, Pc.row_iff, Mv.row_iff, lns_iff, pcs_iff, mvs_iff, true_and, and_true] at h; first | simpa only [Prod.ext_iff] using h | simpa only [Prod.ext_iff, and_assoc] using h)) (n, s, fr, till) hp
variable {P : FuncId → Option (List AV → Option AV)}
def fitsI (a b : Net) (x : Mv) : Int := firstI [metresI a.lines x.line x.fr (endI x), metresI b.lines x.other x.to (wrapq .i64 (Int.add x.to x.len))]
theorem en132 {P : FuncId → Option (List AV → Option AV)} (hP : P 132 = none) {lo : Nat} {args : List AV} {H : Heap} {K : AV → Heap → Prop} : VO (aenter (NC.withPrims P) (R (NC.withPrims P)) lo 132 args H) K = AO (R (NC.withPrims P) (.call H.n 132 args H)) fun o => o.val.strip.pure = true ∧ K o.val.strip H := by
  refine enter_pure rfl ?_ (by kernel_rfl) (by kernel_rfl) (by kernel_rfl)
  show (match NC.prim 132 with | some p => some p | none => P 132) = none
  rw [hP]; kernel_rfl
theorem en131 {P : FuncId → Option (List AV → Option AV)} (hP : P 131 = none) {lo : Nat} {args : List AV} {H : Heap} {K : AV → Heap → Prop} : VO (aenter (NC.withPrims P) (R (NC.withPrims P)) lo 131 args H) K = AO (R (NC.withPrims P) (.call H.n 131 args H)) fun o => o.val.strip.pure = true ∧ K o.val.strip H := by
  refine enter_pure rfl ?_ (by kernel_rfl) (by kernel_rfl) (by kernel_rfl)
  show (match NC.prim 131 with | some p => some p | none => P 131) = none
  rw [hP]; kernel_rfl
theorem r132 (h128 : P 128 = some p128) (h133 : P 133 = some p133) (h111 : P 111 = some p111) (lo : Nat) (a b : Net) (ha : a.Ok) (hb : b.Ok) (x : Mv) (ca cb : Nat) (H : Heap) (hca : ca < H.n) (hcb : cb < H.n) (sa : H.get ca = .cells a.cells 40) (sb : H.get cb = .cells b.cells 40) :
    ∃ H', R (NC.withPrims P) (.call lo 132 [.agg x.row, .ptr ca 0, .ptr cb 0] H) = some (.ofVal (i64 (fitsI a b x)) H') := by
  have n1 : (ca = H.n) = False := by simp; omega
  have n2 : (cb = H.n) = False := by simp; omega
  have en128 : ∀ {rec lo args H K}, VO (aenter (NC.withPrims P) rec lo 128 args H) K = AO (p128 args) fun v => K v H := enter_prim rfl (by show (match NC.prim 128 with | some p => some p | none => P 128) = _; rw [h128]; kernel_rfl)
  have en133 : ∀ {rec lo args H K}, VO (aenter (NC.withPrims P) rec lo 133 args H) K = AO (p133 args) fun v => K v H := enter_prim rfl (by show (match NC.prim 133 with | some p => some p | none => P 133) = _; rw [h133]; kernel_rfl)
  have en111 : ∀ {rec lo args H K}, VO (aenter (NC.withPrims P) rec lo 111 args H) K = AO (p111 args) fun v => K v H := enter_prim rfl (by show (match NC.prim 111 with | some p => some p | none => P 111) = _; rw [h111]; kernel_rfl)
  have e128 := pe128 x
  have ea := pe133 a x.line x.fr (endI x) ha
  have eb := pe133 b x.other x.to (wrapq .i64 (Int.add x.to x.len)) hb
  obtain ⟨v, H', h1, h2⟩ := R_of_body (C := NC.withPrims P) (f := 132) (lo := lo) (args := [.agg x.row, .ptr ca 0, .ptr cb 0]) (H := H) (fn := Tryz.f132) (Q := fun v H' => v = i64 (fitsI a b x)) (by kernel_rfl) Tryz.func132 rfl rfl (by
    unfold fitsI
    obtain ⟨x1, x2, x3, x4, x5, x6⟩ := x
    simp only [Mv.row, Net.cells, i64] at e128 ea eb sa sb
    simp only [go_sem, reduceIte, Nat.reduceEqDiff, Nat.reduceAdd, Nat.reduceMul, Nat.reduceSub, Nat.reduceLeDiff, Nat.reduceLT, Nat.reduceBEq, reduceCtorEq, Mv.row, Net.cells, sa, sb, n1, n2, ↓en128, ↓en133, ↓en111, e128, ea, eb, e111_2])
  exact ⟨H', by rw [h1, h2]⟩
theorem r131 (hP : P 132 = none) (lo : Nat) (m : List Mv) (F : Mv → Int) (caps : List AV) (hc : caps.map AV.strip = caps) (H : Heap) (hlo : lo ≤ H.n) (hl : m.length ≤ maxRows)
    (hcall : ∀ lo x H', Old H.n H H' → ∃ H2, R (NC.withPrims P) (.call lo 132 (.agg x.row :: caps) H') = some (.ofVal (i64 (F x)) H2)) :
    ∃ t H', R (NC.withPrims P) (.call lo 131 [.ps .unk (m.map Mv.row), .fn 132 [] caps] H) = some (.ofVal (.ps t (intRows (m.map F))) H') := by
  suffices hh : ∃ v H', R (NC.withPrims P) (.call lo 131 [.ps .unk (m.map Mv.row), .fn 132 [] caps] H) = some (.ofVal v H') ∧ ∃ t, v = .ps t (intRows (m.map F)) by
    obtain ⟨v, H', h1, t, rfl⟩ := hh; exact ⟨t, H', h1⟩
  refine R_of_body (C := NC.withPrims P) (f := 131) (lo := lo) (args := [.ps .unk (m.map Mv.row), .fn 132 [] caps]) (H := H) (fn := Tryz.f131) (Q := fun v H' => ∃ t, v = .ps t (intRows (m.map F))) (by kernel_rfl) Tryz.func131 rfl rfl ?_
  simp only [go_sem, reduceIte, Nat.reduceEqDiff, Nat.reduceAdd, Nat.reduceMul, Nat.reduceSub, Nat.reduceLeDiff, Nat.reduceLT, Nat.reduceBEq, reduceCtorEq]
  refine W_for (fun k T H' M => M = [] ∧ getT T 1 = .fn 132 [] caps ∧ getT T 8 = .ps .unk (m.map Mv.row) ∧ getT T 9 = i64 (m.length : Nat) ∧ getT T 10 = i64 k ∧ Old H.n H H' ∧ ∃ t, getT T 5 = .ps t (intRows ((m.take k).map F)) ∧ AppB H.n H' t (intRows ((m.take k).map F)) 1 33) m.length ?_ ?_ ?_
  · simp only [go_sem, reduceIte, Nat.reduceEqDiff, Nat.reduceAdd, Nat.reduceMul, Nat.reduceSub, Nat.reduceLeDiff, Nat.reduceLT, Nat.reduceBEq, reduceCtorEq]; exact ⟨Old.refl H, .nil, rfl, .inl ⟨rfl, rfl⟩⟩
  · rintro k T H' M hk ⟨rfl, g1, g8, g9, g10, hO, t, g5, hA⟩
    obtain ⟨x, hx⟩ : ∃ p, m[k]? = some p := ⟨m[k], by simp⟩
    have hr := map_at (f := Mv.row) hx
    have hw := wrap_succ hk hl
    have htk : intRows ((m.take (k + 1)).map F) = intRows ((m.take k).map F) ++ [[i64 (F x)]] := by rw [take_map hx]; simp [intRows]
    have hcl := fun lo H' h => ex_eq (hcall lo x H' h)
    have hlo' : lo ≤ H'.n := Nat.le_trans hlo hO.1
    obtain ⟨t', H2, ha, hA2, hn2, hO2, _⟩ := app_b (lo := lo) (hA.new (.cells [.str [], .int .i64 0, .int .i64 0, .str [], .int .i64 0, .bool false] 130) (.cells x.row 130)) (by have := hO.1; simp; omega) hlo (r := [i64 (F x)]) (by simp [intRows]; omega) rfl (by decide) (intRows_all _)
    have hO1 := hO.new (.cells [.str [], .int .i64 0, .int .i64 0, .str [], .int .i64 0, .bool false] 130) (.cells x.row 130)
    obtain ⟨a, b, c, d, e, f⟩ := x
    simp only [Mv.row] at hr hcl ha hO1
    simp only [go_sem, reduceIte, Nat.reduceEqDiff, Nat.reduceAdd, Nat.reduceMul, Nat.reduceSub, Nat.reduceLeDiff, Nat.reduceLT, Nat.reduceBEq, reduceCtorEq, g1, g8, g9, g10, g5, hk, hr, hw, en132 hP, hc, hcl, hO1, hlo', appO, isIntT_slice, rowsIn, ha]
    rw [htk]
    exact ⟨(hO.new _ _).trans hO2 |> fun h => ⟨h.1, h.2⟩, t', rfl, hA2⟩
  · rintro T H' M ⟨rfl, g1, g8, g9, g10, hO, t, g5, hA⟩
    simp only [go_sem, reduceIte, Nat.reduceEqDiff, Nat.reduceAdd, Nat.reduceMul, Nat.reduceSub, Nat.reduceLeDiff, Nat.reduceLT, Nat.reduceBEq, reduceCtorEq, g1, g8, g9, g10, g5, Nat.lt_irrefl, List.take_length]
    exact ⟨t, rfl⟩
def fitsP (a b : Net) (m : List Mv) : Int :=
  let e := firstI [mapP m, netP a, netP b]
  if e = 0 then firstI (m.map (fitsI a b)) else e
noncomputable def PPF50 : FuncId → Option (List AV → Option AV) := addPrim 133 p133 (addPrim 128 p128 (addPrim 111 p111 (addPrim 29 p29 (addPrim 49 p49 (fun _ => none)))))
theorem primsF50 : PrimsOk NC PPF50 := primsOk_add (primsOk_add (primsOk_add (primsOk_add (primsOk_add (primsOk_none) (by kernel_rfl) (by kernel_rfl) pok49) (by kernel_rfl) (by kernel_rfl) pok29) (by kernel_rfl) (by kernel_rfl) pok111) (by kernel_rfl) (by kernel_rfl) pok128) (by kernel_rfl) (by kernel_rfl) pok133
theorem enF50_49 : En PPF50 49 p49 := enter_prim (by rfl) (by kernel_rfl)
theorem enF50_29 : En PPF50 29 p29 := enter_prim (by rfl) (by kernel_rfl)
theorem enF50_111 : En PPF50 111 p111 := enter_prim (by rfl) (by kernel_rfl)
theorem enF50_128 : En PPF50 128 p128 := enter_prim (by rfl) (by kernel_rfl)
theorem enF50_133 : En PPF50 133 p133 := enter_prim (by rfl) (by kernel_rfl)
attribute [go_sem ↓] enF50_49 enF50_29 enF50_111 enF50_128 enF50_133
theorem c50 (m : List Mv) (a b : Net) (hp : MapOk m ∧ a.Ok ∧ b.Ok) : ∀ lo H, CallOk NC lo 50 [.ps .unk (m.map Mv.row), .agg a.cells, .agg b.cells] H (i64 (fitsP a b m)) H := by
  refine contract saneNC primsF50 (fn := Tryz.f50) (by kernel_rfl) Tryz.func50 rfl rfl (by rfl) (by first | rfl | (split <;> first | rfl | (split <;> rfl))) ?_
  have hl := hp.1.few
  have e49 := pe49 m hp.1
  have ea := pe29 a hp.2.1
  have eb := pe29 b hp.2.2
  have e111 := pe111 (m.map (fitsI a b)) (by simpa using hl)
  generalize hE : firstI [mapP m, netP a, netP b] = E
  have hsp : fitsP a b m = if E = 0 then firstI (m.map (fitsI a b)) else E := by unfold fitsP; simp only [hE]
  rw [hsp]
  simp only [Net.cells, i64] at ea eb e111
  rcases Classical.propComplete (E = 0) with z | z
  case inr => simp only [go_sem, reduceIte, Nat.reduceEqDiff, Nat.reduceAdd, Nat.reduceMul, Nat.reduceSub, Nat.reduceLeDiff, Nat.reduceLT, Nat.reduceBEq, reduceCtorEq, Net.cells, e49, ea, eb, e111_3, hE, z]
  obtain ⟨tk, H', hr⟩ := r131 (P := PPF50) rfl 2 m (fitsI a b) [.ptr 0 0, .ptr 1 0] rfl ((Heap.empty.push (.cells a.cells 40)).push (.cells b.cells 40)) (by simp [empty_n]) hl (fun lo x H' hO => r132 rfl rfl rfl lo a b hp.2.1 hp.2.2 x 0 1 H' (by have := hO.1; simp [empty_n] at this; omega) (by have := hO.1; simp [empty_n] at this; omega) (by rw [hO.2 0 (by simp [empty_n])]; simp [Heap.get_push, empty_n]) (by rw [hO.2 1 (by simp [empty_n])]; simp [Heap.get_push, empty_n]))
  simp only [Net.cells, i64] at hr
  simp only [go_sem, reduceIte, Nat.reduceEqDiff, Nat.reduceAdd, Nat.reduceMul, Nat.reduceSub, Nat.reduceLeDiff, Nat.reduceLT, Nat.reduceBEq, reduceCtorEq, Net.cells, e49, ea, eb, e111_3, hE, z, en131 (show PPF50 131 = none from rfl), hr, e111]
  trace_state
noncomputable def p50 : List AV → Option AV := primOf (α := (List Mv) × (Net) × (Net)) (fun x => [.ps .unk (x.1.map Mv.row), .agg x.2.1.cells, .agg x.2.2.cells]) (fun x => MapOk x.1 ∧ x.2.1.Ok ∧ x.2.2.Ok) (fun x => i64 (fitsP x.2.1 x.2.2 x.1))
theorem pok50 : ∀ args v, p50 args = some v → ∀ lo H, CallOk NC lo 50 args H v H := by
  intro args v h
  obtain ⟨x, rfl, hp, rfl⟩ := primOf_inv h
  exact c50 x.1 x.2.1 x.2.2 hp
theorem pe50 (m : List Mv) (a b : Net) (hp : MapOk m ∧ a.Ok ∧ b.Ok) : p50 [.ps .unk (m.map Mv.row), .agg a.cells, .agg b.cells] = some (.int .i64 (fitsP a b m)) := primOf_enc (α := (List Mv) × (Net) × (Net)) (enc := fun x => [.ps .unk (x.1.map Mv.row), .agg x.2.1.cells, .agg x.2.2.cells]) (pre := fun x => MapOk x.1 ∧ x.2.1.Ok ∧ x.2.2.Ok) (spec := fun x => i64 (fitsP x.2.1 x.2.2 x.1)) (by intro x y h; (simp only [List.cons.injEq, AV.agg.injEq, AV.str.injEq, AV.int.injEq, AV.ps.injEq, AV.bool.injEq, Net.cells_iff, Ln.row_iff, Pc.row_iff, Mv.row_iff, lns_iff, pcs_iff, mvs_iff, true_and, and_true] at h; first | simpa only [Prod.ext_iff] using h | simpa only [Prod.ext_iff, and_assoc] using h)) (m, a, b) hp
/-! ### What is carried -/
def hitMv (s : List Nat) (k : Int) (x : Mv) : Bool := beqL x.line s && !decide (k < x.fr) && decide (k < endI x)
def carP (m : List Mv) (s : List Nat) (k : Int) : List AV := match m.find? (hitMv s k) with
  | none => [noPlace, .bool false]
  | some x => [.agg [.str x.other, i64 (atI x k)], .bool true]
theorem carP_pure (m : List Mv) (s : List Nat) (k : Int) : (AV.tup (carP m s k)).pure = true := by
  unfold carP; split <;> rfl
theorem find_at {α : Type} {f : α → Bool} {l : List α} {k : Nat} {x : α} (h0 : ∀ j y, j < k → l[j]? = some y → f y = false) (hk : l[k]? = some x) (hf : f x = true) : l.find? f = some x := by
  have hlt := (List.getElem?_eq_some_iff.1 hk)
  rw [List.find?_eq_some_iff_getElem]
  refine ⟨hf, k, hlt.1, hlt.2, fun j hj => ?_⟩
  have := h0 j (l[j]'(by have := hlt.1; omega)) hj (by simp)
  simp [this]
theorem find_no {α : Type} {f : α → Bool} {l : List α} (h0 : ∀ j y, j < l.length → l[j]? = some y → f y = false) : l.find? f = none := by
  rw [List.find?_eq_none]
  intro y hy
  obtain ⟨j, hj⟩ := List.mem_iff_getElem?.1 hy
  simp [h0 j y (List.getElem?_eq_some_iff.1 hj).1 hj]
noncomputable def PPF124 : FuncId → Option (List AV → Option AV) := addPrim 192 p192 (addPrim 128 p128 (fun _ => none))
theorem primsF124 : PrimsOk NC PPF124 := primsOk_add (primsOk_add (primsOk_none) (by kernel_rfl) (by kernel_rfl) pok128) (by kernel_rfl) (by kernel_rfl) pok192
theorem enF124_128 : En PPF124 128 p128 := enter_prim (by rfl) (by kernel_rfl)
theorem enF124_192 : En PPF124 192 p192 := enter_prim (by rfl) (by kernel_rfl)
attribute [go_sem ↓] enF124_128 enF124_192
theorem c124 (m : List Mv) (s : List Nat) (q : Int) (hp : m.length ≤ maxRows) : ∀ lo H, CallOk NC lo 124 [.ps .unk (m.map Mv.row), .agg [.str s, i64 q]] H (.tup (carP m s q)) H := by
  refine contract saneNC primsF124 (fn := Tryz.f124) (by kernel_rfl) Tryz.func124 rfl rfl (by rfl) (carP_pure m s q) ?_
  simp only [go_sem, reduceIte, Nat.reduceEqDiff, Nat.reduceAdd, Nat.reduceMul, Nat.reduceSub, Nat.reduceLeDiff, Nat.reduceLT, Nat.reduceBEq, reduceCtorEq]
  refine W_for (fun k T H M => M = [] ∧ getT T 3 = .ptr 0 0 ∧ getT T 4 = .ptr 1 0 ∧ H.get 0 = .cells [.str s, i64 q] 45 ∧ H.get 1 = .cells [.str [], i64 0] 45 ∧ 1 < H.n ∧ getT T 8 = .ps .unk (m.map Mv.row) ∧ getT T 9 = i64 (m.length : Nat) ∧ getT T 10 = i64 k ∧ ∀ j x, j < k → m[j]? = some x → hitMv s q x = false) m.length ?_ ?_ ?_
  · simp only [go_sem, reduceIte, Nat.reduceEqDiff, Nat.reduceAdd, Nat.reduceMul, Nat.reduceSub, Nat.reduceLeDiff, Nat.reduceLT, Nat.reduceBEq, reduceCtorEq]; exact fun j x hj => absurd hj (by omega)
  · rintro k T H M hk ⟨rfl, g3, g4, h0, h1, hn, g8, g9, g10, hf⟩
    obtain ⟨x, hx⟩ : ∃ p, m[k]? = some p := ⟨m[k], by simp⟩
    have hr := map_at (f := Mv.row) hx
    have hw := wrap_succ hk hp
    have e128 := pe128 x
    have e192 := pe192 x q
    have b0 : (0 = H.n) = False := by simp; omega
    have b1 : (1 = H.n) = False := by simp; omega
    have b2 : 1 < H.n + 1 := by omega
    have hnext : hitMv s q x = false → ∀ j y, j < k + 1 → m[j]? = some y → hitMv s q y = false := fun hh j y hj hy => by
      by_cases e : j = k
      · subst e; rw [hx] at hy; cases hy; exact hh
      · exact hf j y (by omega) hy
    have hhit : hitMv s q x = true → carP m s q = [.agg [.str x.other, i64 (atI x q)], .bool true] := fun hh => by unfold carP; rw [find_at hf hx hh]
    have hh : hitMv s q x = (beqL x.line s && !decide (q < x.fr) && decide (q < endI x)) := rfl
    rw [hh] at hnext hhit
    clear hh
    obtain ⟨a, b, c, d, e, f⟩ := x
    simp only [Mv.row] at hr e128 e192
    simp only [go_sem, reduceIte, Nat.reduceEqDiff, Nat.reduceAdd, Nat.reduceMul, Nat.reduceSub, Nat.reduceLeDiff, Nat.reduceLT, Nat.reduceBEq, reduceCtorEq, g3, g4, h0, h1, g8, g9, g10, hk, hr, hw, b0, b1]
    repeat' (first
      | (refine branch_cases (fun hc => ?_) (fun hc => ?_) <;> (try simp only [decide_eq_true_eq, decide_eq_false_iff_not, Bool.not_eq_true', Bool.not_eq_false', Bool.and_eq_true, Bool.or_eq_false_iff] at hc) <;> (try simp only [go_sem, reduceIte, Nat.reduceEqDiff, Nat.reduceAdd, Nat.reduceMul, Nat.reduceSub, Nat.reduceLeDiff, Nat.reduceLT, Nat.reduceBEq, reduceCtorEq, b0, b1, *]))
      | (refine guardT_cases (fun hc => ?_) (fun hc => ?_) <;> (try simp only [decide_eq_true_eq, decide_eq_false_iff_not, Bool.not_eq_true', Bool.not_eq_false', Bool.and_eq_true, Bool.or_eq_false_iff] at hc) <;> (try simp only [go_sem, reduceIte, Nat.reduceEqDiff, Nat.reduceAdd, Nat.reduceMul, Nat.reduceSub, Nat.reduceLeDiff, Nat.reduceLT, Nat.reduceBEq, reduceCtorEq, b0, b1, *]))
      | (refine guardF_cases (fun hc => ?_) (fun hc => ?_) <;> (try simp only [decide_eq_true_eq, decide_eq_false_iff_not, Bool.not_eq_true', Bool.not_eq_false', Bool.and_eq_true, Bool.or_eq_false_iff] at hc) <;> (try simp only [go_sem, reduceIte, Nat.reduceEqDiff, Nat.reduceAdd, Nat.reduceMul, Nat.reduceSub, Nat.reduceLeDiff, Nat.reduceLT, Nat.reduceBEq, reduceCtorEq, b0, b1, *]))
      | (refine pick_cases (fun hc => ?_) (fun hc => ?_) <;> (try simp only [decide_eq_true_eq, decide_eq_false_iff_not, Bool.not_eq_true', Bool.not_eq_false', Bool.and_eq_true, Bool.or_eq_false_iff] at hc) <;> (try simp only [go_sem, reduceIte, Nat.reduceEqDiff, Nat.reduceAdd, Nat.reduceMul, Nat.reduceSub, Nat.reduceLeDiff, Nat.reduceLT, Nat.reduceBEq, reduceCtorEq, b0, b1, *])))
    all_goals first | (rw [hhit (by simp [*])]; done) | exact ⟨h0, h1, b2, hnext (by simp [*])⟩ | exact ⟨b2, hnext (by simp [*])⟩ | exact hnext (by simp [*]) | skip
  · rintro T H M ⟨rfl, g3, g4, h0, h1, hn, g8, g9, g10, hf⟩
    simp only [go_sem, reduceIte, Nat.reduceEqDiff, Nat.reduceAdd, Nat.reduceMul, Nat.reduceSub, Nat.reduceLeDiff, Nat.reduceLT, Nat.reduceBEq, reduceCtorEq, g3, g4, h0, h1, g8, g9, g10, Nat.lt_irrefl]
    unfold carP
    rw [find_no hf]
    rfl
noncomputable def p124 : List AV → Option AV := primOf (α := (List Mv) × (List Nat) × (Int)) (fun x => [.ps .unk (x.1.map Mv.row), .agg [.str x.2.1, i64 x.2.2]]) (fun x => x.1.length ≤ maxRows) (fun x => .tup (carP x.1 x.2.1 x.2.2))
theorem pok124 : ∀ args v, p124 args = some v → ∀ lo H, CallOk NC lo 124 args H v H := by
  intro args v h
  obtain ⟨x, rfl, hp, rfl⟩ := primOf_inv h
  exact c124 x.1 x.2.1 x.2.2 hp
theorem pe124 (m : List Mv) (s : List Nat) (q : Int) (hp : m.length ≤ maxRows) : p124 [.ps .unk (m.map Mv.row), .agg [.str s, .int .i64 q]] = some (.tup (carP m s q)) := primOf_enc (α := (List Mv) × (List Nat) × (Int)) (enc := fun x => [.ps .unk (x.1.map Mv.row), .agg [.str x.2.1, i64 x.2.2]]) (pre := fun x => x.1.length ≤ maxRows) (spec := fun x => .tup (carP x.1 x.2.1 x.2.2)) (by intro x y h; (simp only [List.cons.injEq, AV.agg.injEq, AV.str.injEq, AV.int.injEq, AV.ps.injEq, AV.bool.injEq, Net.cells_iff, Ln.row_iff, Pc.row_iff, Mv.row_iff, lns_iff, pcs_iff, mvs_iff, true_and, and_true] at h; first | simpa only [Prod.ext_iff] using h | simpa only [Prod.ext_iff, and_assoc] using h)) (m, s, q) hp
end Go.Sim

/-
Maps: the reference's CheckMap, Fits, Carried; the program's Carried; the law's own helpers.
-/
namespace Go.Sim
open Go Go.Proofs
set_option maxRecDepth 100000
set_option maxHeartbeats 8000000
def mvR (m : List Mv) (i : Nat) : Int := match m[i]? with
  | none => 0
  | some x =>
    let e := firstI [whenI (!nameB x.line) 8, whenI (!nameB x.other) 8, rangeI x.fr 0 800000, rangeI x.len 1 800000, rangeI x.to 0 800000]
    if e = 0 then (if decide (800000 < endI x) || decide (800000 < wrapq .i64 (Int.add x.to x.len)) then 4 else
      if (match i with | 0 => false | j + 1 => match m[j]? with | none => false | some l => orderB l x) then 11 else if (m.take i).any (fun y => overB y x) then 15 else 0) else e
def mapR (m : List Mv) : Int := if (24 : Int) < m.length then 5 else allR (mvR m) m.length
theorem e34_5 (a b c d e : Int) : p34 [.ps .unk [[.int .i64 a], [.int .i64 b], [.int .i64 c], [.int .i64 d], [.int .i64 e]]] = some (.int .i64 (firstI [a, b, c, d, e])) := pe34 [a, b, c, d, e] (by show 5 ≤ 1073741824; decide)
theorem any_take {α : Type} {f : α → Bool} {m : List α} {i k : Nat} {y : α} (hk : k < i) (hy : m[k]? = some y) (hb : f y = true) : (m.take i).any f = true := by
  rw [List.any_eq_true]
  exact ⟨y, List.mem_of_getElem? (i := k) (by rw [List.getElem?_take_of_lt hk]; exact hy), hb⟩
theorem any_take_no {α : Type} {f : α → Bool} {m : List α} {i : Nat} (h : ∀ (j : Nat) (x : α), j < i → m[j]? = some x → f x = false) : (m.take i).any f = false := by
  rw [List.any_eq_false]
  intro x hx
  obtain ⟨j, hj⟩ := List.mem_iff_getElem?.1 hx
  rw [List.getElem?_take] at hj
  split at hj
  · rename_i hlt; simp [h j x hlt hj]
  · cases hj
noncomputable def PPF44 : FuncId → Option (List AV → Option AV) := addPrim 125 p125 (addPrim 34 p34 (addPrim 35 p35 (addPrim 36 p36 (fun _ => none))))
theorem primsF44 : PrimsOk NC PPF44 := primsOk_add (primsOk_add (primsOk_add (primsOk_add (primsOk_none) (by kernel_rfl) (by kernel_rfl) pok36) (by kernel_rfl) (by kernel_rfl) pok35) (by kernel_rfl) (by kernel_rfl) pok34) (by kernel_rfl) (by kernel_rfl) pok125
theorem enF44_36 : En PPF44 36 p36 := enter_prim (by rfl) (by kernel_rfl)
theorem enF44_35 : En PPF44 35 p35 := enter_prim (by rfl) (by kernel_rfl)
theorem enF44_34 : En PPF44 34 p34 := enter_prim (by rfl) (by kernel_rfl)
theorem enF44_125 : En PPF44 125 p125 := enter_prim (by rfl) (by kernel_rfl)
attribute [go_sem ↓] enF44_36 enF44_35 enF44_34 enF44_125
theorem c44 (m : List Mv) (hp : m.length ≤ maxRows) : ∀ lo H, CallOk NC lo 44 [.ps .unk (m.map Mv.row)] H (i64 (mapR m)) H := by
  refine contract saneNC primsF44 (fn := Tryz.f44) (by kernel_rfl) Tryz.func44 rfl rfl (by rfl) (by first | rfl | (split <;> first | rfl | (split <;> rfl))) ?_
  have hl := hp
  rcases Classical.propComplete ((24 : Int) < m.length) with q1 | q1
  · simp only [go_sem, reduceIte, Nat.reduceEqDiff, Nat.reduceAdd, Nat.reduceMul, Nat.reduceSub, Nat.reduceLeDiff, Nat.reduceLT, Nat.reduceBEq, reduceCtorEq, q1]
    simp [mapR, q1]
  simp only [go_sem, reduceIte, Nat.reduceEqDiff, Nat.reduceAdd, Nat.reduceMul, Nat.reduceSub, Nat.reduceLeDiff, Nat.reduceLT, Nat.reduceBEq, reduceCtorEq, q1]
  refine W_for (fun k T H M => M = [] ∧ getT T 0 = .ps .unk (m.map Mv.row) ∧ getT T 3 = i64 k ∧ allR (mvR m) m.length = firstI (((List.range m.length).map (mvR m)).drop k)) m.length ?_ ?_ ?_
  · simp only [go_sem, reduceIte, Nat.reduceEqDiff, Nat.reduceAdd, Nat.reduceMul, Nat.reduceSub, Nat.reduceLeDiff, Nat.reduceLT, Nat.reduceBEq, reduceCtorEq]; rfl
  · rintro k T H M hk ⟨rfl, g0, g3, hf⟩
    obtain ⟨x, hx⟩ : ∃ p, m[k]? = some p := ⟨m[k], by simp⟩
    have hr := map_at (f := Mv.row) hx
    have hw := wrap_succ hk hl
    have hfd := allR_step (f := mvR m) hk
    have hwp : 0 < k → wrapq .i64 (Int.sub (k : Int) 1) = ((k - 1 : Nat) : Int) := fun h => wrap_pred h (Nat.le_of_lt hk) hl
    obtain ⟨l, hl1⟩ : ∃ p, m[k - 1]? = some p := ⟨m[k - 1]'(by omega), by simp⟩
    have hr1 := map_at (f := Mv.row) hl1
    have hk1 : (k - 1 < m.length) = True := by simp; omega
    have hpos : ((0 : Int) < (k : Int)) = (0 < k) := by simp
    generalize hE : firstI [whenI (!nameB x.line) 8, whenI (!nameB x.other) 8, rangeI x.fr 0 800000, rangeI x.len 1 800000, rangeI x.to 0 800000] = E
    have hms : mvR m k = if E = 0 then (if decide (800000 < endI x) || decide (800000 < wrapq .i64 (Int.add x.to x.len)) then 4 else
      if decide (0 < k) && orderB l x then 11 else if (m.take k).any (fun y => overB y x) then 15 else 0) else E := by
      unfold mvR
      simp only [hx, hE]
      cases k with
      | zero => simp
      | succ j => simp at hl1; simp [hl1]
    obtain ⟨a, b, c, d, e, f⟩ := x
    obtain ⟨a', b', c', d', e', f'⟩ := l
    have h36a := e36 a
    have h36d := e36 d
    simp only [Mv.row] at hr hr1
    simp only at hE
    rcases Classical.propComplete (E = 0) with z | z
    case inr =>
      simp only [go_sem, reduceIte, Nat.reduceEqDiff, Nat.reduceAdd, Nat.reduceMul, Nat.reduceSub, Nat.reduceLeDiff, Nat.reduceLT, Nat.reduceBEq, reduceCtorEq, g0, g3, List.length_map, hk, hr, hw, e36, e35, e34_5, hE, z]
      simp [mapR, q1, hf, hfd, hms, z]
    rcases Classical.propComplete (800000 < endI ⟨a, b, c, d, e, f⟩) with z1 | z1 <;> rcases Classical.propComplete (800000 < wrapq .i64 (Int.add e c)) with z2 | z2
    case inr.inr =>
      have z1' := z1
      unfold endI at z1'
      simp only at z1'
      generalize hOr : (decide (0 < k) && orderB ⟨a', b', c', d', e', f'⟩ ⟨a, b, c, d, e, f⟩) = O at hms
      have hA : (O = true ∧ (0 < k) = True ∧ (strLt a a' = true ∨ (strLt a a' = false ∧ beqL a a' = true ∧ (b < wrapq .i64 (Int.add b' c')) = True))) ∨
          (O = false ∧ ((0 < k) = False ∨ ((0 < k) = True ∧ strLt a a' = false ∧ (beqL a a' = false ∨ (beqL a a' = true ∧ (b < wrapq .i64 (Int.add b' c')) = False))))) := by
        rw [← hOr]
        unfold orderB endI
        generalize wrapq .i64 (Int.add b' c') = W
        by_cases h1 : 0 < k <;> cases h2 : strLt a a' <;> cases h3 : beqL a a' <;> by_cases h4 : b < W <;> simp [h1, h4] <;> omega
      rcases hA with ⟨hO, h1, h2⟩ | ⟨hO, hB⟩
      · have h4 : mvR m k = 11 := by rw [hms]; unfold endI; simp only [z, z1', z2, hO, if_true, if_false, decide_false, Bool.or_self, Bool.false_eq_true]
        have hwp' := hwp (of_eq_true h1)
        rcases h2 with h2 | ⟨h2, h3, h5⟩
        · simp only [go_sem, reduceIte, Nat.reduceEqDiff, Nat.reduceAdd, Nat.reduceMul, Nat.reduceSub, Nat.reduceLeDiff, Nat.reduceLT, Nat.reduceBEq, reduceCtorEq, g0, g3, List.length_map, hk, hr, hw, e36, e35, e34_5, hE, z, z1', z2, hpos, h1, h2, hwp', hk1, hr1]
          simp [mapR, q1, hf, hfd, h4]
        · simp only [go_sem, reduceIte, Nat.reduceEqDiff, Nat.reduceAdd, Nat.reduceMul, Nat.reduceSub, Nat.reduceLeDiff, Nat.reduceLT, Nat.reduceBEq, reduceCtorEq, g0, g3, List.length_map, hk, hr, hw, e36, e35, e34_5, hE, z, z1', z2, hpos, h1, h2, h3, h5, hwp', hk1, hr1]
          simp [mapR, q1, hf, hfd, h4]
      · have h4 : mvR m k = if (m.take k).any (fun y => overB y ⟨a, b, c, d, e, f⟩) then 15 else 0 := by rw [hms]; unfold endI; simp only [z, z1', z2, hO, if_true, if_false, decide_false, Bool.or_self, Bool.false_eq_true]
        have hwp' : (0 < k) = True → wrapq .i64 (Int.sub (k : Int) 1) = ((k - 1 : Nat) : Int) := fun h => hwp (of_eq_true h)
        rcases hB with h1 | ⟨h1, h2, h3 | ⟨h3, h5⟩⟩
        · clear hwp'
          simp only [go_sem, reduceIte, Nat.reduceEqDiff, Nat.reduceAdd, Nat.reduceMul, Nat.reduceSub, Nat.reduceLeDiff, Nat.reduceLT, Nat.reduceBEq, reduceCtorEq, g0, g3, List.length_map, hk, hr, hw, e36, e35, e34_5, hE, z, z1', z2, hpos, h1]
          refine W_for (fun j T' H' M => M = [] ∧ getT T' 0 = .ps .unk (m.map Mv.row) ∧ getT T' 3 = i64 k ∧ getT T' 4 = .ptr H.n 0 ∧ getT T' 7 = i64 j ∧ H'.get H.n = .cells [.str a, i64 b, i64 c, .str d, i64 e, .bool f] 128 ∧ ∀ i y, i < j → m[i]? = some y → overB y ⟨a, b, c, d, e, f⟩ = false) k ?_ ?_ ?_
          · simp only [go_sem, reduceIte, Nat.reduceEqDiff, Nat.reduceAdd, Nat.reduceMul, Nat.reduceSub, Nat.reduceLeDiff, Nat.reduceLT, Nat.reduceBEq, reduceCtorEq, g0, g3]
            exact fun i y hi => absurd hi (by omega)
          · rintro j T' H' M' hj ⟨rfl, i0, i3, i4, i7, ih, hno⟩
            obtain ⟨y, hy⟩ : ∃ p, m[j]? = some p := ⟨m[j]'(by omega), by simp⟩
            have hry := map_at (f := Mv.row) hy
            have e125 := pe125 y ⟨a, b, c, d, e, f⟩
            have hjw : wrapq .i64 (Int.add (j : Int) 1) = ((j + 1 : Nat) : Int) := wrap_succ (Nat.lt_trans hj hk) hl
            have hjl : (j < m.length) = True := by simp; omega
            cases ho : overB y ⟨a, b, c, d, e, f⟩ with
            | true =>
              rw [ho] at e125
              obtain ⟨y1, y2, y3, y4, y5, y6⟩ := y
              simp only [Mv.row, i64] at hry e125
              simp only [go_sem, reduceIte, Nat.reduceEqDiff, Nat.reduceAdd, Nat.reduceMul, Nat.reduceSub, Nat.reduceLeDiff, Nat.reduceLT, Nat.reduceBEq, reduceCtorEq, i0, i3, i4, i7, ih, hj, hjl, List.length_map, hry, e125]
              have h5' : mvR m k = 15 := by rw [h4, any_take hj hy ho]; rfl
              simp [mapR, q1, hf, hfd, h5']
            | false =>
              rw [ho] at e125
              have hno' : ∀ i z, i < j + 1 → m[i]? = some z → overB z ⟨a, b, c, d, e, f⟩ = false := fun i z hi hz => by
                by_cases e : i = j
                · subst e; rw [hy] at hz; cases hz; exact ho
                · exact hno i z (by omega) hz
              obtain ⟨y1, y2, y3, y4, y5, y6⟩ := y
              simp only [Mv.row, i64] at hry e125
              simp only [go_sem, reduceIte, Nat.reduceEqDiff, Nat.reduceAdd, Nat.reduceMul, Nat.reduceSub, Nat.reduceLeDiff, Nat.reduceLT, Nat.reduceBEq, reduceCtorEq, i0, i3, i4, i7, ih, hj, hjl, List.length_map, hry, e125, hjw]
              exact hno'
          · rintro T' H' M' ⟨rfl, i0, i3, i4, i7, ih, hno⟩
            have h5' : mvR m k = 0 := by rw [h4, any_take_no hno]; rfl
            simp only [go_sem, reduceIte, Nat.reduceEqDiff, Nat.reduceAdd, Nat.reduceMul, Nat.reduceSub, Nat.reduceLeDiff, Nat.reduceLT, Nat.reduceBEq, reduceCtorEq, i0, i3, i4, i7, ih, Nat.lt_irrefl, hw]
            rw [hf, hfd, h5', if_pos rfl]
        · have hwp'' := hwp' h1
          simp only [go_sem, reduceIte, Nat.reduceEqDiff, Nat.reduceAdd, Nat.reduceMul, Nat.reduceSub, Nat.reduceLeDiff, Nat.reduceLT, Nat.reduceBEq, reduceCtorEq, g0, g3, List.length_map, hk, hr, hw, e36, e35, e34_5, hE, z, z1', z2, hpos, h1, h2, h3, hwp'', hk1, hr1]
          refine W_for (fun j T' H' M => M = [] ∧ getT T' 0 = .ps .unk (m.map Mv.row) ∧ getT T' 3 = i64 k ∧ getT T' 4 = .ptr H.n 0 ∧ getT T' 7 = i64 j ∧ H'.get H.n = .cells [.str a, i64 b, i64 c, .str d, i64 e, .bool f] 128 ∧ ∀ i y, i < j → m[i]? = some y → overB y ⟨a, b, c, d, e, f⟩ = false) k ?_ ?_ ?_
          · simp only [go_sem, reduceIte, Nat.reduceEqDiff, Nat.reduceAdd, Nat.reduceMul, Nat.reduceSub, Nat.reduceLeDiff, Nat.reduceLT, Nat.reduceBEq, reduceCtorEq, g0, g3]
            exact fun i y hi => absurd hi (by omega)
          · rintro j T' H' M' hj ⟨rfl, i0, i3, i4, i7, ih, hno⟩
            obtain ⟨y, hy⟩ : ∃ p, m[j]? = some p := ⟨m[j]'(by omega), by simp⟩
            have hry := map_at (f := Mv.row) hy
            have e125 := pe125 y ⟨a, b, c, d, e, f⟩
            have hjw : wrapq .i64 (Int.add (j : Int) 1) = ((j + 1 : Nat) : Int) := wrap_succ (Nat.lt_trans hj hk) hl
            have hjl : (j < m.length) = True := by simp; omega
            cases ho : overB y ⟨a, b, c, d, e, f⟩ with
            | true =>
              rw [ho] at e125
              obtain ⟨y1, y2, y3, y4, y5, y6⟩ := y
              simp only [Mv.row, i64] at hry e125
              simp only [go_sem, reduceIte, Nat.reduceEqDiff, Nat.reduceAdd, Nat.reduceMul, Nat.reduceSub, Nat.reduceLeDiff, Nat.reduceLT, Nat.reduceBEq, reduceCtorEq, i0, i3, i4, i7, ih, hj, hjl, List.length_map, hry, e125]
              have h5' : mvR m k = 15 := by rw [h4, any_take hj hy ho]; rfl
              simp [mapR, q1, hf, hfd, h5']
            | false =>
              rw [ho] at e125
              have hno' : ∀ i z, i < j + 1 → m[i]? = some z → overB z ⟨a, b, c, d, e, f⟩ = false := fun i z hi hz => by
                by_cases e : i = j
                · subst e; rw [hy] at hz; cases hz; exact ho
                · exact hno i z (by omega) hz
              obtain ⟨y1, y2, y3, y4, y5, y6⟩ := y
              simp only [Mv.row, i64] at hry e125
              simp only [go_sem, reduceIte, Nat.reduceEqDiff, Nat.reduceAdd, Nat.reduceMul, Nat.reduceSub, Nat.reduceLeDiff, Nat.reduceLT, Nat.reduceBEq, reduceCtorEq, i0, i3, i4, i7, ih, hj, hjl, List.length_map, hry, e125, hjw]
              exact hno'
          · rintro T' H' M' ⟨rfl, i0, i3, i4, i7, ih, hno⟩
            have h5' : mvR m k = 0 := by rw [h4, any_take_no hno]; rfl
            simp only [go_sem, reduceIte, Nat.reduceEqDiff, Nat.reduceAdd, Nat.reduceMul, Nat.reduceSub, Nat.reduceLeDiff, Nat.reduceLT, Nat.reduceBEq, reduceCtorEq, i0, i3, i4, i7, ih, Nat.lt_irrefl, hw]
            rw [hf, hfd, h5', if_pos rfl]
        · have hwp'' := hwp' h1
          simp only [go_sem, reduceIte, Nat.reduceEqDiff, Nat.reduceAdd, Nat.reduceMul, Nat.reduceSub, Nat.reduceLeDiff, Nat.reduceLT, Nat.reduceBEq, reduceCtorEq, g0, g3, List.length_map, hk, hr, hw, e36, e35, e34_5, hE, z, z1', z2, hpos, h1, h2, h3, h5, hwp'', hk1, hr1]
          refine W_for (fun j T' H' M => M = [] ∧ getT T' 0 = .ps .unk (m.map Mv.row) ∧ getT T' 3 = i64 k ∧ getT T' 4 = .ptr H.n 0 ∧ getT T' 7 = i64 j ∧ H'.get H.n = .cells [.str a, i64 b, i64 c, .str d, i64 e, .bool f] 128 ∧ ∀ i y, i < j → m[i]? = some y → overB y ⟨a, b, c, d, e, f⟩ = false) k ?_ ?_ ?_
          · simp only [go_sem, reduceIte, Nat.reduceEqDiff, Nat.reduceAdd, Nat.reduceMul, Nat.reduceSub, Nat.reduceLeDiff, Nat.reduceLT, Nat.reduceBEq, reduceCtorEq, g0, g3]
            exact fun i y hi => absurd hi (by omega)
          · rintro j T' H' M' hj ⟨rfl, i0, i3, i4, i7, ih, hno⟩
            obtain ⟨y, hy⟩ : ∃ p, m[j]? = some p := ⟨m[j]'(by omega), by simp⟩
            have hry := map_at (f := Mv.row) hy
            have e125 := pe125 y ⟨a, b, c, d, e, f⟩
            have hjw : wrapq .i64 (Int.add (j : Int) 1) = ((j + 1 : Nat) : Int) := wrap_succ (Nat.lt_trans hj hk) hl
            have hjl : (j < m.length) = True := by simp; omega
            cases ho : overB y ⟨a, b, c, d, e, f⟩ with
            | true =>
              rw [ho] at e125
              obtain ⟨y1, y2, y3, y4, y5, y6⟩ := y
              simp only [Mv.row, i64] at hry e125
              simp only [go_sem, reduceIte, Nat.reduceEqDiff, Nat.reduceAdd, Nat.reduceMul, Nat.reduceSub, Nat.reduceLeDiff, Nat.reduceLT, Nat.reduceBEq, reduceCtorEq, i0, i3, i4, i7, ih, hj, hjl, List.length_map, hry, e125]
              have h5' : mvR m k = 15 := by rw [h4, any_take hj hy ho]; rfl
              simp [mapR, q1, hf, hfd, h5']
            | false =>
              rw [ho] at e125
              have hno' : ∀ i z, i < j + 1 → m[i]? = some z → overB z ⟨a, b, c, d, e, f⟩ = false := fun i z hi hz => by
                by_cases e : i = j
                · subst e; rw [hy] at hz; cases hz; exact ho
                · exact hno i z (by omega) hz
              obtain ⟨y1, y2, y3, y4, y5, y6⟩ := y
              simp only [Mv.row, i64] at hry e125
              simp only [go_sem, reduceIte, Nat.reduceEqDiff, Nat.reduceAdd, Nat.reduceMul, Nat.reduceSub, Nat.reduceLeDiff, Nat.reduceLT, Nat.reduceBEq, reduceCtorEq, i0, i3, i4, i7, ih, hj, hjl, List.length_map, hry, e125, hjw]
              exact hno'
          · rintro T' H' M' ⟨rfl, i0, i3, i4, i7, ih, hno⟩
            have h5' : mvR m k = 0 := by rw [h4, any_take_no hno]; rfl
            simp only [go_sem, reduceIte, Nat.reduceEqDiff, Nat.reduceAdd, Nat.reduceMul, Nat.reduceSub, Nat.reduceLeDiff, Nat.reduceLT, Nat.reduceBEq, reduceCtorEq, i0, i3, i4, i7, ih, Nat.lt_irrefl, hw]
            rw [hf, hfd, h5', if_pos rfl]
    all_goals
      unfold endI at z1
      simp only at z1
      simp only [go_sem, reduceIte, Nat.reduceEqDiff, Nat.reduceAdd, Nat.reduceMul, Nat.reduceSub, Nat.reduceLeDiff, Nat.reduceLT, Nat.reduceBEq, reduceCtorEq, g0, g3, List.length_map, hk, hr, hw, e36, e35, e34_5, hE, z, z1, z2]
      have h4 : mvR m k = 4 := by rw [hms]; unfold endI; simp only [z, z1, z2, if_true, decide_true, Bool.true_or, Bool.or_true]
      simp [mapR, q1, hf, hfd, h4]
  · rintro T H M ⟨rfl, g0, g3, hf⟩
    rw [allR_end] at hf
    simp only [go_sem, reduceIte, Nat.reduceEqDiff, Nat.reduceAdd, Nat.reduceMul, Nat.reduceSub, Nat.reduceLeDiff, Nat.reduceLT, Nat.reduceBEq, reduceCtorEq, g0, g3, Nat.lt_irrefl]
    simp [mapR, q1, hf]
noncomputable def p44 : List AV → Option AV := primOf (α := (List Mv)) (fun x => [.ps .unk (x.map Mv.row)]) (fun x => x.length ≤ maxRows) (fun x => i64 (mapR x))
theorem pok44 : ∀ args v, p44 args = some v → ∀ lo H, CallOk NC lo 44 args H v H := by
  intro args v h
  obtain ⟨x, rfl, hp, rfl⟩ := primOf_inv h
  exact c44 x hp
theorem pe44 (m : List Mv) (hp : m.length ≤ maxRows) : p44 [.ps .unk (m.map Mv.row)] = some (.int .i64 (mapR m)) := primOf_enc (α := (List Mv)) (enc := fun x => [.ps .unk (x.map Mv.row)]) (pre := fun x => x.length ≤ maxRows) (spec := fun x => i64 (mapR x)) (by intro x y h; (simp only [List.cons.injEq, AV.agg.injEq, AV.str.injEq, AV.int.injEq, AV.ps.injEq, AV.bool.injEq, Net.cells_iff, Ln.row_iff, Pc.row_iff, Mv.row_iff, lns_iff, pcs_iff, mvs_iff, true_and, and_true] at h; first | simpa only [Prod.ext_iff] using h | simpa only [Prod.ext_iff, and_assoc] using h)) m hp
def fitsR (a b : Net) (m : List Mv) : Int := firstI (m.map (fitsI a b))
theorem errs_drop {α : Type} {f : α → Int} {l : List α} {k : Nat} {x : α} (h : l[k]? = some x) : firstI ((l.map f).drop k) = if f x = 0 then firstI ((l.map f).drop (k + 1)) else f x := firstI_drop (by simp [h])
noncomputable def PPF45 : FuncId → Option (List AV → Option AV) := addPrim 34 p34 (addPrim 126 p126 (fun _ => none))
theorem primsF45 : PrimsOk NC PPF45 := primsOk_add (primsOk_add (primsOk_none) (by kernel_rfl) (by kernel_rfl) pok126) (by kernel_rfl) (by kernel_rfl) pok34
theorem enF45_126 : En PPF45 126 p126 := enter_prim (by rfl) (by kernel_rfl)
theorem enF45_34 : En PPF45 34 p34 := enter_prim (by rfl) (by kernel_rfl)
attribute [go_sem ↓] enF45_126 enF45_34
theorem c45 (m : List Mv) (a b : Net) (hp : m.length ≤ maxRows ∧ a.fits ∧ b.fits) : ∀ lo H, CallOk NC lo 45 [.ps .unk (m.map Mv.row), .agg a.cells, .agg b.cells] H (i64 (fitsR a b m)) H := by
  refine contract saneNC primsF45 (fn := Tryz.f45) (by kernel_rfl) Tryz.func45 rfl rfl (by rfl) (by first | rfl | (split <;> first | rfl | (split <;> rfl))) ?_
  have hl := hp.1
  simp only [go_sem, reduceIte, Nat.reduceEqDiff, Nat.reduceAdd, Nat.reduceMul, Nat.reduceSub, Nat.reduceLeDiff, Nat.reduceLT, Nat.reduceBEq, reduceCtorEq, Net.cells, List.length_map]
  refine W_for (fun k T H M => M = [] ∧ getT T 0 = .ps .unk (m.map Mv.row) ∧ getT T 4 = .ptr 0 0 ∧ getT T 5 = .ptr 1 0 ∧ getT T 7 = i64 k ∧ H.get 0 = .cells a.cells 26 ∧ H.get 1 = .cells b.cells 26 ∧ 1 < H.n ∧ fitsR a b m = firstI ((m.map (fitsI a b)).drop k)) m.length ?_ ?_ ?_
  · simp only [go_sem, reduceIte, Nat.reduceEqDiff, Nat.reduceAdd, Nat.reduceMul, Nat.reduceSub, Nat.reduceLeDiff, Nat.reduceLT, Nat.reduceBEq, reduceCtorEq, Net.cells]
    try exact rfl
  · rintro k T H M hk ⟨rfl, g0, g4, g5, g7, h0, h1, hn, hf⟩
    obtain ⟨x, hx⟩ : ∃ p, m[k]? = some p := ⟨m[k], by simp⟩
    have hr := map_at (f := Mv.row) hx
    have hw := wrap_succ hk hl
    rw [errs_drop hx] at hf
    have b0 : (0 = H.n) = False := by simp; omega
    have b1 : (1 = H.n) = False := by simp; omega
    have b2 : 1 < H.n + 1 := by omega
    have ea := pe126 (a, x.line, x.fr, endI x) hp.2.1
    have eb := pe126 (b, x.other, x.to, wrapq .i64 (Int.add x.to x.len)) hp.2.2
    generalize hE : fitsI a b x = E at hf
    unfold fitsI at hE
    obtain ⟨x1, x2, x3, x4, x5, x6⟩ := x
    unfold endI at ea hE
    simp only [Mv.row, Net.cells, i64] at hr ea eb h0 h1 hE
    rcases Classical.propComplete (E = 0) with z | z
    · simp only [go_sem, reduceIte, Nat.reduceEqDiff, Nat.reduceAdd, Nat.reduceMul, Nat.reduceSub, Nat.reduceLeDiff, Nat.reduceLT, Nat.reduceBEq, reduceCtorEq, g0, g4, g5, g7, h0, h1, b0, b1, hk, hr, hw, ea, eb, e34_2, hE, z, List.length_map]
      simp [hf, z, Net.cells, b2]
    · simp only [go_sem, reduceIte, Nat.reduceEqDiff, Nat.reduceAdd, Nat.reduceMul, Nat.reduceSub, Nat.reduceLeDiff, Nat.reduceLT, Nat.reduceBEq, reduceCtorEq, g0, g4, g5, g7, h0, h1, b0, b1, hk, hr, hw, ea, eb, e34_2, hE, z, List.length_map]
      simp [hf, z]
  · rintro T H M ⟨rfl, g0, g4, g5, g7, h0, h1, hn, hf⟩
    rw [List.drop_eq_nil_of_le (by simp)] at hf
    simp only [go_sem, reduceIte, Nat.reduceEqDiff, Nat.reduceAdd, Nat.reduceMul, Nat.reduceSub, Nat.reduceLeDiff, Nat.reduceLT, Nat.reduceBEq, reduceCtorEq, g0, g4, g5, g7, Nat.lt_irrefl, List.length_map]
    rw [hf]; rfl
noncomputable def p45 : List AV → Option AV := primOf (α := (List Mv) × (Net) × (Net)) (fun x => [.ps .unk (x.1.map Mv.row), .agg x.2.1.cells, .agg x.2.2.cells]) (fun x => x.1.length ≤ maxRows ∧ x.2.1.fits ∧ x.2.2.fits) (fun x => i64 (fitsR x.2.1 x.2.2 x.1))
theorem pok45 : ∀ args v, p45 args = some v → ∀ lo H, CallOk NC lo 45 args H v H := by
  intro args v h
  obtain ⟨x, rfl, hp, rfl⟩ := primOf_inv h
  exact c45 x.1 x.2.1 x.2.2 hp
theorem pe45 (m : List Mv) (a b : Net) (hp : m.length ≤ maxRows ∧ a.fits ∧ b.fits) : p45 [.ps .unk (m.map Mv.row), .agg a.cells, .agg b.cells] = some (.int .i64 (fitsR a b m)) := primOf_enc (α := (List Mv) × (Net) × (Net)) (enc := fun x => [.ps .unk (x.1.map Mv.row), .agg x.2.1.cells, .agg x.2.2.cells]) (pre := fun x => x.1.length ≤ maxRows ∧ x.2.1.fits ∧ x.2.2.fits) (spec := fun x => i64 (fitsR x.2.1 x.2.2 x.1)) (by intro x y h; (simp only [List.cons.injEq, AV.agg.injEq, AV.str.injEq, AV.int.injEq, AV.ps.injEq, AV.bool.injEq, Net.cells_iff, Ln.row_iff, Pc.row_iff, Mv.row_iff, lns_iff, pcs_iff, mvs_iff, true_and, and_true] at h; first | simpa only [Prod.ext_iff] using h | simpa only [Prod.ext_iff, and_assoc] using h)) (m, a, b) hp
def kR (x : Mv) (q : Int) : Int := wrapq .i64 (Int.sub q x.fr)
def atR (x : Mv) (k : Int) : Int := if x.turned then wrapq .i64 (Int.sub (wrapq .i64 (Int.sub (wrapq .i64 (Int.add x.to x.len)) 1)) k) else wrapq .i64 (Int.add x.to k)
def hitR (s : List Nat) (q : Int) (x : Mv) : Bool := beqL x.line s && !decide (kR x q < 0) && decide (kR x q < x.len)
def carR (m : List Mv) (s : List Nat) (q : Int) : List AV := match m.find? (hitR s q) with
  | none => [noPlace, .bool false]
  | some x => [.agg [.str x.other, i64 (atR x (kR x q))], .bool true]
theorem carR_pure (m : List Mv) (s : List Nat) (k : Int) : (AV.tup (carR m s k)).pure = true := by
  unfold carR; split <;> rfl
noncomputable def PPF47 : FuncId → Option (List AV → Option AV) := fun _ => none
theorem primsF47 : PrimsOk NC PPF47 := primsOk_none
theorem c47 (m : List Mv) (s : List Nat) (q : Int) (hp : m.length ≤ maxRows) : ∀ lo H, CallOk NC lo 47 [.ps .unk (m.map Mv.row), .agg [.str s, i64 q]] H (.tup (carR m s q)) H := by
  refine contract saneNC primsF47 (fn := Tryz.f47) (by kernel_rfl) Tryz.func47 rfl rfl (by rfl) (carR_pure m s q) ?_
  simp only [go_sem, reduceIte, Nat.reduceEqDiff, Nat.reduceAdd, Nat.reduceMul, Nat.reduceSub, Nat.reduceLeDiff, Nat.reduceLT, Nat.reduceBEq, reduceCtorEq]
  refine W_for (fun k T H M => M = [] ∧ getT T 0 = .ps .unk (m.map Mv.row) ∧ getT T 3 = .ptr 0 0 ∧ getT T 4 = .ptr 1 0 ∧ getT T 6 = i64 k ∧ H.get 0 = .cells [.str s, i64 q] 28 ∧ H.get 1 = .cells [.str [], i64 0] 28 ∧ 1 < H.n ∧ ∀ j x, j < k → m[j]? = some x → hitR s q x = false) m.length ?_ ?_ ?_
  · simp only [go_sem, reduceIte, Nat.reduceEqDiff, Nat.reduceAdd, Nat.reduceMul, Nat.reduceSub, Nat.reduceLeDiff, Nat.reduceLT, Nat.reduceBEq, reduceCtorEq]; exact fun j x hj => absurd hj (by omega)
  · rintro k T H M hk ⟨rfl, g0, g3, g4, g6, h0, h1, hn, hf⟩
    obtain ⟨x, hx⟩ : ∃ p, m[k]? = some p := ⟨m[k], by simp⟩
    have hr := map_at (f := Mv.row) hx
    have hw := wrap_succ hk hp
    have b0 : (0 = H.n) = False := by simp; omega
    have b1 : (1 = H.n) = False := by simp; omega
    have b2 : 1 < H.n + 1 := by omega
    have hnext : hitR s q x = false → ∀ j y, j < k + 1 → m[j]? = some y → hitR s q y = false := fun hh j y hj hy => by
      by_cases e : j = k
      · subst e; rw [hx] at hy; cases hy; exact hh
      · exact hf j y (by omega) hy
    have hhit : hitR s q x = true → carR m s q = [.agg [.str x.other, i64 (atR x (kR x q))], .bool true] := fun hh => by unfold carR; rw [find_at hf hx hh]
    have hh : hitR s q x = (beqL x.line s && !decide (kR x q < 0) && decide (kR x q < x.len)) := rfl
    rw [hh] at hnext hhit
    clear hh
    unfold kR at hnext
    unfold kR atR at hhit
    obtain ⟨a, b, c, d, e, f⟩ := x
    simp only [Mv.row] at hr
    simp only at hnext hhit
    cases h2 : beqL a s <;> rcases Classical.propComplete (wrapq .i64 (Int.sub q b) < 0) with h3 | h3 <;> rcases Classical.propComplete (wrapq .i64 (Int.sub q b) < c) with h4 | h4 <;> cases f <;> simp only [go_sem, reduceIte, Nat.reduceEqDiff, Nat.reduceAdd, Nat.reduceMul, Nat.reduceSub, Nat.reduceLeDiff, Nat.reduceLT, Nat.reduceBEq, reduceCtorEq, g0, g3, g4, g6, h0, h1, b0, b1, hk, hr, hw, h2, h3, h4, List.length_map]
    all_goals first | (rw [hhit (by simp [h2, h3, h4])]; done) | (rw [hhit (by simp [h2, h3, h4])]; rfl) | exact ⟨b2, hnext (by simp [h2, h3, h4])⟩ | exact ⟨h0, h1, b2, hnext (by simp [h2, h3, h4])⟩ | skip
  · rintro T H M ⟨rfl, g0, g3, g4, g6, h0, h1, hn, hf⟩
    simp only [go_sem, reduceIte, Nat.reduceEqDiff, Nat.reduceAdd, Nat.reduceMul, Nat.reduceSub, Nat.reduceLeDiff, Nat.reduceLT, Nat.reduceBEq, reduceCtorEq, g0, g3, g4, g6, h0, h1, Nat.lt_irrefl, List.length_map]
    unfold carR
    rw [find_no hf]
    rfl
noncomputable def p47 : List AV → Option AV := primOf (α := (List Mv) × (List Nat) × (Int)) (fun x => [.ps .unk (x.1.map Mv.row), .agg [.str x.2.1, i64 x.2.2]]) (fun x => x.1.length ≤ maxRows) (fun x => .tup (carR x.1 x.2.1 x.2.2))
theorem pok47 : ∀ args v, p47 args = some v → ∀ lo H, CallOk NC lo 47 args H v H := by
  intro args v h
  obtain ⟨x, rfl, hp, rfl⟩ := primOf_inv h
  exact c47 x.1 x.2.1 x.2.2 hp
theorem pe47 (m : List Mv) (s : List Nat) (q : Int) (hp : m.length ≤ maxRows) : p47 [.ps .unk (m.map Mv.row), .agg [.str s, .int .i64 q]] = some (.tup (carR m s q)) := primOf_enc (α := (List Mv) × (List Nat) × (Int)) (enc := fun x => [.ps .unk (x.1.map Mv.row), .agg [.str x.2.1, i64 x.2.2]]) (pre := fun x => x.1.length ≤ maxRows) (spec := fun x => .tup (carR x.1 x.2.1 x.2.2)) (by intro x y h; (simp only [List.cons.injEq, AV.agg.injEq, AV.str.injEq, AV.int.injEq, AV.ps.injEq, AV.bool.injEq, Net.cells_iff, Ln.row_iff, Pc.row_iff, Mv.row_iff, lns_iff, pcs_iff, mvs_iff, true_and, and_true] at h; first | simpa only [Prod.ext_iff] using h | simpa only [Prod.ext_iff, and_assoc] using h)) (m, s, q) hp
def shortMv (x : Mv) : Bool := shortB x.line && shortB x.other
def shortM (m : List Mv) : Bool := m.all shortMv && !decide ((25 : Int) < m.length)
noncomputable def PPF41 : FuncId → Option (List AV → Option AV) := addPrim 97 p97 (fun _ => none)
theorem primsF41 : PrimsOk NC PPF41 := primsOk_add (primsOk_none) (by kernel_rfl) (by kernel_rfl) pok97
theorem enF41_97 : En PPF41 97 p97 := enter_prim (by rfl) (by kernel_rfl)
attribute [go_sem ↓] enF41_97
theorem c41 (m : List Mv) (hp : m.length ≤ 9223372036854775807) : ∀ lo H, CallOk NC lo 41 [.ps .unk (m.map Mv.row)] H (.bool (shortM m)) H := by
  refine contract saneNC primsF41 (fn := Tryz.f41) (by kernel_rfl) Tryz.func41 rfl rfl (by rfl) (by first | rfl | (split <;> first | rfl | (split <;> rfl))) ?_
  have hl := hp
  simp only [go_sem, reduceIte, Nat.reduceEqDiff, Nat.reduceAdd, Nat.reduceMul, Nat.reduceSub, Nat.reduceLeDiff, Nat.reduceLT, Nat.reduceBEq, reduceCtorEq]
  refine W_for (fun k T H M => M = [] ∧ getT T 0 = .ps .unk (m.map Mv.row) ∧ getT T 3 = i64 k ∧ ∀ (j : Nat) x, j < k → m[j]? = some x → shortMv x = true) m.length ?_ ?_ ?_
  · simp only [go_sem, reduceIte, Nat.reduceEqDiff, Nat.reduceAdd, Nat.reduceMul, Nat.reduceSub, Nat.reduceLeDiff, Nat.reduceLT, Nat.reduceBEq, reduceCtorEq]; exact fun j x hj => absurd hj (by omega)
  · rintro k T H M hk ⟨rfl, g0, g3, hall⟩
    obtain ⟨x, hx⟩ : ∃ p, m[k]? = some p := ⟨m[k], by simp⟩
    have hr := map_at (f := Mv.row) hx
    have hw : wrapq .i64 (Int.add (k : Int) 1) = ((k + 1 : Nat) : Int) := wrap_nat (n := k + 1) (by omega)
    simp only [Mv.row] at hr
    cases d1 : shortB x.line <;> cases d2 : shortB x.other <;> simp only [go_sem, reduceIte, Nat.reduceEqDiff, Nat.reduceAdd, Nat.reduceMul, Nat.reduceSub, Nat.reduceLeDiff, Nat.reduceLT, Nat.reduceBEq, reduceCtorEq, g0, g3, List.length_map, hk, hr, hw, e97, d1, d2]
    case true.true =>
      refine fun j y hj hy => ?_
      by_cases e : j = k
      · subst e; rw [hx] at hy; cases hy; simp [shortMv, d1, d2]
      · exact hall j y (by omega) hy
    all_goals unfold shortM; rw [all_false hx (by simp [shortMv, d1, d2])]; try rfl
  · rintro T H M ⟨rfl, g0, g3, hall⟩
    simp only [go_sem, reduceIte, Nat.reduceEqDiff, Nat.reduceAdd, Nat.reduceMul, Nat.reduceSub, Nat.reduceLeDiff, Nat.reduceLT, Nat.reduceBEq, reduceCtorEq, g0, g3, List.length_map, Nat.lt_irrefl]
    unfold shortM; rw [all_true hall]; rfl
noncomputable def p41 : List AV → Option AV := primOf (α := (List Mv)) (fun x => [.ps .unk (x.map Mv.row)]) (fun x => x.length ≤ 9223372036854775807) (fun x => .bool (shortM x))
theorem pok41 : ∀ args v, p41 args = some v → ∀ lo H, CallOk NC lo 41 args H v H := by
  intro args v h
  obtain ⟨x, rfl, hp, rfl⟩ := primOf_inv h
  exact c41 x hp
theorem pe41 (m : List Mv) (hp : m.length ≤ 9223372036854775807) : p41 [.ps .unk (m.map Mv.row)] = some (.bool (shortM m)) := primOf_enc (α := (List Mv)) (enc := fun x => [.ps .unk (x.map Mv.row)]) (pre := fun x => x.length ≤ 9223372036854775807) (spec := fun x => .bool (shortM x)) (by intro x y h; (simp only [List.cons.injEq, AV.agg.injEq, AV.str.injEq, AV.int.injEq, AV.ps.injEq, AV.bool.injEq, Net.cells_iff, Ln.row_iff, Pc.row_iff, Mv.row_iff, lns_iff, pcs_iff, mvs_iff, true_and, and_true] at h; first | simpa only [Prod.ext_iff] using h | simpa only [Prod.ext_iff, and_assoc] using h)) m hp
noncomputable def PPF43 : FuncId → Option (List AV → Option AV) := fun _ => none
theorem primsF43 : PrimsOk NC PPF43 := primsOk_none
theorem c43 (m : List Mv) (hp : m.length ≤ maxRows) : ∀ lo H, CallOk NC lo 43 [.ps .unk (m.map Mv.row)] H (.ps .unk (m.map Mv.row)) H := by
  refine contract saneNC primsF43 (fn := Tryz.f43) (by kernel_rfl) Tryz.func43 rfl rfl (by rfl) (by first | rfl | (split <;> first | rfl | (split <;> rfl))) ?_
  have hl := hp
  simp only [go_sem, reduceIte, Nat.reduceEqDiff, Nat.reduceAdd, Nat.reduceMul, Nat.reduceSub, Nat.reduceLeDiff, Nat.reduceLT, Nat.reduceBEq, reduceCtorEq]
  refine W_for (fun k T H M => M = [] ∧ getT T 6 = .ps .unk (m.map Mv.row) ∧ getT T 7 = i64 (m.length : Nat) ∧ getT T 8 = i64 k ∧ ∃ t, getT T 3 = .ps t ((m.take k).map Mv.row) ∧ App H t ((m.take k).map Mv.row) 6 130) m.length ?_ ?_ ?_
  · simp only [go_sem, reduceIte, Nat.reduceEqDiff, Nat.reduceAdd, Nat.reduceMul, Nat.reduceSub, Nat.reduceLeDiff, Nat.reduceLT, Nat.reduceBEq, reduceCtorEq, List.length_map]; exact ⟨.nil, by simp, .inl ⟨rfl, rfl⟩⟩
  · rintro k T H M hk ⟨rfl, g6, g7, g8, t, g3, hA⟩
    obtain ⟨x, hx⟩ : ∃ p, m[k]? = some p := ⟨m[k], by simp⟩
    have hr := map_at (f := Mv.row) hx
    have hw := wrap_succ hk hl
    have htk := take_map (f := Mv.row) hx
    obtain ⟨t', H1, ha, hB, hn1, hc1, _⟩ := app_any (H := (H.push (.cells [.str [], .int .i64 0, .int .i64 0, .str [], .int .i64 0, .bool false] 128)).set H.n (.cells x.row 128)) (hA.fresh _ _ rfl) (r := x.row) (by simp; omega) rfl (by decide) (rows_all Mv.row_len _)
    obtain ⟨a, b, c, d, e, f⟩ := x
    simp only [Mv.row] at hr ha
    simp only [go_sem, reduceIte, Nat.reduceEqDiff, Nat.reduceAdd, Nat.reduceMul, Nat.reduceSub, Nat.reduceLeDiff, Nat.reduceLT, Nat.reduceBEq, reduceCtorEq, g6, g7, g8, g3, List.length_map, hk, hr, hw, appO, ha]
    rw [htk]
    exact ⟨t', rfl, hB⟩
  · rintro T H M ⟨rfl, g6, g7, g8, t, g3, hA⟩
    simp only [go_sem, reduceIte, Nat.reduceEqDiff, Nat.reduceAdd, Nat.reduceMul, Nat.reduceSub, Nat.reduceLeDiff, Nat.reduceLT, Nat.reduceBEq, reduceCtorEq, g6, g7, g8, g3, List.take_length, Nat.lt_irrefl]
noncomputable def p43 : List AV → Option AV := primOf (α := (List Mv)) (fun x => [.ps .unk (x.map Mv.row)]) (fun x => x.length ≤ maxRows) (fun x => .ps .unk (x.map Mv.row))
theorem pok43 : ∀ args v, p43 args = some v → ∀ lo H, CallOk NC lo 43 args H v H := by
  intro args v h
  obtain ⟨x, rfl, hp, rfl⟩ := primOf_inv h
  exact c43 x hp
theorem pe43 (m : List Mv) (hp : m.length ≤ maxRows) : p43 [.ps .unk (m.map Mv.row)] = some (.ps .unk (m.map Mv.row)) := primOf_enc (α := (List Mv)) (enc := fun x => [.ps .unk (x.map Mv.row)]) (pre := fun x => x.length ≤ maxRows) (spec := fun x => .ps .unk (x.map Mv.row)) (by intro x y h; (simp only [List.cons.injEq, AV.agg.injEq, AV.str.injEq, AV.int.injEq, AV.ps.injEq, AV.bool.injEq, Net.cells_iff, Ln.row_iff, Pc.row_iff, Mv.row_iff, lns_iff, pcs_iff, mvs_iff, true_and, and_true] at h; first | simpa only [Prod.ext_iff] using h | simpa only [Prod.ext_iff, and_assoc] using h)) m hp
def carriedP (m : List Mv) (s : List Nat) (q : Int) : List AV :=
  let e := firstI [mapP m, whenI (!nameB s) 8, rangeI q 0 800000]
  if e = 0 then (match m.find? (hitMv s q) with
    | none => [noPlace, i64 7]
    | some x => [.agg [.str x.other, i64 (atI x q)], i64 0]) else [noPlace, i64 e]
theorem carriedP_pure (m : List Mv) (s : List Nat) (k : Int) : (AV.tup (carriedP m s k)).pure = true := by
  unfold carriedP; simp only []; repeat' split
  all_goals rfl
theorem carP_shape (m : List Mv) (s : List Nat) (q : Int) : ∃ s' k b, carP m s q = [.agg [.str s', .int .i64 k], .bool b] ∧ carriedP m s q = (let e := firstI [mapP m, whenI (!nameB s) 8, rangeI q 0 800000]; if e = 0 then [.agg [.str s', .int .i64 k], i64 (whenI (!b) 7)] else [noPlace, i64 e]) := by
  unfold carP carriedP
  cases m.find? (hitMv s q) with
  | none => exact ⟨_, _, _, rfl, rfl⟩
  | some x => exact ⟨_, _, _, rfl, rfl⟩
noncomputable def PPF42 : FuncId → Option (List AV → Option AV) := addPrim 121 p121 (addPrim 124 p124 (addPrim 111 p111 (addPrim 115 p115 (addPrim 120 p120 (addPrim 49 p49 (fun _ => none))))))
theorem primsF42 : PrimsOk NC PPF42 := primsOk_add (primsOk_add (primsOk_add (primsOk_add (primsOk_add (primsOk_add (primsOk_none) (by kernel_rfl) (by kernel_rfl) pok49) (by kernel_rfl) (by kernel_rfl) pok120) (by kernel_rfl) (by kernel_rfl) pok115) (by kernel_rfl) (by kernel_rfl) pok111) (by kernel_rfl) (by kernel_rfl) pok124) (by kernel_rfl) (by kernel_rfl) pok121
theorem enF42_49 : En PPF42 49 p49 := enter_prim (by rfl) (by kernel_rfl)
theorem enF42_120 : En PPF42 120 p120 := enter_prim (by rfl) (by kernel_rfl)
theorem enF42_115 : En PPF42 115 p115 := enter_prim (by rfl) (by kernel_rfl)
theorem enF42_111 : En PPF42 111 p111 := enter_prim (by rfl) (by kernel_rfl)
theorem enF42_124 : En PPF42 124 p124 := enter_prim (by rfl) (by kernel_rfl)
theorem enF42_121 : En PPF42 121 p121 := enter_prim (by rfl) (by kernel_rfl)
attribute [go_sem ↓] enF42_49 enF42_120 enF42_115 enF42_111 enF42_124 enF42_121
theorem c42 (m : List Mv) (s : List Nat) (q : Int) (hp : MapOk m ∧ s.length ≤ maxRows) : ∀ lo H, CallOk NC lo 42 [.ps .unk (m.map Mv.row), .agg [.str s, i64 q]] H (.tup (carriedP m s q)) H := by
  refine contract saneNC primsF42 (fn := Tryz.f42) (by kernel_rfl) Tryz.func42 rfl rfl (by rfl) (carriedP_pure m s q) ?_
  obtain ⟨s', k, b, hc, hcp⟩ := carP_shape m s q
  have e49 := pe49 m hp.1
  have e124 := pe124 m s q hp.1.few
  have e120' := e120 s hp.2
  rw [hc] at e124
  rw [hcp]
  generalize hE : firstI [mapP m, whenI (!nameB s) 8, rangeI q 0 800000] = E
  rcases Classical.propComplete (E = 0) with z | z
  · simp only [go_sem, reduceIte, Nat.reduceEqDiff, Nat.reduceAdd, Nat.reduceMul, Nat.reduceSub, Nat.reduceLeDiff, Nat.reduceLT, Nat.reduceBEq, reduceCtorEq, e49, e120', e115, e111_3, hE, z, e124, e121]
  · simp only [go_sem, reduceIte, Nat.reduceEqDiff, Nat.reduceAdd, Nat.reduceMul, Nat.reduceSub, Nat.reduceLeDiff, Nat.reduceLT, Nat.reduceBEq, reduceCtorEq, e49, e120', e115, e111_3, hE, z, noPlace]
noncomputable def p42 : List AV → Option AV := primOf (α := (List Mv) × (List Nat) × (Int)) (fun x => [.ps .unk (x.1.map Mv.row), .agg [.str x.2.1, i64 x.2.2]]) (fun x => MapOk x.1 ∧ x.2.1.length ≤ maxRows) (fun x => .tup (carriedP x.1 x.2.1 x.2.2))
theorem pok42 : ∀ args v, p42 args = some v → ∀ lo H, CallOk NC lo 42 args H v H := by
  intro args v h
  obtain ⟨x, rfl, hp, rfl⟩ := primOf_inv h
  exact c42 x.1 x.2.1 x.2.2 hp
theorem pe42 (m : List Mv) (s : List Nat) (q : Int) (hp : MapOk m ∧ s.length ≤ maxRows) : p42 [.ps .unk (m.map Mv.row), .agg [.str s, .int .i64 q]] = some (.tup (carriedP m s q)) := primOf_enc (α := (List Mv) × (List Nat) × (Int)) (enc := fun x => [.ps .unk (x.1.map Mv.row), .agg [.str x.2.1, i64 x.2.2]]) (pre := fun x => MapOk x.1 ∧ x.2.1.length ≤ maxRows) (spec := fun x => .tup (carriedP x.1 x.2.1 x.2.2)) (by intro x y h; (simp only [List.cons.injEq, AV.agg.injEq, AV.str.injEq, AV.int.injEq, AV.ps.injEq, AV.bool.injEq, Net.cells_iff, Ln.row_iff, Pc.row_iff, Mv.row_iff, lns_iff, pcs_iff, mvs_iff, true_and, and_true] at h; first | simpa only [Prod.ext_iff] using h | simpa only [Prod.ext_iff, and_assoc] using h)) (m, s, q) hp
end Go.Sim
