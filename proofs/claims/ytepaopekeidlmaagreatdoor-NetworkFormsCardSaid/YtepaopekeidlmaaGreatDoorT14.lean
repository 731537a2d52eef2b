/-
The parts NetF2, NetD1, NetD2, NetAwake, NetZ1, NetD4, NetS1, NetFacts2, NetI0, NetI1, NetG1, NetM6, NetW1, NetW2, NetW3, NetG2, NetF3, NetF4, NetF5, NetG3, NetG4 of one proof, joined: each begins with a remark that says what it shows.
-/
import Derived.Test.YtepaopekeidlmaaGreatDoorT13
import GoSem.Step
set_option linter.unusedSimpArgs false
set_option linter.unusedVariables false

/-
The plain law of short forms: the order of places; ascending lists; sorted moves.
-/
namespace Go.Sim
open Go
/-! ### The order of strings and of places -/
theorem strLt_irrefl : ∀ a : List Nat, strLt a a = false
  | [] => rfl
  | a :: x => by
    unfold strLt
    rw [strLt_irrefl x, Bool.and_false, Bool.or_false]
    cases h : Nat.blt a a with
    | false => rfl
    | true =>
      rw [Nat.blt_eq] at h
      omega
theorem strLt_cons {a b : Nat} {x y : List Nat} : strLt (a :: x) (b :: y) = true ↔ a < b ∨ (a = b ∧ strLt x y = true) := by
  show (Nat.blt a b || (Nat.beq a b && strLt x y)) = true ↔ _
  simp only [Bool.or_eq_true, Bool.and_eq_true, Nat.blt_eq, Nat.beq_eq]
theorem strLt_trans : ∀ {a b c : List Nat}, strLt a b = true → strLt b c = true → strLt a c = true
  | _, [], _, h, _ => by cases ‹List Nat› <;> simp [strLt] at h
  | _, _ :: _, [], _, h => by simp [strLt] at h
  | [], _ :: _, _ :: _, _, _ => rfl
  | a :: x, b :: y, c :: z, h1, h2 => by
    rw [strLt_cons] at h1 h2 ⊢
    rcases h1 with h1 | ⟨rfl, h1⟩
    · rcases h2 with h2 | ⟨rfl, h2⟩
      · exact .inl (by omega)
      · exact .inl h1
    · rcases h2 with h2 | ⟨rfl, h2⟩
      · exact .inl h2
      · exact .inr ⟨rfl, strLt_trans h1 h2⟩
theorem strLt_tri : ∀ a b : List Nat, strLt a b = true ∨ a = b ∨ strLt b a = true
  | [], [] => .inr (.inl rfl)
  | [], _ :: _ => .inl rfl
  | _ :: _, [] => .inr (.inr rfl)
  | a :: x, b :: y => by
    rw [strLt_cons, strLt_cons]
    rcases Nat.lt_trichotomy a b with h | h | h
    · exact .inl (.inl h)
    · subst h
      rcases strLt_tri x y with h | h | h
      · exact .inl (.inr ⟨rfl, h⟩)
      · subst h; exact .inr (.inl rfl)
      · exact .inr (.inr (.inr ⟨rfl, h⟩))
    · exact .inr (.inr (.inl h))
def plt (a : List Nat) (i : Int) (b : List Nat) (j : Int) : Bool := strLt a b || (beqL a b && decide (i < j))
theorem plt_iff {a b : List Nat} {i j : Int} : plt a i b j = true ↔ strLt a b = true ∨ (a = b ∧ i < j) := by
  unfold plt
  simp only [Bool.or_eq_true, Bool.and_eq_true, decide_eq_true_eq, beqL_iff]
theorem plt_irrefl (a : List Nat) (i : Int) : plt a i a i = false := by
  cases h : plt a i a i with
  | false => rfl
  | true =>
    rw [plt_iff, strLt_irrefl] at h
    rcases h with h | h
    · cases h
    · omega
theorem plt_trans {a b c : List Nat} {i j k : Int} (h1 : plt a i b j = true) (h2 : plt b j c k = true) : plt a i c k = true := by
  rw [plt_iff] at h1 h2 ⊢
  rcases h1 with h1 | ⟨rfl, h1⟩
  · rcases h2 with h2 | ⟨rfl, h2⟩
    · exact .inl (strLt_trans h1 h2)
    · exact .inl h1
  · rcases h2 with h2 | ⟨rfl, h2⟩
    · exact .inl h2
    · exact .inr ⟨rfl, by omega⟩
theorem plt_tri (a : List Nat) (i : Int) (b : List Nat) (j : Int) : plt a i b j = true ∨ (a = b ∧ i = j) ∨ plt b j a i = true := by
  rw [plt_iff, plt_iff]
  rcases strLt_tri a b with h | h | h
  · exact .inl (.inl h)
  · subst h
    rcases Int.lt_trichotomy i j with h | h | h
    · exact .inl (.inr ⟨rfl, h⟩)
    · exact .inr (.inl ⟨rfl, h⟩)
    · exact .inr (.inr (.inr ⟨rfl, h⟩))
  · exact .inr (.inr (.inl h))
def Pr.lt (p q : Pr) : Prop := plt p.a p.i q.a q.i = true
abbrev Asc (l : List Pr) : Prop := l.Pairwise Pr.lt
theorem Pr.lt_irrefl (p : Pr) : ¬ p.lt p := by unfold Pr.lt; rw [plt_irrefl]; simp
theorem Pr.lt_trans {p q r : Pr} (h1 : p.lt q) (h2 : q.lt r) : p.lt r := plt_trans h1 h2
theorem asc_unique : ∀ {l m : List Pr}, Asc l → Asc m → (∀ p, p ∈ l ↔ p ∈ m) → l = m
  | [], [], _, _, _ => rfl
  | [], b :: m, _, _, h => absurd ((h b).2 (by simp)) (by simp)
  | a :: l, [], _, _, h => absurd ((h a).1 (by simp)) (by simp)
  | a :: l, b :: m, h1, h2, h => by
    unfold Asc at h1 h2
    rw [List.pairwise_cons] at h1 h2
    have hab : a = b := by
      rcases List.mem_cons.1 ((h a).1 (by simp)) with e | e
      · exact e
      rcases List.mem_cons.1 ((h b).2 (by simp)) with e2 | e2
      · exact e2.symm
      exact absurd (Pr.lt_trans (h1.1 b e2) (h2.1 a e)) (Pr.lt_irrefl a)
    subst hab
    rw [asc_unique h1.2 h2.2 fun p => ?_]
    constructor
    · intro hp
      rcases List.mem_cons.1 ((h p).1 (by simp [hp])) with e | e
      · subst e; exact absurd (h1.1 p hp) (Pr.lt_irrefl p)
      · exact e
    · intro hp
      rcases List.mem_cons.1 ((h p).2 (by simp [hp])) with e | e
      · subst e; exact absurd (h2.1 p hp) (Pr.lt_irrefl p)
      · exact e
/-! ### Moves -/
def mvLt (x y : Mv) : Bool := plt x.line x.fr y.line y.fr
def Mv.ahead (x y : Mv) : Prop := strLt x.line y.line = true ∨ (x.line = y.line ∧ x.fr + x.len ≤ y.fr)
def Mv.apart (x y : Mv) : Prop := x.line ≠ y.line ∨ x.fr + x.len ≤ y.fr ∨ y.fr + y.len ≤ x.fr
theorem mem_prs {x : Mv} {p : Pr} : p ∈ x.prs ↔ ∃ k : Nat, (k : Int) < x.len ∧ p = x.pr k := by
  unfold Mv.prs
  rw [List.mem_map]
  constructor
  · rintro ⟨k, hk, rfl⟩
    exact ⟨k, by have := List.mem_range.1 hk; omega, rfl⟩
  · rintro ⟨k, hk, rfl⟩
    exact ⟨k, List.mem_range.2 (by omega), rfl⟩
theorem mem_flat {m : List Mv} {p : Pr} : p ∈ flat m ↔ ∃ x ∈ m, ∃ k : Nat, (k : Int) < x.len ∧ p = x.pr k := by
  unfold flat
  rw [List.mem_flatMap]
  constructor
  · rintro ⟨x, hx, hp⟩; exact ⟨x, hx, mem_prs.1 hp⟩
  · rintro ⟨x, hx, hp⟩; exact ⟨x, hx, mem_prs.2 hp⟩
theorem prs_asc (x : Mv) : Asc x.prs := by
  unfold Mv.prs Asc
  rw [List.pairwise_map]
  refine List.Pairwise.imp ?_ List.pairwise_lt_range
  intro a b hab
  unfold Pr.lt Mv.pr
  rw [plt_iff]
  exact .inr ⟨rfl, by simp only []; omega⟩
theorem flat_asc : ∀ {m : List Mv}, m.Pairwise Mv.ahead → Asc (flat m)
  | [], _ => List.Pairwise.nil
  | x :: r, h => by
    rw [List.pairwise_cons] at h
    rw [flat_cons, Asc, List.pairwise_append]
    refine ⟨prs_asc x, flat_asc h.2, fun p hp q hq => ?_⟩
    obtain ⟨k, hk, rfl⟩ := mem_prs.1 hp
    obtain ⟨y, hy, j, hj, rfl⟩ := mem_flat.1 hq
    unfold Pr.lt Mv.pr
    rw [plt_iff]
    rcases h.1 y hy with h1 | ⟨h1, h2⟩
    · exact .inl h1
    · exact .inr ⟨h1, by simp only []; omega⟩
theorem ahead_of {x y : Mv} (hx : 1 ≤ x.len) (hy : 1 ≤ y.len) (h : x.apart y) (hs : mvLt y x = false) : x.ahead y := by
  unfold Mv.ahead
  rcases strLt_tri x.line y.line with h1 | h1 | h1
  · exact .inl h1
  · right
    refine ⟨h1, ?_⟩
    rcases h with h | h | h
    · exact absurd h1 h
    · exact h
    · exfalso
      have : mvLt y x = true := by
        unfold mvLt
        rw [plt_iff]
        exact .inr ⟨h1.symm, by omega⟩
      rw [this] at hs; cases hs
  · exfalso
    have : mvLt y x = true := by
      unfold mvLt
      rw [plt_iff]
      exact .inl h1
    rw [this] at hs; cases hs
end Go.Sim

/-
Histories: data; the program's CheckHistory, On; moves that carry back.
-/
-- INJ Sv.row_iff svs_iff
namespace Go.Sim
open Go Go.Proofs
set_option maxRecDepth 100000
set_option maxHeartbeats 8000000
structure Sv where
  day : Int
  net : Net
  map : List Mv
def Sv.row (s : Sv) : List AV := i64 s.day :: (s.net.cells ++ [.ps .unk (s.map.map Mv.row)])
theorem Sv.row_inj (a b : Sv) (h : a.row = b.row) : a = b := by
  obtain ⟨d, n, m⟩ := a
  obtain ⟨d', n', m'⟩ := b
  unfold Sv.row Net.cells at h
  simp only [List.cons_append, List.nil_append, List.cons.injEq, AV.int.injEq, AV.ps.injEq, true_and, and_true] at h
  obtain ⟨rfl, h1, h2, h3, h4⟩ := h
  have hn : n = n' := Net.cells_inj n n' (by unfold Net.cells; rw [h1, h2, h3])
  rw [hn, map_inj Mv.row_inj h4]
theorem Sv.row_iff (a b : Sv) : a.row = b.row ↔ a = b := ⟨Sv.row_inj a b, fun h => by rw [h]⟩
theorem svs_iff (a b : List Sv) : a.map Sv.row = b.map Sv.row ↔ a = b := ⟨fun h => map_inj Sv.row_inj h, fun h => by rw [h]⟩
theorem Sv.row_len (s : Sv) : s.row.length = 5 := rfl
def undoMv (x : Mv) : Mv := ⟨x.other, x.to, x.len, x.line, x.fr, x.turned⟩
noncomputable def PPF200 : FuncId → Option (List AV → Option AV) := fun _ => none
theorem primsF200 : PrimsOk NC PPF200 := primsOk_none
theorem c200 (x : Mv) : ∀ lo H, CallOk NC lo 200 [.agg x.row] H (.agg (undoMv x).row) H := by
  refine contract saneNC primsF200 (fn := Tryz.f200) (by kernel_rfl) Tryz.func200 rfl rfl (by rfl) (by first | rfl | (split <;> first | rfl | (split <;> rfl))) ?_
  obtain ⟨a, b, c, d, e, f⟩ := x
  simp only [go_sem, reduceIte, Nat.reduceEqDiff, Nat.reduceAdd, Nat.reduceMul, Nat.reduceSub, Nat.reduceLeDiff, Nat.reduceLT, Nat.reduceBEq, reduceCtorEq, Mv.row, undoMv]
noncomputable def p200 : List AV → Option AV := primOf (α := (Mv)) (fun x => [.agg x.row]) (fun x => True) (fun x => .agg (undoMv x).row)
theorem pok200 : ∀ args v, p200 args = some v → ∀ lo H, CallOk NC lo 200 args H v H := by
  intro args v h
  obtain ⟨x, rfl, hp, rfl⟩ := primOf_inv h
  exact c200 x
theorem pe200 (x : Mv) : p200 [.agg x.row] = some (.agg (undoMv x).row) := primOf_enc (α := (Mv)) (enc := fun x => [.agg x.row]) (pre := fun x => True) (spec := fun x => .agg (undoMv x).row) (by intro x y h; (simp only [List.cons.injEq, AV.agg.injEq, AV.str.injEq, AV.int.injEq, AV.ps.injEq, AV.bool.injEq, Net.cells_iff, Ln.row_iff, Pc.row_iff, Mv.row_iff, lns_iff, pcs_iff, mvs_iff, Sv.row_iff, svs_iff, true_and, and_true] at h; first | simpa only [Prod.ext_iff] using h | simpa only [Prod.ext_iff, and_assoc] using h)) x trivial
noncomputable def PPF199 : FuncId → Option (List AV → Option AV) := addPrim 200 p200 (fun _ => none)
theorem primsF199 : PrimsOk NC PPF199 := primsOk_add (primsOk_none) (by kernel_rfl) (by kernel_rfl) pok200
theorem enF199_200 : En PPF199 200 p200 := enter_prim (by rfl) (by kernel_rfl)
attribute [go_sem ↓] enF199_200
theorem c199 (m : List Mv) (hp : m.length ≤ maxRows) : ∀ lo H, CallOk NC lo 199 [.ps .unk (m.map Mv.row), .fn 200 [] []] H (.ps .unk ((m.map undoMv).map Mv.row)) H := by
  refine contract saneNC primsF199 (fn := Tryz.f199) (by kernel_rfl) Tryz.func199 rfl rfl (by rfl) (by first | rfl | (split <;> first | rfl | (split <;> rfl))) ?_
  have hl := hp
  simp only [go_sem, reduceIte, Nat.reduceEqDiff, Nat.reduceAdd, Nat.reduceMul, Nat.reduceSub, Nat.reduceLeDiff, Nat.reduceLT, Nat.reduceBEq, reduceCtorEq]
  refine W_for (fun k T H M => M = [] ∧ getT T 1 = .fn 200 [] [] ∧ getT T 8 = .ps .unk (m.map Mv.row) ∧ getT T 9 = i64 (m.length : Nat) ∧ getT T 10 = i64 k ∧ ∃ t, getT T 5 = .ps t (((m.take k).map undoMv).map Mv.row) ∧ App H t (((m.take k).map undoMv).map Mv.row) 6 130) m.length ?_ ?_ ?_
  · simp only [go_sem, reduceIte, Nat.reduceEqDiff, Nat.reduceAdd, Nat.reduceMul, Nat.reduceSub, Nat.reduceLeDiff, Nat.reduceLT, Nat.reduceBEq, reduceCtorEq, List.length_map]; exact ⟨.nil, by simp, .inl ⟨rfl, rfl⟩⟩
  · rintro k T H M hk ⟨rfl, g1, g8, g9, g10, t, g5, hA⟩
    obtain ⟨x, hx⟩ : ∃ p, m[k]? = some p := ⟨m[k], by simp⟩
    have hr := map_at (f := Mv.row) hx
    have hw := wrap_succ hk hl
    have htk : ((m.take (k + 1)).map undoMv).map Mv.row = ((m.take k).map undoMv).map Mv.row ++ [(undoMv x).row] := by rw [take_map hx, List.map_append]; rfl
    have e200 := pe200 x
    obtain ⟨t', H1, ha, hB, hn1, hc1, _⟩ := app_any (H := (H.push (.cells [.str [], .int .i64 0, .int .i64 0, .str [], .int .i64 0, .bool false] 130)).set H.n (.cells x.row 130)) (hA.fresh _ _ rfl) (r := (undoMv x).row) (by simp; omega) rfl (by decide) (by simpa using rows_all Mv.row_len ((m.take k).map undoMv))
    obtain ⟨a, b, c, d, e, f⟩ := x
    simp only [Mv.row, undoMv] at hr ha e200
    simp only [go_sem, reduceIte, Nat.reduceEqDiff, Nat.reduceAdd, Nat.reduceMul, Nat.reduceSub, Nat.reduceLeDiff, Nat.reduceLT, Nat.reduceBEq, reduceCtorEq, g1, g8, g9, g10, g5, List.length_map, hk, hr, hw, e200, appO, ha]
    rw [htk]
    exact ⟨t', rfl, hB⟩
  · rintro T H M ⟨rfl, g1, g8, g9, g10, t, g5, hA⟩
    simp only [go_sem, reduceIte, Nat.reduceEqDiff, Nat.reduceAdd, Nat.reduceMul, Nat.reduceSub, Nat.reduceLeDiff, Nat.reduceLT, Nat.reduceBEq, reduceCtorEq, g1, g8, g9, g10, g5, List.take_length, Nat.lt_irrefl]
noncomputable def p199 : List AV → Option AV := primOf (α := (List Mv)) (fun x => [.ps .unk (x.map Mv.row), .fn 200 [] []]) (fun x => x.length ≤ maxRows) (fun x => .ps .unk ((x.map undoMv).map Mv.row))
theorem pok199 : ∀ args v, p199 args = some v → ∀ lo H, CallOk NC lo 199 args H v H := by
  intro args v h
  obtain ⟨x, rfl, hp, rfl⟩ := primOf_inv h
  exact c199 x hp
theorem pe199 (m : List Mv) (hp : m.length ≤ maxRows) : p199 [.ps .unk (m.map Mv.row), .fn 200 [] []] = some (.ps .unk ((m.map undoMv).map Mv.row)) := primOf_enc (α := (List Mv)) (enc := fun x => [.ps .unk (x.map Mv.row), .fn 200 [] []]) (pre := fun x => x.length ≤ maxRows) (spec := fun x => .ps .unk ((x.map undoMv).map Mv.row)) (by intro x y h; (simp only [List.cons.injEq, AV.agg.injEq, AV.str.injEq, AV.int.injEq, AV.ps.injEq, AV.bool.injEq, Net.cells_iff, Ln.row_iff, Pc.row_iff, Mv.row_iff, lns_iff, pcs_iff, mvs_iff, Sv.row_iff, svs_iff, true_and, and_true] at h; first | simpa only [Prod.ext_iff] using h | simpa only [Prod.ext_iff, and_assoc] using h)) m hp
noncomputable def PPF136 : FuncId → Option (List AV → Option AV) := addPrim 199 p199 (fun _ => none)
theorem primsF136 : PrimsOk NC PPF136 := primsOk_add (primsOk_none) (by kernel_rfl) (by kernel_rfl) pok199
theorem enF136_199 : En PPF136 199 p199 := enter_prim (by rfl) (by kernel_rfl)
attribute [go_sem ↓] enF136_199
theorem c136 (m : List Mv) (hp : m.length ≤ maxRows) : ∀ lo H, CallOk NC lo 136 [.ps .unk (m.map Mv.row)] H (.ps .unk ((m.map undoMv).map Mv.row)) H := by
  refine contract saneNC primsF136 (fn := Tryz.f136) (by kernel_rfl) Tryz.func136 rfl rfl (by rfl) (by first | rfl | (split <;> first | rfl | (split <;> rfl))) ?_
  have e := pe199 m hp
  simp only [go_sem, reduceIte, Nat.reduceEqDiff, Nat.reduceAdd, Nat.reduceMul, Nat.reduceSub, Nat.reduceLeDiff, Nat.reduceLT, Nat.reduceBEq, reduceCtorEq, e]
noncomputable def p136 : List AV → Option AV := primOf (α := (List Mv)) (fun x => [.ps .unk (x.map Mv.row)]) (fun x => x.length ≤ maxRows) (fun x => .ps .unk ((x.map undoMv).map Mv.row))
theorem pok136 : ∀ args v, p136 args = some v → ∀ lo H, CallOk NC lo 136 args H v H := by
  intro args v h
  obtain ⟨x, rfl, hp, rfl⟩ := primOf_inv h
  exact c136 x hp
theorem pe136 (m : List Mv) (hp : m.length ≤ maxRows) : p136 [.ps .unk (m.map Mv.row)] = some (.ps .unk ((m.map undoMv).map Mv.row)) := primOf_enc (α := (List Mv)) (enc := fun x => [.ps .unk (x.map Mv.row)]) (pre := fun x => x.length ≤ maxRows) (spec := fun x => .ps .unk ((x.map undoMv).map Mv.row)) (by intro x y h; (simp only [List.cons.injEq, AV.agg.injEq, AV.str.injEq, AV.int.injEq, AV.ps.injEq, AV.bool.injEq, Net.cells_iff, Ln.row_iff, Pc.row_iff, Mv.row_iff, lns_iff, pcs_iff, mvs_iff, Sv.row_iff, svs_iff, true_and, and_true] at h; first | simpa only [Prod.ext_iff] using h | simpa only [Prod.ext_iff, and_assoc] using h)) m hp
end Go.Sim

/-
Histories: the program's Since.
-/
-- INJ Sv.row_iff svs_iff
namespace Go.Sim
open Go Go.Proofs
set_option maxRecDepth 100000
set_option maxHeartbeats 8000000
section
variable {C : Cfg} {lo : Nat} {fid : FuncId} {rnd : Bool} (T : TT AV) (H : Heap) (M : List Nat) (Q : AExit → TT AV → Heap → List Nat → Prop)
def unscope (Q : AExit → TT AV → Heap → List Nat → Prop) (e : AExit) (T : TT AV) (H : Heap) (M : List Nat) (_t : Tag Q := ⟨⟩) : Prop := match e with
  | .gto _ => False
  | e => Q e T H M
theorem unscope_nrm : unscope Q .nrm T H M = Q .nrm T H M := rfl
theorem unscope_ret : unscope Q .ret T H M = Q .ret T H M := rfl
theorem unscope_ext (i : Nat) : unscope Q (.ext i) T H M = Q (.ext i) T H M := rfl
theorem W_scope (b : Code) : W C lo fid rnd (.scope b) T H M Q = W C lo fid rnd b T H M (fun e T H M => unscope Q e T H M) := by
  unfold W
  rw [R_scope]
  cases h : R C (.code lo fid rnd b ⟨T, H, M⟩) with
  | none => rfl
  | some o => obtain ⟨e, ⟨T', H', M'⟩⟩ := o; cases e <;> rfl
end
attribute [go_sem ↓] W_scope W_label unscope_nrm unscope_ret unscope_ext
abbrev Pl : Type := List Nat × Int
def carO (m : List Mv) (p : Pl) : Option Pl := (m.find? (hitMv p.1 p.2)).map fun x => (x.other, atI x p.2)
end Go.Sim

/-
The document's examples: what 'awake' returns, found by closed runs.
-/
namespace Go.Sim
open Go
def aw0 : List Known := []
theorem awh0 : ∀ k ∈ aw0, ∀ lo H, CallOk NC lo k.f k.args H k.v H := fun k h => by cases h
def ak1 : Known := ⟨110, [.ps .unk [[.str [117, 112], .ps .unk [[.int .i64 100, .int .i64 5000, .bool false], [.int .i64 50, .int .i64 5080, .bool false], [.int .i64 30, .int .i64 5200, .bool true]]], [.str [115, 105, 100, 101], .ps .unk [[.int .i64 40, .int .i64 0, .bool false]]]]], .int .i64 0⟩
theorem ac1 : ∀ lo H, CallOk NC lo ak1.f ak1.args H ak1.v H := known_ok saneNC awh0 (fuel := 5000) (by kernel_rfl) (by kernel_rfl) (by kernel_rfl)
def aw1 : List Known := ak1 :: aw0
theorem awh1 : ∀ k ∈ aw1, ∀ lo H, CallOk NC lo k.f k.args H k.v H := fun k h => (List.mem_cons.1 h).elim (fun e => e ▸ ac1) (awh0 k)
def ak2 : Known := ⟨112, [.agg [.ps .unk [[.str [117, 112], .ps .unk [[.int .i64 100, .int .i64 5000, .bool false], [.int .i64 50, .int .i64 5080, .bool false], [.int .i64 30, .int .i64 5200, .bool true]]], [.str [115, 105, 100, 101], .ps .unk [[.int .i64 40, .int .i64 0, .bool false]]]], .ps .unk [[.str [119], .str [117, 112], .int .i64 120, .str [115, 105, 100, 101], .bool false]], .ps .unk [[.str [97, 114, 99, 104], .str [98, 114, 105, 100, 103, 101], .str [117, 112], .int .i64 130, .int .i64 150]]]], .int .i64 0⟩
theorem ac2 : ∀ lo H, CallOk NC lo ak2.f ak2.args H ak2.v H := known_ok saneNC awh1 (fuel := 5000) (by kernel_rfl) (by kernel_rfl) (by kernel_rfl)
def aw2 : List Known := ak2 :: aw1
theorem awh2 : ∀ k ∈ aw2, ∀ lo H, CallOk NC lo k.f k.args H k.v H := fun k h => (List.mem_cons.1 h).elim (fun e => e ▸ ac2) (awh1 k)
def ak3 : Known := ⟨113, [.agg [.ps .unk [[.str [117, 112], .ps .unk [[.int .i64 100, .int .i64 5000, .bool false], [.int .i64 50, .int .i64 5080, .bool false], [.int .i64 30, .int .i64 5200, .bool true]]], [.str [115, 105, 100, 101], .ps .unk [[.int .i64 40, .int .i64 0, .bool false]]]], .ps .unk [[.str [119], .str [117, 112], .int .i64 120, .str [115, 105, 100, 101], .bool false]], .ps .unk [[.str [97, 114, 99, 104], .str [98, 114, 105, 100, 103, 101], .str [117, 112], .int .i64 130, .int .i64 150]]]], .int .i64 0⟩
theorem ac3 : ∀ lo H, CallOk NC lo ak3.f ak3.args H ak3.v H := known_ok saneNC awh2 (fuel := 5000) (by kernel_rfl) (by kernel_rfl) (by kernel_rfl)
def aw3 : List Known := ak3 :: aw2
theorem awh3 : ∀ k ∈ aw3, ∀ lo H, CallOk NC lo k.f k.args H k.v H := fun k h => (List.mem_cons.1 h).elim (fun e => e ▸ ac3) (awh2 k)
def ak4 : Known := ⟨29, [.agg [.ps .unk [[.str [117, 112], .ps .unk [[.int .i64 100, .int .i64 5000, .bool false], [.int .i64 50, .int .i64 5080, .bool false], [.int .i64 30, .int .i64 5200, .bool true]]], [.str [115, 105, 100, 101], .ps .unk [[.int .i64 40, .int .i64 0, .bool false]]]], .ps .unk [[.str [119], .str [117, 112], .int .i64 120, .str [115, 105, 100, 101], .bool false]], .ps .unk [[.str [97, 114, 99, 104], .str [98, 114, 105, 100, 103, 101], .str [117, 112], .int .i64 130, .int .i64 150]]]], .int .i64 0⟩
theorem ac4 : ∀ lo H, CallOk NC lo ak4.f ak4.args H ak4.v H := known_ok saneNC awh3 (fuel := 5000) (by kernel_rfl) (by kernel_rfl) (by kernel_rfl)
def aw4 : List Known := ak4 :: aw3
theorem awh4 : ∀ k ∈ aw4, ∀ lo H, CallOk NC lo k.f k.args H k.v H := fun k h => (List.mem_cons.1 h).elim (fun e => e ▸ ac4) (awh3 k)
def ak5 : Known := ⟨18, [.agg [.ps .unk [[.str [117, 112], .ps .unk [[.int .i64 100, .int .i64 5000, .bool false], [.int .i64 50, .int .i64 5080, .bool false], [.int .i64 30, .int .i64 5200, .bool true]]], [.str [115, 105, 100, 101], .ps .unk [[.int .i64 40, .int .i64 0, .bool false]]]], .ps .unk [[.str [119], .str [117, 112], .int .i64 120, .str [115, 105, 100, 101], .bool false]], .ps .unk [[.str [97, 114, 99, 104], .str [98, 114, 105, 100, 103, 101], .str [117, 112], .int .i64 130, .int .i64 150]]], .str [117, 112]], .tup [.int .i64 180, .int .i64 0]⟩
theorem ac5 : ∀ lo H, CallOk NC lo ak5.f ak5.args H ak5.v H := known_ok saneNC awh4 (fuel := 5000) (by kernel_rfl) (by kernel_rfl) (by kernel_rfl)
def aw5 : List Known := ak5 :: aw4
theorem awh5 : ∀ k ∈ aw5, ∀ lo H, CallOk NC lo k.f k.args H k.v H := fun k h => (List.mem_cons.1 h).elim (fun e => e ▸ ac5) (awh4 k)
def ak6 : Known := ⟨20, [.agg [.ps .unk [[.str [117, 112], .ps .unk [[.int .i64 100, .int .i64 5000, .bool false], [.int .i64 50, .int .i64 5080, .bool false], [.int .i64 30, .int .i64 5200, .bool true]]], [.str [115, 105, 100, 101], .ps .unk [[.int .i64 40, .int .i64 0, .bool false]]]], .ps .unk [[.str [119], .str [117, 112], .int .i64 120, .str [115, 105, 100, 101], .bool false]], .ps .unk [[.str [97, 114, 99, 104], .str [98, 114, 105, 100, 103, 101], .str [117, 112], .int .i64 130, .int .i64 150]]], .agg [.str [117, 112], .int .i64 120]], .tup [.agg [.str [117, 112], .int .i64 1, .int .i64 5100], .int .i64 0]⟩
theorem ac6 : ∀ lo H, CallOk NC lo ak6.f ak6.args H ak6.v H := known_ok saneNC awh5 (fuel := 5000) (by kernel_rfl) (by kernel_rfl) (by kernel_rfl)
def aw6 : List Known := ak6 :: aw5
theorem awh6 : ∀ k ∈ aw6, ∀ lo H, CallOk NC lo k.f k.args H k.v H := fun k h => (List.mem_cons.1 h).elim (fun e => e ▸ ac6) (awh5 k)
def ak7 : Known := ⟨20, [.agg [.ps .unk [[.str [117, 112], .ps .unk [[.int .i64 100, .int .i64 5000, .bool false], [.int .i64 50, .int .i64 5080, .bool false], [.int .i64 30, .int .i64 5200, .bool true]]], [.str [115, 105, 100, 101], .ps .unk [[.int .i64 40, .int .i64 0, .bool false]]]], .ps .unk [[.str [119], .str [117, 112], .int .i64 120, .str [115, 105, 100, 101], .bool false]], .ps .unk [[.str [97, 114, 99, 104], .str [98, 114, 105, 100, 103, 101], .str [117, 112], .int .i64 130, .int .i64 150]]], .agg [.str [117, 112], .int .i64 179]], .tup [.agg [.str [117, 112], .int .i64 2, .int .i64 5171], .int .i64 0]⟩
theorem ac7 : ∀ lo H, CallOk NC lo ak7.f ak7.args H ak7.v H := known_ok saneNC awh6 (fuel := 5000) (by kernel_rfl) (by kernel_rfl) (by kernel_rfl)
def aw7 : List Known := ak7 :: aw6
theorem awh7 : ∀ k ∈ aw7, ∀ lo H, CallOk NC lo k.f k.args H k.v H := fun k h => (List.mem_cons.1 h).elim (fun e => e ▸ ac7) (awh6 k)
def ak8 : Known := ⟨51, [.agg [.ps .unk [[.str [117, 112], .ps .unk [[.int .i64 100, .int .i64 5000, .bool false], [.int .i64 50, .int .i64 5080, .bool false], [.int .i64 30, .int .i64 5200, .bool true]]], [.str [115, 105, 100, 101], .ps .unk [[.int .i64 40, .int .i64 0, .bool false]]]], .ps .unk [[.str [119], .str [117, 112], .int .i64 120, .str [115, 105, 100, 101], .bool false]], .ps .unk [[.str [97, 114, 99, 104], .str [98, 114, 105, 100, 103, 101], .str [117, 112], .int .i64 130, .int .i64 150]]], .str [117, 112], .int .i64 5090], .tup [.ps .unk [[.str [117, 112], .int .i64 0, .int .i64 5090], [.str [117, 112], .int .i64 1, .int .i64 5090]], .int .i64 0]⟩
theorem ac8 : ∀ lo H, CallOk NC lo ak8.f ak8.args H ak8.v H := known_ok saneNC awh7 (fuel := 5000) (by kernel_rfl) (by kernel_rfl) (by kernel_rfl)
def aw8 : List Known := ak8 :: aw7
theorem awh8 : ∀ k ∈ aw8, ∀ lo H, CallOk NC lo k.f k.args H k.v H := fun k h => (List.mem_cons.1 h).elim (fun e => e ▸ ac8) (awh7 k)
def ak9 : Known := ⟨21, [.agg [.ps .unk [[.str [117, 112], .ps .unk [[.int .i64 100, .int .i64 5000, .bool false], [.int .i64 50, .int .i64 5080, .bool false], [.int .i64 30, .int .i64 5200, .bool true]]], [.str [115, 105, 100, 101], .ps .unk [[.int .i64 40, .int .i64 0, .bool false]]]], .ps .unk [[.str [119], .str [117, 112], .int .i64 120, .str [115, 105, 100, 101], .bool false]], .ps .unk [[.str [97, 114, 99, 104], .str [98, 114, 105, 100, 103, 101], .str [117, 112], .int .i64 130, .int .i64 150]]], .agg [.str [117, 112], .int .i64 1, .int .i64 5090]], .tup [.agg [.str [117, 112], .int .i64 110], .int .i64 0]⟩
theorem ac9 : ∀ lo H, CallOk NC lo ak9.f ak9.args H ak9.v H := known_ok saneNC awh8 (fuel := 5000) (by kernel_rfl) (by kernel_rfl) (by kernel_rfl)
def aw9 : List Known := ak9 :: aw8
theorem awh9 : ∀ k ∈ aw9, ∀ lo H, CallOk NC lo k.f k.args H k.v H := fun k h => (List.mem_cons.1 h).elim (fun e => e ▸ ac9) (awh8 k)
def ak10 : Known := ⟨114, [.agg [.ps .unk [[.str [117, 112], .ps .unk [[.int .i64 100, .int .i64 5000, .bool false], [.int .i64 50, .int .i64 5080, .bool false], [.int .i64 30, .int .i64 5200, .bool true]]], [.str [115, 105, 100, 101], .ps .unk [[.int .i64 40, .int .i64 0, .bool false]]]], .ps .unk [[.str [119], .str [117, 112], .int .i64 120, .str [115, 105, 100, 101], .bool false]], .ps .unk [[.str [97, 114, 99, 104], .str [98, 114, 105, 100, 103, 101], .str [117, 112], .int .i64 130, .int .i64 150]]], .ps .unk [[.str [117, 112], .int .i64 100], [.str [115, 105, 100, 101], .int .i64 10]]], .int .i64 0⟩
theorem ac10 : ∀ lo H, CallOk NC lo ak10.f ak10.args H ak10.v H := known_ok saneNC awh9 (fuel := 5000) (by kernel_rfl) (by kernel_rfl) (by kernel_rfl)
def aw10 : List Known := ak10 :: aw9
theorem awh10 : ∀ k ∈ aw10, ∀ lo H, CallOk NC lo k.f k.args H k.v H := fun k h => (List.mem_cons.1 h).elim (fun e => e ▸ ac10) (awh9 k)
def ak11 : Known := ⟨203, [.agg [.ps .unk [[.str [117, 112], .ps .unk [[.int .i64 100, .int .i64 5000, .bool false], [.int .i64 50, .int .i64 5080, .bool false], [.int .i64 30, .int .i64 5200, .bool true]]], [.str [115, 105, 100, 101], .ps .unk [[.int .i64 40, .int .i64 0, .bool false]]]], .ps .unk [[.str [119], .str [117, 112], .int .i64 120, .str [115, 105, 100, 101], .bool false]], .ps .unk [[.str [97, 114, 99, 104], .str [98, 114, 105, 100, 103, 101], .str [117, 112], .int .i64 130, .int .i64 150]]], .agg [.ps .unk [[.str [117, 112], .int .i64 100, .int .i64 120], [.str [115, 105, 100, 101], .int .i64 0, .int .i64 0], [.str [117, 112], .int .i64 120, .int .i64 120]], .int .i64 20], .agg [.ps .unk [[.str [117, 112], .int .i64 100, .int .i64 120]], .int .i64 20]], .int .i64 1⟩
theorem ac11 : ∀ lo H, CallOk NC lo ak11.f ak11.args H ak11.v H := known_ok saneNC awh10 (fuel := 5000) (by kernel_rfl) (by kernel_rfl) (by kernel_rfl)
def aw11 : List Known := ak11 :: aw10
theorem awh11 : ∀ k ∈ aw11, ∀ lo H, CallOk NC lo k.f k.args H k.v H := fun k h => (List.mem_cons.1 h).elim (fun e => e ▸ ac11) (awh10 k)
def ak12 : Known := ⟨203, [.agg [.ps .unk [[.str [117, 112], .ps .unk [[.int .i64 100, .int .i64 5000, .bool false], [.int .i64 50, .int .i64 5080, .bool false], [.int .i64 30, .int .i64 5200, .bool true]]], [.str [115, 105, 100, 101], .ps .unk [[.int .i64 40, .int .i64 0, .bool false]]]], .ps .unk [[.str [119], .str [117, 112], .int .i64 120, .str [115, 105, 100, 101], .bool false]], .ps .unk [[.str [97, 114, 99, 104], .str [98, 114, 105, 100, 103, 101], .str [117, 112], .int .i64 130, .int .i64 150]]], .agg [.ps .unk [[.str [117, 112], .int .i64 100, .int .i64 120], [.str [115, 105, 100, 101], .int .i64 0, .int .i64 0]], .int .i64 20], .agg [.ps .unk [[.str [117, 112], .int .i64 100, .int .i64 120], [.str [115, 105, 100, 101], .int .i64 0, .int .i64 0]], .int .i64 20]], .int .i64 0⟩
theorem ac12 : ∀ lo H, CallOk NC lo ak12.f ak12.args H ak12.v H := known_ok saneNC awh11 (fuel := 5000) (by kernel_rfl) (by kernel_rfl) (by kernel_rfl)
def aw12 : List Known := ak12 :: aw11
theorem awh12 : ∀ k ∈ aw12, ∀ lo H, CallOk NC lo k.f k.args H k.v H := fun k h => (List.mem_cons.1 h).elim (fun e => e ▸ ac12) (awh11 k)
def ak13 : Known := ⟨142, [.agg [.ps .unk [[.str [117, 112], .ps .unk [[.int .i64 100, .int .i64 5000, .bool false], [.int .i64 50, .int .i64 5080, .bool false], [.int .i64 30, .int .i64 5200, .bool true]]], [.str [115, 105, 100, 101], .ps .unk [[.int .i64 40, .int .i64 0, .bool false]]]], .ps .unk [[.str [119], .str [117, 112], .int .i64 120, .str [115, 105, 100, 101], .bool false]], .ps .unk [[.str [97, 114, 99, 104], .str [98, 114, 105, 100, 103, 101], .str [117, 112], .int .i64 130, .int .i64 150]]], .agg [.str [117, 112], .int .i64 100], .agg [.str [115, 105, 100, 101], .int .i64 10]], .tup [.agg [.ps .unk [[.str [117, 112], .int .i64 100, .int .i64 120], [.str [115, 105, 100, 101], .int .i64 0, .int .i64 10]], .int .i64 30], .bool true]⟩
theorem ac13 : ∀ lo H, CallOk NC lo ak13.f ak13.args H ak13.v H := known_ok saneNC awh12 (fuel := 5000) (by kernel_rfl) (by kernel_rfl) (by kernel_rfl)
def aw13 : List Known := ak13 :: aw12
theorem awh13 : ∀ k ∈ aw13, ∀ lo H, CallOk NC lo k.f k.args H k.v H := fun k h => (List.mem_cons.1 h).elim (fun e => e ▸ ac13) (awh12 k)
def ak14 : Known := ⟨71, [.agg [.ps .unk [[.str [117, 112], .ps .unk [[.int .i64 100, .int .i64 5000, .bool false], [.int .i64 50, .int .i64 5080, .bool false], [.int .i64 30, .int .i64 5200, .bool true]]], [.str [115, 105, 100, 101], .ps .unk [[.int .i64 40, .int .i64 0, .bool false]]]], .ps .unk [[.str [119], .str [117, 112], .int .i64 120, .str [115, 105, 100, 101], .bool false]], .ps .unk [[.str [97, 114, 99, 104], .str [98, 114, 105, 100, 103, 101], .str [117, 112], .int .i64 130, .int .i64 150]]], .agg [.str [117, 112], .int .i64 100], .agg [.str [115, 105, 100, 101], .int .i64 10]], .tup [.ps .unk [[.str [117, 112], .int .i64 100, .int .i64 120], [.str [115, 105, 100, 101], .int .i64 0, .int .i64 10]], .int .i64 30, .int .i64 0]⟩
theorem ac14 : ∀ lo H, CallOk NC lo ak14.f ak14.args H ak14.v H := known_ok saneNC awh13 (fuel := 5000) (by kernel_rfl) (by kernel_rfl) (by kernel_rfl)
def aw14 : List Known := ak14 :: aw13
theorem awh14 : ∀ k ∈ aw14, ∀ lo H, CallOk NC lo k.f k.args H k.v H := fun k h => (List.mem_cons.1 h).elim (fun e => e ▸ ac14) (awh13 k)
def ak15 : Known := ⟨114, [.agg [.ps .unk [[.str [117, 112], .ps .unk [[.int .i64 100, .int .i64 5000, .bool false], [.int .i64 50, .int .i64 5080, .bool false], [.int .i64 30, .int .i64 5200, .bool true]]], [.str [115, 105, 100, 101], .ps .unk [[.int .i64 40, .int .i64 0, .bool false]]]], .ps .unk [[.str [119], .str [117, 112], .int .i64 120, .str [115, 105, 100, 101], .bool false]], .ps .unk [[.str [97, 114, 99, 104], .str [98, 114, 105, 100, 103, 101], .str [117, 112], .int .i64 130, .int .i64 150]]], .ps .unk [[.str [115, 105, 100, 101], .int .i64 5]]], .int .i64 0⟩
theorem ac15 : ∀ lo H, CallOk NC lo ak15.f ak15.args H ak15.v H := known_ok saneNC awh14 (fuel := 5000) (by kernel_rfl) (by kernel_rfl) (by kernel_rfl)
def aw15 : List Known := ak15 :: aw14
theorem awh15 : ∀ k ∈ aw15, ∀ lo H, CallOk NC lo k.f k.args H k.v H := fun k h => (List.mem_cons.1 h).elim (fun e => e ▸ ac15) (awh14 k)
def ak16 : Known := ⟨203, [.agg [.ps .unk [[.str [117, 112], .ps .unk [[.int .i64 100, .int .i64 5000, .bool false], [.int .i64 50, .int .i64 5080, .bool false], [.int .i64 30, .int .i64 5200, .bool true]]], [.str [115, 105, 100, 101], .ps .unk [[.int .i64 40, .int .i64 0, .bool false]]]], .ps .unk [[.str [119], .str [117, 112], .int .i64 120, .str [115, 105, 100, 101], .bool false]], .ps .unk [[.str [97, 114, 99, 104], .str [98, 114, 105, 100, 103, 101], .str [117, 112], .int .i64 130, .int .i64 150]]], .agg [.ps .unk [[.str [115, 105, 100, 101], .int .i64 5, .int .i64 0], [.str [117, 112], .int .i64 120, .int .i64 120], [.str [115, 105, 100, 101], .int .i64 0, .int .i64 0]], .int .i64 5], .agg [.ps .unk [[.str [115, 105, 100, 101], .int .i64 5, .int .i64 0]], .int .i64 5]], .int .i64 1⟩
theorem ac16 : ∀ lo H, CallOk NC lo ak16.f ak16.args H ak16.v H := known_ok saneNC awh15 (fuel := 5000) (by kernel_rfl) (by kernel_rfl) (by kernel_rfl)
def aw16 : List Known := ak16 :: aw15
theorem awh16 : ∀ k ∈ aw16, ∀ lo H, CallOk NC lo k.f k.args H k.v H := fun k h => (List.mem_cons.1 h).elim (fun e => e ▸ ac16) (awh15 k)
def ak17 : Known := ⟨203, [.agg [.ps .unk [[.str [117, 112], .ps .unk [[.int .i64 100, .int .i64 5000, .bool false], [.int .i64 50, .int .i64 5080, .bool false], [.int .i64 30, .int .i64 5200, .bool true]]], [.str [115, 105, 100, 101], .ps .unk [[.int .i64 40, .int .i64 0, .bool false]]]], .ps .unk [[.str [119], .str [117, 112], .int .i64 120, .str [115, 105, 100, 101], .bool false]], .ps .unk [[.str [97, 114, 99, 104], .str [98, 114, 105, 100, 103, 101], .str [117, 112], .int .i64 130, .int .i64 150]]], .agg [.ps .unk [[.str [115, 105, 100, 101], .int .i64 5, .int .i64 0], [.str [117, 112], .int .i64 120, .int .i64 120]], .int .i64 5], .agg [.ps .unk [[.str [115, 105, 100, 101], .int .i64 5, .int .i64 0], [.str [117, 112], .int .i64 120, .int .i64 120]], .int .i64 5]], .int .i64 0⟩
theorem ac17 : ∀ lo H, CallOk NC lo ak17.f ak17.args H ak17.v H := known_ok saneNC awh16 (fuel := 5000) (by kernel_rfl) (by kernel_rfl) (by kernel_rfl)
def aw17 : List Known := ak17 :: aw16
theorem awh17 : ∀ k ∈ aw17, ∀ lo H, CallOk NC lo k.f k.args H k.v H := fun k h => (List.mem_cons.1 h).elim (fun e => e ▸ ac17) (awh16 k)
def ak18 : Known := ⟨116, [.agg [.ps .unk [[.str [117, 112], .ps .unk [[.int .i64 100, .int .i64 5000, .bool false], [.int .i64 50, .int .i64 5080, .bool false], [.int .i64 30, .int .i64 5200, .bool true]]], [.str [115, 105, 100, 101], .ps .unk [[.int .i64 40, .int .i64 0, .bool false]]]], .ps .unk [[.str [119], .str [117, 112], .int .i64 120, .str [115, 105, 100, 101], .bool false]], .ps .unk [[.str [97, 114, 99, 104], .str [98, 114, 105, 100, 103, 101], .str [117, 112], .int .i64 130, .int .i64 150]]], .agg [.str [115, 105, 100, 101], .int .i64 5]], .ps .unk [[.str [115, 105, 100, 101], .int .i64 5, .int .i64 0], [.str [115, 105, 100, 101], .int .i64 0, .int .i64 5], [.str [117, 112], .int .i64 120, .int .i64 5]]⟩
theorem ac18 : ∀ lo H, CallOk NC lo ak18.f ak18.args H ak18.v H := known_ok saneNC awh17 (fuel := 5000) (by kernel_rfl) (by kernel_rfl) (by kernel_rfl)
def aw18 : List Known := ak18 :: aw17
theorem awh18 : ∀ k ∈ aw18, ∀ lo H, CallOk NC lo k.f k.args H k.v H := fun k h => (List.mem_cons.1 h).elim (fun e => e ▸ ac18) (awh17 k)
def ak19 : Known := ⟨33, [.agg [.ps .unk [[.str [117, 112], .ps .unk [[.int .i64 100, .int .i64 5000, .bool false], [.int .i64 50, .int .i64 5080, .bool false], [.int .i64 30, .int .i64 5200, .bool true]]], [.str [115, 105, 100, 101], .ps .unk [[.int .i64 40, .int .i64 0, .bool false]]]], .ps .unk [[.str [119], .str [117, 112], .int .i64 120, .str [115, 105, 100, 101], .bool false]], .ps .unk [[.str [97, 114, 99, 104], .str [98, 114, 105, 100, 103, 101], .str [117, 112], .int .i64 130, .int .i64 150]]], .agg [.str [115, 105, 100, 101], .int .i64 5], .str [98, 114, 105, 100, 103, 101]], .tup [.str [97, 114, 99, 104], .int .i64 15, .int .i64 0]⟩
theorem ac19 : ∀ lo H, CallOk NC lo ak19.f ak19.args H ak19.v H := known_ok saneNC awh18 (fuel := 5000) (by kernel_rfl) (by kernel_rfl) (by kernel_rfl)
def aw19 : List Known := ak19 :: aw18
theorem awh19 : ∀ k ∈ aw19, ∀ lo H, CallOk NC lo k.f k.args H k.v H := fun k h => (List.mem_cons.1 h).elim (fun e => e ▸ ac19) (awh18 k)
def ak20 : Known := ⟨127, [.agg [.str [117, 112], .int .i64 0, .int .i64 100, .str [109, 97, 105, 110], .int .i64 20, .bool false]], .int .i64 0⟩
theorem ac20 : ∀ lo H, CallOk NC lo ak20.f ak20.args H ak20.v H := known_ok saneNC awh19 (fuel := 5000) (by kernel_rfl) (by kernel_rfl) (by kernel_rfl)
def aw20 : List Known := ak20 :: aw19
theorem awh20 : ∀ k ∈ aw20, ∀ lo H, CallOk NC lo k.f k.args H k.v H := fun k h => (List.mem_cons.1 h).elim (fun e => e ▸ ac20) (awh19 k)
def ak21 : Known := ⟨127, [.agg [.str [117, 112], .int .i64 100, .int .i64 50, .str [109, 97, 105, 110], .int .i64 200, .bool true]], .int .i64 0⟩
theorem ac21 : ∀ lo H, CallOk NC lo ak21.f ak21.args H ak21.v H := known_ok saneNC awh20 (fuel := 5000) (by kernel_rfl) (by kernel_rfl) (by kernel_rfl)
def aw21 : List Known := ak21 :: aw20
theorem awh21 : ∀ k ∈ aw21, ∀ lo H, CallOk NC lo k.f k.args H k.v H := fun k h => (List.mem_cons.1 h).elim (fun e => e ▸ ac21) (awh20 k)
def ak22 : Known := ⟨49, [.ps .unk [[.str [117, 112], .int .i64 0, .int .i64 100, .str [109, 97, 105, 110], .int .i64 20, .bool false], [.str [117, 112], .int .i64 100, .int .i64 50, .str [109, 97, 105, 110], .int .i64 200, .bool true]]], .int .i64 0⟩
theorem ac22 : ∀ lo H, CallOk NC lo ak22.f ak22.args H ak22.v H := known_ok saneNC awh21 (fuel := 5000) (by kernel_rfl) (by kernel_rfl) (by kernel_rfl)
def aw22 : List Known := ak22 :: aw21
theorem awh22 : ∀ k ∈ aw22, ∀ lo H, CallOk NC lo k.f k.args H k.v H := fun k h => (List.mem_cons.1 h).elim (fun e => e ▸ ac22) (awh21 k)
def ak23 : Known := ⟨42, [.ps .unk [[.str [117, 112], .int .i64 0, .int .i64 100, .str [109, 97, 105, 110], .int .i64 20, .bool false], [.str [117, 112], .int .i64 100, .int .i64 50, .str [109, 97, 105, 110], .int .i64 200, .bool true]], .agg [.str [117, 112], .int .i64 110]], .tup [.agg [.str [109, 97, 105, 110], .int .i64 239], .int .i64 0]⟩
theorem ac23 : ∀ lo H, CallOk NC lo ak23.f ak23.args H ak23.v H := known_ok saneNC awh22 (fuel := 5000) (by kernel_rfl) (by kernel_rfl) (by kernel_rfl)
def aw23 : List Known := ak23 :: aw22
theorem awh23 : ∀ k ∈ aw23, ∀ lo H, CallOk NC lo k.f k.args H k.v H := fun k h => (List.mem_cons.1 h).elim (fun e => e ▸ ac23) (awh22 k)
def ak24 : Known := ⟨54, [.ps .unk [[.str [117, 112], .int .i64 0, .int .i64 100, .str [109, 97, 105, 110], .int .i64 20, .bool false], [.str [117, 112], .int .i64 100, .int .i64 50, .str [109, 97, 105, 110], .int .i64 200, .bool true]]], .tup [.ps .unk [[.str [109, 97, 105, 110], .int .i64 20, .int .i64 100, .str [117, 112], .int .i64 0, .bool false], [.str [109, 97, 105, 110], .int .i64 200, .int .i64 50, .str [117, 112], .int .i64 100, .bool true]], .int .i64 0]⟩
theorem ac24 : ∀ lo H, CallOk NC lo ak24.f ak24.args H ak24.v H := known_ok saneNC awh23 (fuel := 5000) (by kernel_rfl) (by kernel_rfl) (by kernel_rfl)
def aw24 : List Known := ak24 :: aw23
theorem awh24 : ∀ k ∈ aw24, ∀ lo H, CallOk NC lo k.f k.args H k.v H := fun k h => (List.mem_cons.1 h).elim (fun e => e ▸ ac24) (awh23 k)
def ak25 : Known := ⟨127, [.agg [.str [109, 97, 105, 110], .int .i64 0, .int .i64 60, .str [111, 108, 100], .int .i64 500, .bool false]], .int .i64 0⟩
theorem ac25 : ∀ lo H, CallOk NC lo ak25.f ak25.args H ak25.v H := known_ok saneNC awh24 (fuel := 5000) (by kernel_rfl) (by kernel_rfl) (by kernel_rfl)
def aw25 : List Known := ak25 :: aw24
theorem awh25 : ∀ k ∈ aw25, ∀ lo H, CallOk NC lo k.f k.args H k.v H := fun k h => (List.mem_cons.1 h).elim (fun e => e ▸ ac25) (awh24 k)
def ak26 : Known := ⟨49, [.ps .unk [[.str [109, 97, 105, 110], .int .i64 0, .int .i64 60, .str [111, 108, 100], .int .i64 500, .bool false]]], .int .i64 0⟩
theorem ac26 : ∀ lo H, CallOk NC lo ak26.f ak26.args H ak26.v H := known_ok saneNC awh25 (fuel := 5000) (by kernel_rfl) (by kernel_rfl) (by kernel_rfl)
def aw26 : List Known := ak26 :: aw25
theorem awh26 : ∀ k ∈ aw26, ∀ lo H, CallOk NC lo k.f k.args H k.v H := fun k h => (List.mem_cons.1 h).elim (fun e => e ▸ ac26) (awh25 k)
def ak27 : Known := ⟨55, [.ps .unk [[.str [117, 112], .int .i64 0, .int .i64 100, .str [109, 97, 105, 110], .int .i64 20, .bool false], [.str [117, 112], .int .i64 100, .int .i64 50, .str [109, 97, 105, 110], .int .i64 200, .bool true]], .ps .unk [[.str [109, 97, 105, 110], .int .i64 0, .int .i64 60, .str [111, 108, 100], .int .i64 500, .bool false]]], .tup [.ps .unk [[.str [117, 112], .int .i64 0, .int .i64 40, .str [111, 108, 100], .int .i64 520, .bool false]], .int .i64 0]⟩
theorem ac27 : ∀ lo H, CallOk NC lo ak27.f ak27.args H ak27.v H := known_ok saneNC awh26 (fuel := 5000) (by kernel_rfl) (by kernel_rfl) (by kernel_rfl)
def aw27 : List Known := ak27 :: aw26
theorem awh27 : ∀ k ∈ aw27, ∀ lo H, CallOk NC lo k.f k.args H k.v H := fun k h => (List.mem_cons.1 h).elim (fun e => e ▸ ac27) (awh26 k)
def ak28 : Known := ⟨110, [.ps .unk [[.str [109, 97, 105, 110], .ps .unk [[.int .i64 300, .int .i64 1000, .bool false]]]]], .int .i64 0⟩
theorem ac28 : ∀ lo H, CallOk NC lo ak28.f ak28.args H ak28.v H := known_ok saneNC awh27 (fuel := 5000) (by kernel_rfl) (by kernel_rfl) (by kernel_rfl)
def aw28 : List Known := ak28 :: aw27
theorem awh28 : ∀ k ∈ aw28, ∀ lo H, CallOk NC lo k.f k.args H k.v H := fun k h => (List.mem_cons.1 h).elim (fun e => e ▸ ac28) (awh27 k)
def ak29 : Known := ⟨29, [.agg [.ps .unk [[.str [109, 97, 105, 110], .ps .unk [[.int .i64 300, .int .i64 1000, .bool false]]]], .ps .unk [], .ps .unk []]], .int .i64 0⟩
theorem ac29 : ∀ lo H, CallOk NC lo ak29.f ak29.args H ak29.v H := known_ok saneNC awh28 (fuel := 5000) (by kernel_rfl) (by kernel_rfl) (by kernel_rfl)
def aw29 : List Known := ak29 :: aw28
theorem awh29 : ∀ k ∈ aw29, ∀ lo H, CallOk NC lo k.f k.args H k.v H := fun k h => (List.mem_cons.1 h).elim (fun e => e ▸ ac29) (awh28 k)
def ak30 : Known := ⟨133, [.agg [.ps .unk [[.str [117, 112], .ps .unk [[.int .i64 100, .int .i64 5000, .bool false], [.int .i64 50, .int .i64 5080, .bool false], [.int .i64 30, .int .i64 5200, .bool true]]], [.str [115, 105, 100, 101], .ps .unk [[.int .i64 40, .int .i64 0, .bool false]]]], .ps .unk [[.str [119], .str [117, 112], .int .i64 120, .str [115, 105, 100, 101], .bool false]], .ps .unk [[.str [97, 114, 99, 104], .str [98, 114, 105, 100, 103, 101], .str [117, 112], .int .i64 130, .int .i64 150]]], .str [117, 112], .agg [.int .i64 0, .int .i64 100]], .int .i64 0⟩
theorem ac30 : ∀ lo H, CallOk NC lo ak30.f ak30.args H ak30.v H := known_ok saneNC awh29 (fuel := 5000) (by kernel_rfl) (by kernel_rfl) (by kernel_rfl)
def aw30 : List Known := ak30 :: aw29
theorem awh30 : ∀ k ∈ aw30, ∀ lo H, CallOk NC lo k.f k.args H k.v H := fun k h => (List.mem_cons.1 h).elim (fun e => e ▸ ac30) (awh29 k)
def ak31 : Known := ⟨133, [.agg [.ps .unk [[.str [117, 112], .ps .unk [[.int .i64 100, .int .i64 5000, .bool false], [.int .i64 50, .int .i64 5080, .bool false], [.int .i64 30, .int .i64 5200, .bool true]]], [.str [115, 105, 100, 101], .ps .unk [[.int .i64 40, .int .i64 0, .bool false]]]], .ps .unk [[.str [119], .str [117, 112], .int .i64 120, .str [115, 105, 100, 101], .bool false]], .ps .unk [[.str [97, 114, 99, 104], .str [98, 114, 105, 100, 103, 101], .str [117, 112], .int .i64 130, .int .i64 150]]], .str [117, 112], .agg [.int .i64 100, .int .i64 150]], .int .i64 0⟩
theorem ac31 : ∀ lo H, CallOk NC lo ak31.f ak31.args H ak31.v H := known_ok saneNC awh30 (fuel := 5000) (by kernel_rfl) (by kernel_rfl) (by kernel_rfl)
def aw31 : List Known := ak31 :: aw30
theorem awh31 : ∀ k ∈ aw31, ∀ lo H, CallOk NC lo k.f k.args H k.v H := fun k h => (List.mem_cons.1 h).elim (fun e => e ▸ ac31) (awh30 k)
def ak32 : Known := ⟨50, [.ps .unk [[.str [117, 112], .int .i64 0, .int .i64 100, .str [109, 97, 105, 110], .int .i64 20, .bool false], [.str [117, 112], .int .i64 100, .int .i64 50, .str [109, 97, 105, 110], .int .i64 200, .bool true]], .agg [.ps .unk [[.str [117, 112], .ps .unk [[.int .i64 100, .int .i64 5000, .bool false], [.int .i64 50, .int .i64 5080, .bool false], [.int .i64 30, .int .i64 5200, .bool true]]], [.str [115, 105, 100, 101], .ps .unk [[.int .i64 40, .int .i64 0, .bool false]]]], .ps .unk [[.str [119], .str [117, 112], .int .i64 120, .str [115, 105, 100, 101], .bool false]], .ps .unk [[.str [97, 114, 99, 104], .str [98, 114, 105, 100, 103, 101], .str [117, 112], .int .i64 130, .int .i64 150]]], .agg [.ps .unk [[.str [109, 97, 105, 110], .ps .unk [[.int .i64 300, .int .i64 1000, .bool false]]]], .ps .unk [], .ps .unk []]], .int .i64 0⟩
theorem ac32 : ∀ lo H, CallOk NC lo ak32.f ak32.args H ak32.v H := known_ok saneNC awh31 (fuel := 5000) (by kernel_rfl) (by kernel_rfl) (by kernel_rfl)
def aw32 : List Known := ak32 :: aw31
theorem awh32 : ∀ k ∈ aw32, ∀ lo H, CallOk NC lo k.f k.args H k.v H := fun k h => (List.mem_cons.1 h).elim (fun e => e ▸ ac32) (awh31 k)
def ak33 : Known := ⟨69, [.ps .unk [[.int .i64 10, .ps .unk [[.str [117, 112], .ps .unk [[.int .i64 100, .int .i64 5000, .bool false], [.int .i64 50, .int .i64 5080, .bool false], [.int .i64 30, .int .i64 5200, .bool true]]], [.str [115, 105, 100, 101], .ps .unk [[.int .i64 40, .int .i64 0, .bool false]]]], .ps .unk [[.str [119], .str [117, 112], .int .i64 120, .str [115, 105, 100, 101], .bool false]], .ps .unk [[.str [97, 114, 99, 104], .str [98, 114, 105, 100, 103, 101], .str [117, 112], .int .i64 130, .int .i64 150]], .ps .unk []], [.int .i64 20, .ps .unk [[.str [109, 97, 105, 110], .ps .unk [[.int .i64 300, .int .i64 1000, .bool false]]]], .ps .unk [], .ps .unk [], .ps .unk [[.str [117, 112], .int .i64 0, .int .i64 100, .str [109, 97, 105, 110], .int .i64 20, .bool false], [.str [117, 112], .int .i64 100, .int .i64 50, .str [109, 97, 105, 110], .int .i64 200, .bool true]]]]], .int .i64 0⟩
theorem ac33 : ∀ lo H, CallOk NC lo ak33.f ak33.args H ak33.v H := known_ok saneNC awh32 (fuel := 5000) (by kernel_rfl) (by kernel_rfl) (by kernel_rfl)
def aw33 : List Known := ak33 :: aw32
theorem awh33 : ∀ k ∈ aw33, ∀ lo H, CallOk NC lo k.f k.args H k.v H := fun k h => (List.mem_cons.1 h).elim (fun e => e ▸ ac33) (awh32 k)
def ak34 : Known := ⟨65, [.ps .unk [[.int .i64 10, .ps .unk [[.str [117, 112], .ps .unk [[.int .i64 100, .int .i64 5000, .bool false], [.int .i64 50, .int .i64 5080, .bool false], [.int .i64 30, .int .i64 5200, .bool true]]], [.str [115, 105, 100, 101], .ps .unk [[.int .i64 40, .int .i64 0, .bool false]]]], .ps .unk [[.str [119], .str [117, 112], .int .i64 120, .str [115, 105, 100, 101], .bool false]], .ps .unk [[.str [97, 114, 99, 104], .str [98, 114, 105, 100, 103, 101], .str [117, 112], .int .i64 130, .int .i64 150]], .ps .unk []], [.int .i64 20, .ps .unk [[.str [109, 97, 105, 110], .ps .unk [[.int .i64 300, .int .i64 1000, .bool false]]]], .ps .unk [], .ps .unk [], .ps .unk [[.str [117, 112], .int .i64 0, .int .i64 100, .str [109, 97, 105, 110], .int .i64 20, .bool false], [.str [117, 112], .int .i64 100, .int .i64 50, .str [109, 97, 105, 110], .int .i64 200, .bool true]]]], .int .i64 15, .agg [.str [117, 112], .int .i64 1, .int .i64 5090], .int .i64 25], .tup [.agg [.str [109, 97, 105, 110], .int .i64 0, .int .i64 1239], .int .i64 0]⟩
theorem ac34 : ∀ lo H, CallOk NC lo ak34.f ak34.args H ak34.v H := known_ok saneNC awh33 (fuel := 5000) (by kernel_rfl) (by kernel_rfl) (by kernel_rfl)
def aw34 : List Known := ak34 :: aw33
theorem awh34 : ∀ k ∈ aw34, ∀ lo H, CallOk NC lo k.f k.args H k.v H := fun k h => (List.mem_cons.1 h).elim (fun e => e ▸ ac34) (awh33 k)
def ak35 : Known := ⟨65, [.ps .unk [[.int .i64 10, .ps .unk [[.str [117, 112], .ps .unk [[.int .i64 100, .int .i64 5000, .bool false], [.int .i64 50, .int .i64 5080, .bool false], [.int .i64 30, .int .i64 5200, .bool true]]], [.str [115, 105, 100, 101], .ps .unk [[.int .i64 40, .int .i64 0, .bool false]]]], .ps .unk [[.str [119], .str [117, 112], .int .i64 120, .str [115, 105, 100, 101], .bool false]], .ps .unk [[.str [97, 114, 99, 104], .str [98, 114, 105, 100, 103, 101], .str [117, 112], .int .i64 130, .int .i64 150]], .ps .unk []], [.int .i64 20, .ps .unk [[.str [109, 97, 105, 110], .ps .unk [[.int .i64 300, .int .i64 1000, .bool false]]]], .ps .unk [], .ps .unk [], .ps .unk [[.str [117, 112], .int .i64 0, .int .i64 100, .str [109, 97, 105, 110], .int .i64 20, .bool false], [.str [117, 112], .int .i64 100, .int .i64 50, .str [109, 97, 105, 110], .int .i64 200, .bool true]]]], .int .i64 25, .agg [.str [109, 97, 105, 110], .int .i64 0, .int .i64 1239], .int .i64 10], .tup [.agg [.str [117, 112], .int .i64 1, .int .i64 5090], .int .i64 0]⟩
theorem ac35 : ∀ lo H, CallOk NC lo ak35.f ak35.args H ak35.v H := known_ok saneNC awh34 (fuel := 5000) (by kernel_rfl) (by kernel_rfl) (by kernel_rfl)
def aw35 : List Known := ak35 :: aw34
theorem awh35 : ∀ k ∈ aw35, ∀ lo H, CallOk NC lo k.f k.args H k.v H := fun k h => (List.mem_cons.1 h).elim (fun e => e ▸ ac35) (awh34 k)
def ak36 : Known := ⟨102, [.agg [.ps .unk [[.str [117, 112], .ps .unk [[.int .i64 100, .int .i64 5000, .bool false], [.int .i64 50, .int .i64 5080, .bool false], [.int .i64 30, .int .i64 5200, .bool true]]], [.str [115, 105, 100, 101], .ps .unk [[.int .i64 40, .int .i64 0, .bool false]]]], .ps .unk [[.str [119], .str [117, 112], .int .i64 120, .str [115, 105, 100, 101], .bool false]], .ps .unk [[.str [97, 114, 99, 104], .str [98, 114, 105, 100, 103, 101], .str [117, 112], .int .i64 130, .int .i64 150]]], .agg [.str [117, 112], .int .i64 2, .int .i64 5171]], .tup [.agg [.str [117, 112], .int .i64 179], .int .i64 0]⟩
theorem ac36 : ∀ lo H, CallOk NC lo ak36.f ak36.args H ak36.v H := known_ok saneNC awh35 (fuel := 5000) (by kernel_rfl) (by kernel_rfl) (by kernel_rfl)
def aw36 : List Known := ak36 :: aw35
theorem awh36 : ∀ k ∈ aw36, ∀ lo H, CallOk NC lo k.f k.args H k.v H := fun k h => (List.mem_cons.1 h).elim (fun e => e ▸ ac36) (awh35 k)
def ak37 : Known := ⟨65, [.ps .unk [[.int .i64 10, .ps .unk [[.str [117, 112], .ps .unk [[.int .i64 100, .int .i64 5000, .bool false], [.int .i64 50, .int .i64 5080, .bool false], [.int .i64 30, .int .i64 5200, .bool true]]], [.str [115, 105, 100, 101], .ps .unk [[.int .i64 40, .int .i64 0, .bool false]]]], .ps .unk [[.str [119], .str [117, 112], .int .i64 120, .str [115, 105, 100, 101], .bool false]], .ps .unk [[.str [97, 114, 99, 104], .str [98, 114, 105, 100, 103, 101], .str [117, 112], .int .i64 130, .int .i64 150]], .ps .unk []], [.int .i64 20, .ps .unk [[.str [109, 97, 105, 110], .ps .unk [[.int .i64 300, .int .i64 1000, .bool false]]]], .ps .unk [], .ps .unk [], .ps .unk [[.str [117, 112], .int .i64 0, .int .i64 100, .str [109, 97, 105, 110], .int .i64 20, .bool false], [.str [117, 112], .int .i64 100, .int .i64 50, .str [109, 97, 105, 110], .int .i64 200, .bool true]]]], .int .i64 15, .agg [.str [117, 112], .int .i64 2, .int .i64 5171], .int .i64 25], .tup [.agg [.str [], .int .i64 0, .int .i64 0], .int .i64 7]⟩
theorem ac37 : ∀ lo H, CallOk NC lo ak37.f ak37.args H ak37.v H := known_ok saneNC awh36 (fuel := 5000) (by kernel_rfl) (by kernel_rfl) (by kernel_rfl)
def aw37 : List Known := ak37 :: aw36
theorem awh37 : ∀ k ∈ aw37, ∀ lo H, CallOk NC lo k.f k.args H k.v H := fun k h => (List.mem_cons.1 h).elim (fun e => e ▸ ac37) (awh36 k)
def ak38 : Known := ⟨87, [.agg [.ps .unk [[.str [117, 112], .ps .unk [[.int .i64 100, .int .i64 5000, .bool false], [.int .i64 50, .int .i64 5080, .bool false], [.int .i64 30, .int .i64 5200, .bool true]]], [.str [115, 105, 100, 101], .ps .unk [[.int .i64 40, .int .i64 0, .bool false]]]], .ps .unk [[.str [119], .str [117, 112], .int .i64 120, .str [115, 105, 100, 101], .bool false]], .ps .unk [[.str [97, 114, 99, 104], .str [98, 114, 105, 100, 103, 101], .str [117, 112], .int .i64 130, .int .i64 150]]]], .tup [.str [108, 105, 110, 101, 32, 117, 112, 10, 112, 105, 101, 99, 101, 32, 49, 48, 48, 32, 53, 48, 48, 48, 32, 117, 112, 10, 112, 105, 101, 99, 101, 32, 53, 48, 32, 53, 48, 56, 48, 32, 117, 112, 10, 112, 105, 101, 99, 101, 32, 51, 48, 32, 53, 50, 48, 48, 32, 100, 111, 119, 110, 10, 108, 105, 110, 101, 32, 115, 105, 100, 101, 10, 112, 105, 101, 99, 101, 32, 52, 48, 32, 48, 32, 117, 112, 10, 115, 119, 105, 116, 99, 104, 32, 119, 32, 117, 112, 32, 49, 50, 48, 32, 115, 105, 100, 101, 32, 102, 105, 114, 115, 116, 10, 115, 116, 114, 117, 99, 116, 117, 114, 101, 32, 97, 114, 99, 104, 32, 98, 114, 105, 100, 103, 101, 32, 117, 112, 32, 49, 51, 48, 32, 49, 53, 48, 10], .int .i64 0]⟩
theorem ac38 : ∀ lo H, CallOk NC lo ak38.f ak38.args H ak38.v H := known_ok saneNC awh37 (fuel := 5000) (by kernel_rfl) (by kernel_rfl) (by kernel_rfl)
def aw38 : List Known := ak38 :: aw37
theorem awh38 : ∀ k ∈ aw38, ∀ lo H, CallOk NC lo k.f k.args H k.v H := fun k h => (List.mem_cons.1 h).elim (fun e => e ▸ ac38) (awh37 k)
def ak39 : Known := ⟨16, [], .bool true⟩
theorem ac39 : ∀ lo H, CallOk NC lo ak39.f ak39.args H ak39.v H := known_ok saneNC awh38 (fuel := 5000) (by kernel_rfl) (by kernel_rfl) (by kernel_rfl)
end Go.Sim

/-
The law: NetworkPlaces returns true.
-/
namespace Go.Sim
open Go Go.Proofs
set_option maxRecDepth 100000
set_option maxHeartbeats 16000000
noncomputable def p16 : List AV → Option AV := fun l => match l with
  | [] => some (.bool true)
  | _ => none
theorem pok16 : ∀ args v, p16 args = some v → ∀ lo H, CallOk NC lo 16 args H v H := by
  intro args v h
  cases args with
  | nil =>
    have : v = .bool true := by simpa [p16] using h.symm
    subst this
    exact ac39
  | cons a r => simp [p16] at h
theorem e16 : p16 [] = some (.bool true) := rfl
theorem ety28 : eqType NC.P 100 28 = true := by kernel_rfl
theorem aeq28' (a a' : List Nat) (b b' : Int) : aeqT NC.P 100 28 (.agg [.str a, .int .i64 b]) (.agg [.str a', .int .i64 b']) =
    (match some (beqL a a') with
    | some true => (match some (eqI b b') with
      | some true => some true
      | some false => some false
      | none => none)
    | some false => some false
    | none => none) := by kernel_rfl
end Go.Sim

/-
The plain law of histories: valid ones; places stay within the networks.
-/
namespace Go.Sim
open Go
theorem carO_hit {m : List Mv} {p q : Pl} (h : carO m p = some q) : ∃ x ∈ m, hitMv p.1 p.2 x = true ∧ q = (x.other, atI x p.2) := by
  unfold carO at h
  cases hf : m.find? (hitMv p.1 p.2) with
  | none => rw [hf] at h; cases h
  | some x =>
    rw [hf] at h
    simp only [Option.map_some, Option.some.injEq] at h
    exact ⟨x, List.mem_of_find?_eq_some hf, by simpa using List.find?_some hf, h.symm⟩
theorem Mv.Good.undo {x : Mv} (h : x.Good) : (undoMv x).Good := ⟨h.other, h.line, h.to, h.len, h.fr, h.tol, h.frl⟩
end Go.Sim

/-
The plain law of maps: metres apart; what is carried is carried back.
-/
namespace Go.Sim
open Go
theorem if_zero {b : Bool} {c r : Int} (hc : c ≠ 0) (h : (if b = true then c else r) = 0) : b = false ∧ r = 0 := by
  cases b with
  | false => exact ⟨rfl, by simpa using h⟩
  | true => exact absurd (by simpa using h) hc
theorem map_step {m : List Mv} (h : mapR m = 0) {i : Nat} {x : Mv} (hx : m[i]? = some x) :
    (∀ j l, i = j + 1 → m[j]? = some l → orderB l x = false) ∧ ∀ j y, j < i → m[j]? = some y → overB y x = false := by
  have hlt := (List.getElem?_eq_some_iff.1 hx).1
  have hz : mvR m i = 0 := by
    unfold mapR at h
    split at h
    · cases h
    · exact allR_zero h hlt
  unfold mvR at hz
  simp only [hx] at hz
  split at hz
  · obtain ⟨_, hz⟩ := if_zero (by decide) hz
    obtain ⟨hO, hz⟩ := if_zero (by decide) hz
    obtain ⟨h2, _⟩ := if_zero (by decide) hz
    refine ⟨?_, ?_⟩
    · rintro j l rfl hl
      simp only [hl] at hO
      exact hO
    · intro j y hj hy
      cases hb : overB y x with
      | false => rfl
      | true => rw [any_take (f := fun y => overB y x) hj hy hb] at h2; cases h2
  · rename_i he; exact absurd hz he
theorem Mv.ahead_trans {x y z : Mv} (hy : 0 ≤ y.len) (h1 : x.ahead y) (h2 : y.ahead z) : x.ahead z := by
  unfold Mv.ahead at *
  rcases h1 with h1 | ⟨h1, h1'⟩
  · rcases h2 with h2 | ⟨h2, h2'⟩
    · exact .inl (strLt_trans h1 h2)
    · exact .inl (by rw [← h2]; exact h1)
  · rcases h2 with h2 | ⟨h2, h2'⟩
    · exact .inl (by rw [h1]; exact h2)
    · exact .inr ⟨h1.trans h2, by omega⟩
theorem order_ahead {l x : Mv} (hl : l.Good) (h : orderB l x = false) : l.ahead x := by
  unfold orderB at h
  rw [hl.end_] at h
  simp only [Bool.or_eq_false_iff, Bool.and_eq_false_iff, decide_eq_false_iff_not] at h
  unfold Mv.ahead
  rcases strLt_tri l.line x.line with h1 | h1 | h1
  · exact .inl h1
  · refine .inr ⟨h1, ?_⟩
    rcases h.2 with h2 | h2
    · rw [h1, beqL_rfl] at h2; cases h2
    · omega
  · rw [h1] at h; exact absurd h.1 (by simp)
theorem map_ahead {m : List Mv} (h : mapR m = 0) : ∀ (j i : Nat) {x y : Mv}, i < j → m[i]? = some x → m[j]? = some y → x.ahead y
  | 0, i, x, y, hi, _, _ => absurd hi (by omega)
  | j + 1, i, x, y, hi, hx, hy => by
    have hjl := (List.getElem?_eq_some_iff.1 hy).1
    have hl : m[j]? = some (m[j]'(by omega)) := List.getElem?_eq_getElem (by omega)
    generalize m[j]'(by omega) = l at hl
    have hlg := map_good h (List.mem_of_getElem? hl)
    have h1 := order_ahead hlg ((map_step h hy).1 j l rfl hl)
    by_cases e : i = j
    · subst e; rw [hx] at hl; cases hl; exact h1
    · exact Mv.ahead_trans (by have := hlg.len; omega) (map_ahead h j i (by omega) hx hl) h1
theorem map_pair {m : List Mv} (h : mapR m = 0) : m.Pairwise Mv.ahead := by
  rw [List.pairwise_iff_getElem]
  intro i j hi hj hij
  exact map_ahead h j i hij (List.getElem?_eq_getElem hi) (List.getElem?_eq_getElem hj)
def Mv.tapart (x y : Mv) : Prop := x.other ≠ y.other ∨ x.to + x.len ≤ y.to ∨ y.to + y.len ≤ x.to
theorem over_apart {a b : Mv} (ha : a.Good) (hb : b.Good) (h : overB a b = false) : a.tapart b := by
  unfold overB at h
  rw [ha.till, hb.till] at h
  simp only [Bool.and_eq_false_iff, decide_eq_false_iff_not] at h
  unfold Mv.tapart
  rcases h with (h | h) | h
  · left; intro e; rw [e, beqL_rfl] at h; cases h
  · right; omega
  · right; omega
theorem Mv.apart_symm {x y : Mv} (h : x.apart y) : y.apart x := by
  unfold Mv.apart at *
  rcases h with h | h | h
  · exact .inl fun e => h e.symm
  · exact .inr (.inr h)
  · exact .inr (.inl h)
theorem Mv.ahead_apart {x y : Mv} (h : x.ahead y) : x.apart y := by
  unfold Mv.ahead at h
  unfold Mv.apart
  rcases h with h | h
  · left; intro e; rw [e, strLt_irrefl] at h; cases h
  · exact .inr (.inl h.2)
structure Fair (m : List Mv) : Prop where
  good : ∀ x ∈ m, x.Good
  src : m.Pairwise Mv.apart
  dst : m.Pairwise Mv.tapart
theorem fair_of {m : List Mv} (h : mapR m = 0) : Fair m where
  good := fun x hx => map_good h hx
  src := (map_pair h).imp Mv.ahead_apart
  dst := by
    rw [List.pairwise_iff_getElem]
    intro i j hi hj hij
    have e1 := List.getElem?_eq_getElem hi
    have e2 := List.getElem?_eq_getElem hj
    exact over_apart (map_good h (List.mem_of_getElem? e1)) (map_good h (List.mem_of_getElem? e2)) ((map_step h e2).2 i _ hij e1)
theorem undo_undo (x : Mv) : undoMv (undoMv x) = x := rfl
theorem undos_undos (m : List Mv) : (m.map undoMv).map undoMv = m := by
  rw [List.map_map]
  have : undoMv ∘ undoMv = id := rfl
  rw [this, List.map_id]
theorem Fair.undo {m : List Mv} (h : Fair m) : Fair (m.map undoMv) where
  good := fun x hx => by
    obtain ⟨y, hy, rfl⟩ := List.mem_map.1 hx
    exact (h.good y hy).undo
  src := by
    rw [List.pairwise_map]
    exact h.dst
  dst := by
    rw [List.pairwise_map]
    exact h.src
theorem Fair.uniq : ∀ {m : List Mv}, Fair m → ∀ {x y : Mv}, x ∈ m → y ∈ m → x.line = y.line → ∀ {q : Int}, x.fr ≤ q → q < x.fr + x.len → y.fr ≤ q → q < y.fr + y.len → x = y
  | [], _, x, y, hx, _, _, _, _, _, _, _ => by cases hx
  | z :: r, h, x, y, hx, hy, hl, q, a1, a2, b1, b2 => by
    have hs := List.pairwise_cons.1 h.src
    rcases List.mem_cons.1 hx with rfl | hx' <;> rcases List.mem_cons.1 hy with rfl | hy'
    · rfl
    · exfalso
      rcases hs.1 y hy' with c | c | c
      · exact c hl
      · omega
      · omega
    · exfalso
      rcases hs.1 x hx' with c | c | c
      · exact c hl.symm
      · omega
      · omega
    · exact Fair.uniq ⟨fun x hx => h.good x (by simp [hx]), hs.2, (List.pairwise_cons.1 h.dst).2⟩ hx' hy' hl a1 a2 b1 b2
theorem atI_dst {x : Mv} (hx : x.Good) {q : Int} (h0 : x.fr ≤ q) (h1 : q < x.fr + x.len) : atI x q = x.dst (q - x.fr) := by
  have := hx.fr; have := hx.len; have := hx.frl; have := hx.to; have := hx.tol
  have e1 : Int.sub (x.to + x.len) 1 = x.to + x.len - 1 := rfl
  have e2 : Int.sub q x.fr = q - x.fr := rfl
  have e3 : Int.sub (x.to + x.len - 1) (q - x.fr) = x.to + x.len - 1 - (q - x.fr) := rfl
  have e4 : Int.add x.to q = x.to + q := rfl
  have e5 : Int.sub (x.to + q) x.fr = x.to + q - x.fr := rfl
  unfold atI Mv.dst
  rw [hx.till, e1, wrap_small (x := x.to + x.len - 1) (by omega) (by omega), e2, wrap_small (x := q - x.fr) (by omega) (by omega), e3, wrap_small (x := x.to + x.len - 1 - (q - x.fr)) (by omega) (by omega), e4, wrap_small (x := x.to + q) (by omega) (by omega), e5, wrap_small (x := x.to + q - x.fr) (by omega) (by omega)]
  split <;> omega
theorem hit_of {x : Mv} (hx : x.Good) {s : List Nat} {q : Int} (h1 : x.line = s) (h2 : x.fr ≤ q) (h3 : q < x.fr + x.len) : hitMv s q x = true := by
  unfold hitMv
  rw [hx.end_, h1, beqL_rfl]
  simp only [Bool.true_and, Bool.and_eq_true, Bool.not_eq_true', decide_eq_true_eq, decide_eq_false_iff_not]
  omega
theorem carO_iff {m : List Mv} (h : Fair m) {p q : Pl} : carO m p = some q ↔ ∃ x ∈ m, x.line = p.1 ∧ x.fr ≤ p.2 ∧ p.2 < x.fr + x.len ∧ q = (x.other, x.dst (p.2 - x.fr)) := by
  constructor
  · intro hc
    obtain ⟨x, hx, hh, rfl⟩ := carO_hit hc
    have hg := h.good x hx
    obtain ⟨h1, h2, h3⟩ := hit_in hg hh
    exact ⟨x, hx, h1, h2, h3, by rw [atI_dst hg h2 h3]⟩
  · rintro ⟨x, hx, h1, h2, h3, rfl⟩
    have hg := h.good x hx
    have hh : hitMv p.1 p.2 x = true := hit_of hg h1 h2 h3
    have hs : (m.find? (hitMv p.1 p.2)).isSome := by rw [List.find?_isSome]; exact ⟨x, hx, hh⟩
    obtain ⟨y, hy⟩ := Option.isSome_iff_exists.1 hs
    have hym := List.mem_of_find?_eq_some hy
    have hyh : hitMv p.1 p.2 y = true := by simpa using List.find?_some hy
    obtain ⟨k1, k2, k3⟩ := hit_in (h.good y hym) hyh
    have e : y = x := h.uniq hym hx (k1.trans h1.symm) k2 k3 h2 h3
    subst e
    unfold carO
    rw [hy]
    simp only [Option.map_some, atI_dst hg h2 h3]
theorem carO_back {m : List Mv} (h : Fair m) {p q : Pl} (hc : carO m p = some q) : carO (m.map undoMv) q = some p := by
  obtain ⟨x, hx, h1, h2, h3, rfl⟩ := (carO_iff h).1 hc
  rw [carO_iff h.undo]
  obtain ⟨s, k⟩ := p
  simp only at h1 h2 h3
  have hd : x.to ≤ x.dst (k - x.fr) ∧ x.dst (k - x.fr) < x.to + x.len := by unfold Mv.dst; split <;> omega
  refine ⟨undoMv x, List.mem_map.2 ⟨x, hx, rfl⟩, rfl, hd.1, hd.2, ?_⟩
  have e : (undoMv x).dst (x.dst (k - x.fr) - x.to) = k := by
    unfold Mv.dst undoMv
    simp only []
    cases x.turned <;> simp <;> omega
  show (s, k) = (x.line, (undoMv x).dst (x.dst (k - x.fr) - x.to))
  rw [e, h1]
theorem carO_inv {m : List Mv} (h : Fair m) {p q : Pl} : carO m p = some q ↔ carO (m.map undoMv) q = some p := by
  refine ⟨carO_back h, fun hc => ?_⟩
  have := carO_back h.undo hc
  rw [undos_undos] at this
  exact this
end Go.Sim

/-
Further facts on the types and the regions of this program.
-/
namespace Go.Sim
open Go Go.Proofs
theorem un_376 : NC.P.underlying 376 = some (.int .u64) := by kernel_rfl
theorem ze_376 : zeroOf NC.P 376 = some (.int .u64 0) := by kernel_rfl
theorem sz_376 : szOf NC.P 376 = some 1 := by kernel_rfl
theorem ze_388 : zeroOf NC.P 388 = some (.agg [.int .u8 0, .int .u8 0, .int .u8 0, .int .u8 0, .int .u8 0, .int .u8 0, .int .u8 0, .int .u8 0, .int .u8 0, .int .u8 0, .int .u8 0, .int .u8 0, .int .u8 0, .int .u8 0, .int .u8 0, .int .u8 0, .int .u8 0, .int .u8 0, .int .u8 0, .int .u8 0, .int .u8 0, .int .u8 0, .int .u8 0, .int .u8 0]) := by kernel_rfl
theorem un_2 : NC.P.underlying 2 = some (.int .i64) := by kernel_rfl
theorem un_388 : NC.P.underlying 388 = some (.array 24 5) := by kernel_rfl
theorem ag_376 : aggOf NC.P 376 = some false := by kernel_rfl
theorem pl_264_4 (P : FuncId → Option (List AV → Option AV)) : (NC.withPrims P).plans 264 4 = [⟨.data, 0, 0, []⟩, ⟨.data, 0, 0, []⟩, ⟨.data, 0, 3, []⟩, ⟨.data, 0, 7, []⟩, ⟨.data, 0, 15, []⟩, ⟨.data, 0, 15, []⟩, ⟨.data, 0, 15, []⟩, ⟨.data, 0, 111, []⟩, ⟨.load, 0, 239, []⟩, ⟨.data, 0, 15, []⟩, ⟨.data, 0, 15, []⟩, ⟨.data, 0, 1039, []⟩, ⟨.data, 0, 3599, []⟩, ⟨.load, 0, 7695, []⟩, ⟨.write, 0, 16383, []⟩, ⟨.data, 1, 32767, []⟩, ⟨.data, 1, 65535, []⟩] := by kernel_rfl
theorem pl_264_6 (P : FuncId → Option (List AV → Option AV)) : (NC.withPrims P).plans 264 6 = [⟨.data, 0, 0, []⟩, ⟨.data, 0, 0, []⟩, ⟨.data, 0, 0, []⟩, ⟨.data, 0, 0, []⟩, ⟨.data, 0, 8, []⟩, ⟨.data, 0, 0, []⟩, ⟨.data, 0, 0, []⟩, ⟨.data, 0, 64, []⟩, ⟨.data, 0, 224, []⟩, ⟨.load, 0, 480, []⟩, ⟨.data, 0, 0, []⟩, ⟨.data, 0, 0, []⟩, ⟨.data, 0, 3072, []⟩, ⟨.load, 0, 7168, []⟩, ⟨.data, 0, 16355, []⟩, ⟨.writeAt, 0, 32739, []⟩, ⟨.data, 1, 65535, []⟩, ⟨.writeAt, 1, 131071, []⟩] := by kernel_rfl
theorem pl_240_17 (P : FuncId → Option (List AV → Option AV)) : (NC.withPrims P).plans 240 17 = [⟨.data, 0, 0, []⟩, ⟨.data, 0, 1, []⟩, ⟨.data, 0, 3, []⟩, ⟨.data, 0, 7, []⟩, ⟨.data, 0, 7, []⟩, ⟨.data, 0, 7, []⟩, ⟨.data, 0, 39, []⟩, ⟨.data, 0, 119, []⟩, ⟨.load, 0, 247, []⟩, ⟨.data, 0, 7, []⟩, ⟨.data, 0, 7, []⟩, ⟨.data, 0, 1543, []⟩, ⟨.load, 0, 3591, []⟩, ⟨.write, 0, 8191, []⟩, ⟨.data, 1, 16383, []⟩, ⟨.data, 1, 32767, []⟩, ⟨.data, 1, 65535, []⟩] := by kernel_rfl
attribute [go_sem] un_376 ze_376 sz_376 ze_388 un_2 un_388 ag_376 pl_264_4
attribute [go_sem] pl_264_6 pl_240_17
end Go.Sim

/-
Sorting by insertion: the plain law.
-/
namespace Go.Sim
section
variable {α : Type} (lt : α → α → Bool)
def insRev (x : α) : List α → List α
  | [] => [x]
  | y :: r => if lt x y then y :: insRev x r else x :: y :: r
def isortRev : List α → List α → List α
  | acc, [] => acc
  | acc, x :: r => isortRev (insRev lt x acc) r
def isort (l : List α) : List α := (isortRev lt [] l).reverse
theorem insRev_cons (x y : α) (r : List α) : insRev lt x (y :: r) = if lt x y then y :: insRev lt x r else x :: y :: r := rfl
theorem isortRev_append : ∀ (l m acc : List α), isortRev lt acc (l ++ m) = isortRev lt (isortRev lt acc l) m
  | [], _, _ => rfl
  | x :: r, m, acc => by
    show isortRev lt (insRev lt x acc) (r ++ m) = _
    rw [isortRev_append r m]; rfl
theorem insRev_perm (x : α) : ∀ l : List α, List.Perm (insRev lt x l) (x :: l)
  | [] => List.Perm.refl _
  | y :: r => by
    unfold insRev
    split
    · exact ((insRev_perm x r).cons y).trans (List.Perm.swap x y r)
    · exact List.Perm.refl _
theorem isortRev_perm : ∀ (l acc : List α), List.Perm (isortRev lt acc l) (acc ++ l)
  | [], acc => by simp [isortRev]
  | x :: r, acc => by
    show List.Perm (isortRev lt (insRev lt x acc) r) _
    refine (isortRev_perm r _).trans ?_
    refine ((insRev_perm lt x acc).append_right r).trans ?_
    exact List.perm_middle.symm
theorem isort_perm (l : List α) : List.Perm (isort lt l) l := by
  unfold isort
  exact (List.reverse_perm _).trans (by simpa using isortRev_perm lt l [])
theorem isort_length (l : List α) : (isort lt l).length = l.length := (isort_perm lt l).length_eq
theorem isort_snoc (l : List α) (x : α) : isort lt (l ++ [x]) = (insRev lt x (isort lt l).reverse).reverse := by
  unfold isort
  rw [isortRev_append, List.reverse_reverse]; rfl
theorem ins_at {pre suf : List α} {x : α} (h1 : ∀ y ∈ suf, lt x y = true) (h2 : pre = [] ∨ ∃ p y, pre = p ++ [y] ∧ lt x y = false) : (insRev lt x (pre ++ suf).reverse).reverse = pre ++ x :: suf := by
  have key : ∀ (s p : List α), (∀ y ∈ s, lt x y = true) → insRev lt x (s ++ p) = s ++ insRev lt x p := by
    intro s
    induction s with
    | nil => intro p _; rfl
    | cons y r ih =>
      intro p h
      rw [List.cons_append, insRev_cons, if_pos (h y (by simp)), ih p fun z hz => h z (by simp [hz])]; rfl
  rw [List.reverse_append, key _ _ fun y hy => h1 y (by simpa using hy)]
  have : insRev lt x pre.reverse = x :: pre.reverse := by
    rcases h2 with rfl | ⟨p, y, rfl, hy⟩
    · rfl
    · rw [List.reverse_append]
      show insRev lt x (y :: p.reverse) = _
      rw [insRev_cons, if_neg (by rw [hy]; simp)]; rfl
  rw [this]
  simp
variable (asym : ∀ a b, lt a b = true → lt b a = false) (tr : ∀ a b c, lt b a = false → lt c b = false → lt c a = false)
include asym tr
theorem insRev_sorted (x : α) : ∀ l : List α, l.Pairwise (fun a b => lt a b = false) → (insRev lt x l).Pairwise (fun a b => lt a b = false)
  | [], _ => by simp [insRev]
  | y :: r, h => by
    have hc := List.pairwise_cons.1 h
    unfold insRev
    split
    · rename_i hxy
      rw [List.pairwise_cons]
      refine ⟨fun z hz => ?_, insRev_sorted x r hc.2⟩
      rcases List.mem_cons.1 ((insRev_perm lt x r).mem_iff.1 hz) with rfl | hz
      · exact asym _ _ hxy
      · exact hc.1 z hz
    · rename_i hxy
      have hxy : lt x y = false := by simpa using hxy
      rw [List.pairwise_cons]
      refine ⟨fun z hz => ?_, h⟩
      rcases List.mem_cons.1 hz with rfl | hz
      · exact hxy
      · exact tr z y x (hc.1 z hz) hxy
theorem isortRev_sorted : ∀ (l acc : List α), acc.Pairwise (fun a b => lt a b = false) → (isortRev lt acc l).Pairwise (fun a b => lt a b = false)
  | [], _, h => h
  | x :: r, acc, h => isortRev_sorted r _ (insRev_sorted lt asym tr x acc h)
theorem isort_sorted (l : List α) : (isort lt l).Pairwise (fun a b => lt b a = false) := by
  unfold isort
  rw [List.pairwise_reverse]
  exact isortRev_sorted lt asym tr l [] List.Pairwise.nil
end
/-! ### By a key: what is alike keeps its order -/
section
variable {α : Type} (key : α → Int)
end
end Go.Sim

/-
Rows that lie one behind the other.
-/
namespace Go.Sim
open Go
/-! ### Small numbers -/
theorem wl01 : wrapq .i64 (Int.add 0 1) = 1 := rfl
theorem wl12 : wrapq .i64 (Int.add 1 1) = 2 := rfl
theorem i23 : ((2 : Int) < 3) = True := by simp
theorem cast2 : ((2 : Nat) : Int) = 2 := rfl
theorem i02 : ((0 : Int) < 2) = True := by simp
theorem i12 : ((1 : Int) < 2) = True := by simp
theorem i22 : ((2 : Int) < 2) = False := by simp
def Even (sz : Nat) (rows : List (List AV)) : Prop := ∀ r ∈ rows, r.length = sz
theorem Even.map {α : Type} {sz : Nat} {f : α → List AV} (hf : ∀ x, (f x).length = sz) (l : List α) : Even sz (l.map f) := by
  intro r hr
  obtain ⟨x, _, rfl⟩ := List.mem_map.1 hr
  exact hf x
theorem fl_len {sz : Nat} : ∀ {rows : List (List AV)}, Even sz rows → rows.flatten.length = rows.length * sz
  | [], _ => by simp
  | r :: rs, h => by
    rw [List.flatten_cons, List.length_append, h r (by simp), fl_len fun x hx => h x (by simp [hx]), List.length_cons, Nat.succ_mul, Nat.add_comm]
theorem fl_split {sz : Nat} : ∀ {rows : List (List AV)} {j : Nat} {r : List AV}, Even sz rows → rows[j]? = some r → ∃ a b, rows.flatten = a ++ r ++ b ∧ a.length = j * sz ∧ (∀ v, (rows.set j v).flatten = a ++ v ++ b)
  | [], j, r, _, h => by simp at h
  | x :: xs, 0, r, he, h => by
    simp at h; subst h
    exact ⟨[], xs.flatten, by simp, by simp, fun v => by simp⟩
  | x :: xs, j + 1, r, he, h => by
    have h' : xs[j]? = some r := by simpa using h
    obtain ⟨a, b, h1, h2, h3⟩ := fl_split (fun y hy => he y (by simp [hy])) h'
    refine ⟨x ++ a, b, by rw [List.flatten_cons, h1]; simp, by rw [List.length_append, h2, he x (by simp), Nat.succ_mul, Nat.add_comm], fun v => ?_⟩
    rw [List.set_cons_succ, List.flatten_cons, h3]; simp
theorem fl_at {sz : Nat} {rows : List (List AV)} {j : Nat} {r : List AV} (he : Even sz rows) (h : rows[j]? = some r) : j * sz + sz ≤ rows.flatten.length ∧ (rows.flatten.drop (j * sz)).take sz = r := by
  obtain ⟨a, b, h1, h2, _⟩ := fl_split he h
  have hr := he r (List.mem_of_getElem? h)
  rw [h1]
  refine ⟨by simp; omega, ?_⟩
  rw [List.append_assoc, ← h2, List.drop_left, ← hr, List.take_left]
theorem fl_over {sz : Nat} {rows : List (List AV)} {j : Nat} {r v : List AV} (he : Even sz rows) (h : rows[j]? = some r) (hv : v.length = sz) : over rows.flatten (j * sz) v = (rows.set j v).flatten := by
  obtain ⟨a, b, h1, h2, h3⟩ := fl_split he h
  have hr := he r (List.mem_of_getElem? h)
  have ht : (a ++ r ++ b).take a.length = a := by rw [List.append_assoc, List.take_left]
  have hd : (a ++ r ++ b).drop (a.length + sz) = b := by
    have e : a.length + sz = (a ++ r).length := by rw [List.length_append, hr]
    rw [e, List.drop_left]
  rw [h3 v, h1]
  unfold over
  rw [hv, ← h2, ht, hd]
theorem Even.set {sz : Nat} {rows : List (List AV)} (he : Even sz rows) {j : Nat} {v : List AV} (hv : v.length = sz) : Even sz (rows.set j v) := by
  intro r hr
  rcases List.mem_or_eq_of_mem_set hr with h | h
  · exact he r h
  · subst h; exact hv
theorem chunks_flat {sz : Nat} : ∀ {rows : List (List AV)}, Even sz rows → chunks sz rows.length rows.flatten = some rows
  | [], _ => rfl
  | r :: rs, h => by
    have hr := h r (by simp)
    have hd : (r ++ rs.flatten).drop sz = rs.flatten := by rw [← hr, List.drop_left]
    have ht : (r ++ rs.flatten).take sz = r := by rw [← hr, List.take_left]
    have hle : sz ≤ (r ++ rs.flatten).length := by simp; omega
    rw [List.length_cons, List.flatten_cons]
    unfold chunks
    rw [if_pos hle, hd, ht, chunks_flat fun x hx => h x (by simp [hx])]
theorem swap_rows {α : Type} (f : α → List AV) (p s : List α) (x y : α) :
    ((((p ++ y :: x :: s).map f).set (p.length + 1) (f y)).set p.length (f x)) = (p ++ x :: y :: s).map f := by
  have key : ∀ (a : List (List AV)) (u v w z : List AV) (b : List (List AV)), ((a ++ u :: v :: b).set (a.length + 1) w).set a.length z = a ++ z :: w :: b := by
    intro a u v w z b
    induction a with
    | nil => rfl
    | cons c r ih => simp only [List.cons_append, List.length_cons, List.set_cons_succ, ih]
  have := key (p.map f) (f y) (f x) (f y) (f x) (s.map f)
  rw [List.length_map] at this
  rw [List.map_append, List.map_cons, List.map_cons, this, List.map_append, List.map_cons, List.map_cons]
end Go.Sim

/-
Short forms: parts of moves, their order, composed moves.
-/
namespace Go.Sim
open Go Go.Proofs
set_option maxRecDepth 100000
set_option maxHeartbeats 8000000
theorem ety4 : eqType NC.P 100 4 = true := by kernel_rfl
theorem aeq4 (a b : Bool) : aeqT NC.P 100 4 (.bool a) (.bool b) = some (a == b) := by cases a <;> cases b <;> kernel_rfl
theorem beq_tt : (true == true) = true := rfl
theorem beq_tf : (true == false) = false := rfl
theorem beq_ft : (false == true) = false := rfl
theorem beq_ff : (false == false) = true := rfl
attribute [go_sem] ety4 aeq4 beq_tt beq_tf beq_ft beq_ff
noncomputable def PPF188 : FuncId → Option (List AV → Option AV) := fun _ => none
theorem primsF188 : PrimsOk NC PPF188 := primsOk_none
theorem c188 (a : Int) : ∀ lo H, CallOk NC lo 188 [i64 a] H (.bool false) H := by
  refine contract saneNC primsF188 (fn := Tryz.f188) (by kernel_rfl) Tryz.func188 rfl rfl (by rfl) (by first | rfl | (split <;> first | rfl | (split <;> rfl))) ?_
  have : (a = a) = True := by simp
  simp only [go_sem, reduceIte, Nat.reduceEqDiff, Nat.reduceAdd, Nat.reduceMul, Nat.reduceSub, Nat.reduceLeDiff, Nat.reduceLT, Nat.reduceBEq, reduceCtorEq, this]
noncomputable def p188 : List AV → Option AV := primOf (α := (Int)) (fun x => [i64 x]) (fun x => True) (fun x => .bool false)
theorem pok188 : ∀ args v, p188 args = some v → ∀ lo H, CallOk NC lo 188 args H v H := by
  intro args v h
  obtain ⟨x, rfl, hp, rfl⟩ := primOf_inv h
  exact c188 x
theorem pe188 (a : Int) : p188 [.int .i64 a] = some (.bool false) := primOf_enc (α := (Int)) (enc := fun x => [i64 x]) (pre := fun x => True) (spec := fun x => .bool false) (by intro x y h; (simp only [List.cons.injEq, AV.agg.injEq, AV.str.injEq, AV.int.injEq, AV.ps.injEq, AV.bool.injEq, Net.cells_iff, Ln.row_iff, Pc.row_iff, Mv.row_iff, lns_iff, pcs_iff, mvs_iff, true_and, and_true] at h; first | simpa only [Prod.ext_iff] using h | simpa only [Prod.ext_iff, and_assoc] using h)) a trivial
def cmpI (a b : Int) : Int := if a < b then -1 else if b < a then 1 else 0
noncomputable def PPF119 : FuncId → Option (List AV → Option AV) := addPrim 188 p188 (fun _ => none)
theorem primsF119 : PrimsOk NC PPF119 := primsOk_add (primsOk_none) (by kernel_rfl) (by kernel_rfl) pok188
theorem enF119_188 : En PPF119 188 p188 := enter_prim (by rfl) (by kernel_rfl)
attribute [go_sem ↓] enF119_188
theorem c119 (a b : Int) : ∀ lo H, CallOk NC lo 119 [i64 a, i64 b] H (i64 (cmpI a b)) H := by
  refine contract saneNC primsF119 (fn := Tryz.f119) (by kernel_rfl) Tryz.func119 rfl rfl (by rfl) (by first | rfl | (split <;> first | rfl | (split <;> rfl))) ?_
  have e188 : ∀ a, p188 [.int .i64 a] = some (.bool false) := fun a => pe188 a
  unfold cmpI
  rcases Classical.propComplete (a < b) with h1 | h1 <;> rcases Classical.propComplete (b < a) with h2 | h2 <;> simp only [go_sem, reduceIte, Nat.reduceEqDiff, Nat.reduceAdd, Nat.reduceMul, Nat.reduceSub, Nat.reduceLeDiff, Nat.reduceLT, Nat.reduceBEq, reduceCtorEq, e188, h1, h2]
noncomputable def p119 : List AV → Option AV := primOf (α := (Int) × (Int)) (fun x => [i64 x.1, i64 x.2]) (fun x => True) (fun x => i64 (cmpI x.1 x.2))
theorem pok119 : ∀ args v, p119 args = some v → ∀ lo H, CallOk NC lo 119 args H v H := by
  intro args v h
  obtain ⟨x, rfl, hp, rfl⟩ := primOf_inv h
  exact c119 x.1 x.2
theorem pe119 (a b : Int) : p119 [.int .i64 a, .int .i64 b] = some (.int .i64 (cmpI a b)) := primOf_enc (α := (Int) × (Int)) (enc := fun x => [i64 x.1, i64 x.2]) (pre := fun x => True) (spec := fun x => i64 (cmpI x.1 x.2)) (by intro x y h; (simp only [List.cons.injEq, AV.agg.injEq, AV.str.injEq, AV.int.injEq, AV.ps.injEq, AV.bool.injEq, Net.cells_iff, Ln.row_iff, Pc.row_iff, Mv.row_iff, lns_iff, pcs_iff, mvs_iff, true_and, and_true] at h; first | simpa only [Prod.ext_iff] using h | simpa only [Prod.ext_iff, and_assoc] using h)) (a, b) trivial
def orI (a b : Int) : Int := if a = 0 then b else a
noncomputable def PPF241 : FuncId → Option (List AV → Option AV) := fun _ => none
theorem primsF241 : PrimsOk NC PPF241 := primsOk_none
theorem c241 (a b : Int) : ∀ lo H, CallOk NC lo 241 [.ps .unk [[i64 a], [i64 b]]] H (i64 (orI a b)) H := by
  refine contract saneNC primsF241 (fn := Tryz.f241) (by kernel_rfl) Tryz.func241 rfl rfl (by rfl) (by first | rfl | (split <;> first | rfl | (split <;> rfl))) ?_
  unfold orI
  rcases Classical.propComplete (a = 0) with h1 | h1 <;> rcases Classical.propComplete (b = 0) with h2 | h2 <;> simp only [go_sem, reduceIte, Nat.reduceEqDiff, Nat.reduceAdd, Nat.reduceMul, Nat.reduceSub, Nat.reduceLeDiff, Nat.reduceLT, Nat.reduceBEq, reduceCtorEq, W_loop, cast2, i02, i12, i22, wl01, wl12, h1, h2]
  all_goals first | rfl | (have := of_eq_true h2; subst this; rfl)
noncomputable def p241 : List AV → Option AV := primOf (α := (Int) × (Int)) (fun x => [.ps .unk [[i64 x.1], [i64 x.2]]]) (fun x => True) (fun x => i64 (orI x.1 x.2))
theorem pok241 : ∀ args v, p241 args = some v → ∀ lo H, CallOk NC lo 241 args H v H := by
  intro args v h
  obtain ⟨x, rfl, hp, rfl⟩ := primOf_inv h
  exact c241 x.1 x.2
theorem pe241 (a b : Int) : p241 [.ps .unk [[.int .i64 a], [.int .i64 b]]] = some (.int .i64 (orI a b)) := primOf_enc (α := (Int) × (Int)) (enc := fun x => [.ps .unk [[i64 x.1], [i64 x.2]]]) (pre := fun x => True) (spec := fun x => i64 (orI x.1 x.2)) (by intro x y h; (simp only [List.cons.injEq, AV.agg.injEq, AV.str.injEq, AV.int.injEq, AV.ps.injEq, AV.bool.injEq, Net.cells_iff, Ln.row_iff, Pc.row_iff, Mv.row_iff, lns_iff, pcs_iff, mvs_iff, true_and, and_true] at h; first | simpa only [Prod.ext_iff] using h | simpa only [Prod.ext_iff, and_assoc] using h)) (a, b) trivial
theorem en242 {P : FuncId → Option (List AV → Option AV)} {lo : Nat} {rec : Rec} {args : List AV} {H : Heap} {K : AV → Heap → Prop} : VO (aenter (NC.withPrims P) rec lo 242 args H) K = AO (pCompare args) fun v => K v H := by
  refine enter_prim (by rfl) ?_
  show (match NC.prim 242 with | some p => some p | none => P 242) = some pCompare
  have : NC.prim 242 = some pCompare := by kernel_rfl
  rw [this]
def cmpMv (x y : Mv) : Int := orI (cmpL x.line y.line) (cmpI x.fr y.fr)
noncomputable def PPF197 : FuncId → Option (List AV → Option AV) := addPrim 241 p241 (addPrim 119 p119 (fun _ => none))
theorem primsF197 : PrimsOk NC PPF197 := primsOk_add (primsOk_add (primsOk_none) (by kernel_rfl) (by kernel_rfl) pok119) (by kernel_rfl) (by kernel_rfl) pok241
theorem enF197_119 : En PPF197 119 p119 := enter_prim (by rfl) (by kernel_rfl)
theorem enF197_241 : En PPF197 241 p241 := enter_prim (by rfl) (by kernel_rfl)
attribute [go_sem ↓] enF197_119 enF197_241
theorem c197 (x y : Mv) : ∀ lo H, CallOk NC lo 197 [.agg x.row, .agg y.row] H (i64 (cmpMv x y)) H := by
  refine contract saneNC primsF197 (fn := Tryz.f197) (by kernel_rfl) Tryz.func197 rfl rfl (by rfl) (by first | rfl | (split <;> first | rfl | (split <;> rfl))) ?_
  have e119 : ∀ a b, p119 [.int .i64 a, .int .i64 b] = some (.int .i64 (cmpI a b)) := fun a b => pe119 a b
  have e241 : ∀ a b, p241 [.ps .unk [[.int .i64 a], [.int .i64 b]]] = some (.int .i64 (orI a b)) := fun a b => pe241 a b
  have ecmp : ∀ a b, pCompare [.str a, .str b] = some (.int .i64 (cmpL a b)) := fun a b => rfl
  obtain ⟨a, b, c, d, e, f⟩ := x
  obtain ⟨a', b', c', d', e', f'⟩ := y
  simp only [go_sem, reduceIte, Nat.reduceEqDiff, Nat.reduceAdd, Nat.reduceMul, Nat.reduceSub, Nat.reduceLeDiff, Nat.reduceLT, Nat.reduceBEq, reduceCtorEq, Mv.row, cmpMv, e119, e241, ecmp, en242]
noncomputable def p197 : List AV → Option AV := primOf (α := (Mv) × (Mv)) (fun x => [.agg x.1.row, .agg x.2.row]) (fun x => True) (fun x => i64 (cmpMv x.1 x.2))
theorem pok197 : ∀ args v, p197 args = some v → ∀ lo H, CallOk NC lo 197 args H v H := by
  intro args v h
  obtain ⟨x, rfl, hp, rfl⟩ := primOf_inv h
  exact c197 x.1 x.2
theorem pe197 (x y : Mv) : p197 [.agg x.row, .agg y.row] = some (.int .i64 (cmpMv x y)) := primOf_enc (α := (Mv) × (Mv)) (enc := fun x => [.agg x.1.row, .agg x.2.row]) (pre := fun x => True) (spec := fun x => i64 (cmpMv x.1 x.2)) (by intro x y h; (simp only [List.cons.injEq, AV.agg.injEq, AV.str.injEq, AV.int.injEq, AV.ps.injEq, AV.bool.injEq, Net.cells_iff, Ln.row_iff, Pc.row_iff, Mv.row_iff, lns_iff, pcs_iff, mvs_iff, true_and, and_true] at h; first | simpa only [Prod.ext_iff] using h | simpa only [Prod.ext_iff, and_assoc] using h)) (x, y) trivial
def partMv (x : Mv) (f n : Int) : Mv := { x with fr := f, len := n, to := minI (atI x f) (atI x (wrapq .i64 (Int.sub (wrapq .i64 (Int.add f n)) 1))) }
noncomputable def PPF198 : FuncId → Option (List AV → Option AV) := addPrim 192 p192 (fun _ => none)
theorem primsF198 : PrimsOk NC PPF198 := primsOk_add (primsOk_none) (by kernel_rfl) (by kernel_rfl) pok192
theorem enF198_192 : En PPF198 192 p192 := enter_prim (by rfl) (by kernel_rfl)
attribute [go_sem ↓] enF198_192
theorem c198 (x : Mv) (f n : Int) : ∀ lo H, CallOk NC lo 198 [.agg x.row, i64 f, i64 n] H (.agg (partMv x f n).row) H := by
  refine contract saneNC primsF198 (fn := Tryz.f198) (by kernel_rfl) Tryz.func198 rfl rfl (by rfl) rfl ?_
  have e192 : ∀ k, p192 [.agg x.row, .int .i64 k] = some (.int .i64 (atI x k)) := fun k => pe192 x k
  have hp : partMv x f n = { x with fr := f, len := n, to := minI (atI x f) (atI x (wrapq .i64 (Int.sub (wrapq .i64 (Int.add f n)) 1))) } := rfl
  rw [hp]
  generalize atI x = A at e192 ⊢
  obtain ⟨a, b, c, d, e, g⟩ := x
  simp only [Mv.row] at e192
  simp only [go_sem, reduceIte, Nat.reduceEqDiff, Nat.reduceAdd, Nat.reduceMul, Nat.reduceSub, Nat.reduceLeDiff, Nat.reduceLT, Nat.reduceBEq, reduceCtorEq, Mv.row, e192]
noncomputable def p198 : List AV → Option AV := primOf (α := (Mv) × (Int) × (Int)) (fun x => [.agg x.1.row, i64 x.2.1, i64 x.2.2]) (fun x => True) (fun x => .agg (partMv x.1 x.2.1 x.2.2).row)
theorem pok198 : ∀ args v, p198 args = some v → ∀ lo H, CallOk NC lo 198 args H v H := by
  intro args v h
  obtain ⟨x, rfl, hp, rfl⟩ := primOf_inv h
  exact c198 x.1 x.2.1 x.2.2
theorem pe198 (x : Mv) (f n : Int) : p198 [.agg x.row, .int .i64 f, .int .i64 n] = some (.agg (partMv x f n).row) := primOf_enc (α := (Mv) × (Int) × (Int)) (enc := fun x => [.agg x.1.row, i64 x.2.1, i64 x.2.2]) (pre := fun x => True) (spec := fun x => .agg (partMv x.1 x.2.1 x.2.2).row) (by intro x y h; (simp only [List.cons.injEq, AV.agg.injEq, AV.str.injEq, AV.int.injEq, AV.ps.injEq, AV.bool.injEq, Net.cells_iff, Ln.row_iff, Pc.row_iff, Mv.row_iff, lns_iff, pcs_iff, mvs_iff, true_and, and_true] at h; first | simpa only [Prod.ext_iff] using h | simpa only [Prod.ext_iff, and_assoc] using h)) (x, f, n) trivial
def compFr (x y : Mv) : Int := maxI x.to y.fr
def compTill (x y : Mv) : Int := minI (wrapq .i64 (Int.add x.to x.len)) (endI y)
def compB (x y : Mv) : Bool := beqL x.other y.line && decide (compFr x y < compTill x y)
def compLen (x y : Mv) : Int := wrapq .i64 (Int.sub (compTill x y) (compFr x y))
def compMv (x y : Mv) : Mv := ⟨x.line, (partMv (undoMv x) (compFr x y) (compLen x y)).to, compLen x y, y.other, (partMv y (compFr x y) (compLen x y)).to, x.turned != y.turned⟩
def zeroMv : Mv := ⟨[], 0, 0, [], 0, false⟩
def compP (x y : Mv) : List AV := if compB x y then [.agg (compMv x y).row, .bool true] else [.agg zeroMv.row, .bool false]
noncomputable def PPF137 : FuncId → Option (List AV → Option AV) := addPrim 198 p198 (addPrim 128 p128 (fun _ => none))
theorem primsF137 : PrimsOk NC PPF137 := primsOk_add (primsOk_add (primsOk_none) (by kernel_rfl) (by kernel_rfl) pok128) (by kernel_rfl) (by kernel_rfl) pok198
theorem enF137_128 : En PPF137 128 p128 := enter_prim (by rfl) (by kernel_rfl)
theorem enF137_198 : En PPF137 198 p198 := enter_prim (by rfl) (by kernel_rfl)
attribute [go_sem ↓] enF137_128 enF137_198
theorem c137 (x y : Mv) : ∀ lo H, CallOk NC lo 137 [.agg x.row, .agg y.row] H (.tup (compP x y)) H := by
  refine contract saneNC primsF137 (fn := Tryz.f137) (by kernel_rfl) Tryz.func137 rfl rfl (by rfl) (by unfold compP; split <;> rfl) ?_
  have e128 := pe128 y
  have e198x : ∀ f n, p198 [.agg (undoMv x).row, .int .i64 f, .int .i64 n] = some (.agg (partMv (undoMv x) f n).row) := fun f n => pe198 (undoMv x) f n
  have e198y : ∀ f n, p198 [.agg y.row, .int .i64 f, .int .i64 n] = some (.agg (partMv y f n).row) := fun f n => pe198 y f n
  have hc : compP x y = if compB x y then [.agg (compMv x y).row, .bool true] else [.agg zeroMv.row, .bool false] := rfl
  rw [hc]
  have hcb : compB x y = (beqL x.other y.line && decide (compFr x y < compTill x y)) := rfl
  have hcm : compMv x y = ⟨x.line, (partMv (undoMv x) (compFr x y) (compLen x y)).to, compLen x y, y.other, (partMv y (compFr x y) (compLen x y)).to, x.turned != y.turned⟩ := rfl
  have hcl : compLen x y = wrapq .i64 (Int.sub (compTill x y) (compFr x y)) := rfl
  have hf : maxI x.to y.fr = compFr x y := rfl
  have ht : minI (wrapq .i64 (Int.add x.to x.len)) (endI y) = compTill x y := rfl
  rw [hcb, hcm]
  have e1 := e198x (compFr x y) (compLen x y)
  have e2 := e198y (compFr x y) (compLen x y)
  clear e198x e198y
  generalize partMv (undoMv x) (compFr x y) (compLen x y) = X at e1 ⊢
  generalize partMv y (compFr x y) (compLen x y) = Y at e2 ⊢
  rw [hcl] at e1 e2 ⊢
  generalize compFr x y = F at hf e1 e2 ⊢
  generalize compTill x y = L at ht e1 e2 ⊢
  generalize endI y = EY at e128 ht
  obtain ⟨a, b, c, d, e, f⟩ := x
  obtain ⟨a', b', c', d', e', f'⟩ := y
  obtain ⟨X1, X2, X3, X4, X5, X6⟩ := X
  obtain ⟨Y1, Y2, Y3, Y4, Y5, Y6⟩ := Y
  simp only [Mv.row, undoMv, i64] at e128 e1 e2
  simp only at hf ht
  cases h1 : beqL d a' <;> rcases Classical.propComplete (F < L) with h2 | h2 <;> cases f <;> cases f' <;> simp only [go_sem, reduceIte, Nat.reduceEqDiff, Nat.reduceAdd, Nat.reduceMul, Nat.reduceSub, Nat.reduceLeDiff, Nat.reduceLT, Nat.reduceBEq, reduceCtorEq, Mv.row, zeroMv, hf, ht, e128, e1, e2, h1, h2]
  all_goals rfl
noncomputable def p137 : List AV → Option AV := primOf (α := (Mv) × (Mv)) (fun x => [.agg x.1.row, .agg x.2.row]) (fun x => True) (fun x => .tup (compP x.1 x.2))
theorem pok137 : ∀ args v, p137 args = some v → ∀ lo H, CallOk NC lo 137 args H v H := by
  intro args v h
  obtain ⟨x, rfl, hp, rfl⟩ := primOf_inv h
  exact c137 x.1 x.2
theorem pe137 (x y : Mv) : p137 [.agg x.row, .agg y.row] = some (.tup (compP x y)) := primOf_enc (α := (Mv) × (Mv)) (enc := fun x => [.agg x.1.row, .agg x.2.row]) (pre := fun x => True) (spec := fun x => .tup (compP x.1 x.2)) (by intro x y h; (simp only [List.cons.injEq, AV.agg.injEq, AV.str.injEq, AV.int.injEq, AV.ps.injEq, AV.bool.injEq, Net.cells_iff, Ln.row_iff, Pc.row_iff, Mv.row_iff, lns_iff, pcs_iff, mvs_iff, true_and, and_true] at h; first | simpa only [Prod.ext_iff] using h | simpa only [Prod.ext_iff, and_assoc] using h)) (x, y) trivial
end Go.Sim

/-
The law: NetworkMaps returns true.
-/
namespace Go.Sim
open Go Go.Proofs
set_option maxRecDepth 100000
set_option maxHeartbeats 16000000
theorem shortM_few {m : List Mv} (h : shortM m = true) : m.length ≤ 25 ∧ ∀ x ∈ m, x.line.length ≤ 40 ∧ x.other.length ≤ 40 := by
  unfold shortM at h
  simp only [Bool.and_eq_true, Bool.not_eq_true', decide_eq_false_iff_not, List.all_eq_true] at h
  refine ⟨by omega, fun x hx => ?_⟩
  have := h.1 x hx
  unfold shortMv shortB at this
  simp only [Bool.and_eq_true, Bool.not_eq_true', decide_eq_false_iff_not] at this
  omega
theorem shortM_ok {m : List Mv} (h : shortM m = true) : MapOk m := by
  obtain ⟨h1, h2⟩ := shortM_few h
  refine ⟨by unfold maxRows; omega, fun x hx => ?_⟩
  have := h2 x hx
  unfold maxRows; omega
theorem firstI_two (a b : Int) : firstI [a, b] = if a = 0 then b else a := by
  simp only [firstI_cons, firstI_nil]
  split
  · split
    · rename_i h; exact h.symm
    · rfl
  · rfl
end Go.Sim

/-
Posts: the reference, the law's own helpers; ends of switches.
-/
namespace Go.Sim
open Go Go.Proofs
set_option maxRecDepth 100000
set_option maxHeartbeats 8000000
def listB {α : Type} (f : α → α → Bool) : List α → List α → Bool
  | [], [] => true
  | a :: x, b :: y => f a b && listB f x y
  | _, _ => false
theorem listB_iff {α : Type} {f : α → α → Bool} (hf : ∀ a b, f a b = true ↔ a = b) : ∀ {x y : List α}, listB f x y = true ↔ x = y
  | [], [] => by simp [listB]
  | [], _ :: _ => by simp [listB]
  | _ :: _, [] => by simp [listB]
  | a :: x, b :: y => by simp [listB, hf, listB_iff hf (x := x) (y := y)]
theorem listB_len {α : Type} {f : α → α → Bool} : ∀ {x y : List α}, x.length ≠ y.length → listB f x y = false
  | [], [], h => absurd rfl h
  | [], _ :: _, _ => rfl
  | _ :: _, [], _ => rfl
  | a :: x, b :: y, h => by simp [listB, listB_len (f := f) (x := x) (y := y) (by simpa using h)]
theorem listB_at {α : Type} {f : α → α → Bool} : ∀ {x y : List α} {k : Nat} {a b : α}, x[k]? = some a → y[k]? = some b → f a b = false → listB f x y = false
  | [], _, _, _, _, h, _, _ => by simp at h
  | _ :: _, [], _, _, _, _, h, _ => by simp at h
  | a :: x, b :: y, 0, _, _, h1, h2, h => by simp at h1 h2; subst h1; subst h2; simp [listB, h]
  | a :: x, b :: y, k + 1, _, _, h1, h2, h => by simp [listB, listB_at (f := f) (x := x) (y := y) (k := k) (by simpa using h1) (by simpa using h2) h]
theorem listB_all {α : Type} {f : α → α → Bool} : ∀ {x y : List α}, x.length = y.length → (∀ (k : Nat) a b, x[k]? = some a → y[k]? = some b → f a b = true) → listB f x y = true
  | [], [], _, _ => rfl
  | [], _ :: _, h, _ => by simp at h
  | _ :: _, [], h, _ => by simp at h
  | a :: x, b :: y, h, hf => by
    simp only [listB, Bool.and_eq_true]
    exact ⟨hf 0 a b rfl rfl, listB_all (by simpa using h) fun k a b h1 h2 => hf (k + 1) a b (by simpa using h1) (by simpa using h2)⟩
theorem len_eq (a b : Nat) : ((a : Int) = (b : Int)) = (a = b) := by simp only [eq_iff_iff]; omega
end Go.Sim

/-
Ends of switches; where a switch lies on a line.
-/
namespace Go.Sim
open Go Go.Proofs
set_option maxRecDepth 100000
set_option maxHeartbeats 8000000
theorem Sw.row_iff (a b : Sw) : a.row = b.row ↔ a = b := ⟨Sw.row_inj a b, fun h => by rw [h]⟩
-- INJ Sw.row_iff Br.row_iff
structure Br where
  sw : Sw
  at' : Int
def Br.row (b : Br) : List AV := [.str b.sw.name, .str b.sw.line, i64 b.sw.metre, .str b.sw.other, .bool b.sw.last, i64 b.at']
theorem Br.row_len (b : Br) : b.row.length = 6 := rfl
theorem Br.row_inj (a b : Br) (h : a.row = b.row) : a = b := by
  obtain ⟨⟨a1, a2, a3, a4, a5⟩, a6⟩ := a
  obtain ⟨⟨b1, b2, b3, b4, b5⟩, b6⟩ := b
  simp only [Br.row, List.cons.injEq, AV.str.injEq, AV.int.injEq, AV.bool.injEq, true_and, and_true] at h
  obtain ⟨rfl, rfl, rfl, rfl, rfl, rfl⟩ := h; rfl
theorem Br.row_iff (a b : Br) : a.row = b.row ↔ a = b := ⟨Br.row_inj a b, fun h => by rw [h]⟩
theorem evalO_str0 {C : Cfg} {T : TT AV} : evalO C T (.const (.string { data := #[] })) = some (.str []) := rfl
attribute [go_sem] evalO_str0
theorem ab259 (a c : List Nat) (b d : Int) : abuild NC.P 259 [(0, .agg [.str a, .int .i64 b]), (1, .agg [.str c, .int .i64 d])] = some (.agg [.str a, .int .i64 b, .str c, .int .i64 d]) := by kernel_rfl
theorem ab137 (a c : List Nat) (b d : Int) : abuild NC.P 137 [(0, .agg [.str a, .int .i64 b]), (1, .agg [.str c, .int .i64 d])] = some (.agg [.str a, .int .i64 b, .str c, .int .i64 d]) := by kernel_rfl
attribute [go_sem] ab259 ab137
end Go.Sim

/-
The sorting of branches.
-/
-- INJ Sw.row_iff Br.row_iff
namespace Go.Sim
open Go Go.Proofs
set_option maxRecDepth 100000
set_option maxHeartbeats 16000000
variable {P : FuncId → Option (List AV → Option AV)}
theorem known {f : FuncId} {q : List AV → Option AV} (h : P f = some q) (h0 : NC.prim f = none) : (NC.withPrims P).prim f = some q := by
  show (match NC.prim f with | some p => some p | none => P f) = _
  rw [h0, h]
theorem take_snoc {α : Type} {l : List α} {i : Nat} {x : α} (h : l[i]? = some x) : l.take (i + 1) = l.take i ++ [x] := by rw [List.take_add_one, h]; rfl
theorem drop_cons_at {α : Type} {l : List α} {i : Nat} {x : α} (h : l[i]? = some x) : l.drop i = x :: l.drop (i + 1) := by
  obtain ⟨h1, rfl⟩ := List.getElem?_eq_some_iff.1 h
  exact List.drop_eq_getElem_cons h1
theorem mid_at {α : Type} (p : List α) (y : α) (s : List α) : (p ++ y :: s)[p.length]? = some y := by simp
theorem mid_at1 {α : Type} (p : List α) (y x : α) (s : List α) : (p ++ y :: x :: s)[p.length + 1]? = some x := by
  rw [List.getElem?_append_right (by omega)]; simp
end Go.Sim

/-
The sorting of moves.
-/
namespace Go.Sim
open Go Go.Proofs
set_option maxRecDepth 100000
set_option maxHeartbeats 16000000
variable {P : FuncId → Option (List AV → Option AV)}
theorem en264 {P : FuncId → Option (List AV → Option AV)} (hP : P 264 = none) {lo : Nat} {args : List AV} {H : Heap} {K : AV → Heap → Prop} : VO (aenter (NC.withPrims P) (R (NC.withPrims P)) lo 264 args H) K = AO (R (NC.withPrims P) (.call lo 264 args H)) fun o => K o.val o.s.H := by
  refine enter_free rfl ?_ (by kernel_rfl) (by kernel_rfl) (by kernel_rfl)
  show (match NC.prim 264 with | some p => some p | none => P 264) = none
  rw [hP]; kernel_rfl
theorem en240 {P : FuncId → Option (List AV → Option AV)} (hP : P 240 = none) {lo : Nat} {args : List AV} {H : Heap} {K : AV → Heap → Prop} : VO (aenter (NC.withPrims P) (R (NC.withPrims P)) lo 240 args H) K = AO (R (NC.withPrims P) (.call lo 240 args H)) fun o => K o.val o.s.H := by
  refine enter_free rfl ?_ (by kernel_rfl) (by kernel_rfl) (by kernel_rfl)
  show (match NC.prim 240 with | some p => some p | none => P 240) = none
  rw [hP]; kernel_rfl
theorem en196 {P : FuncId → Option (List AV → Option AV)} (hP : P 196 = none) {lo : Nat} {args : List AV} {H : Heap} {K : AV → Heap → Prop} : VO (aenter (NC.withPrims P) (R (NC.withPrims P)) lo 196 args H) K = AO (R (NC.withPrims P) (.call lo 196 args H)) fun o => K o.val o.s.H := by
  refine enter_free rfl ?_ (by kernel_rfl) (by kernel_rfl) (by kernel_rfl)
  show (match NC.prim 196 with | some p => some p | none => P 196) = none
  rw [hP]; kernel_rfl
theorem en197 (h : P 197 = some p197) {lo : Nat} {rec : Rec} {args : List AV} {H : Heap} {K : AV → Heap → Prop} : VO (aenter (NC.withPrims P) rec lo 197 args H) K = AO (p197 args) fun v => K v H := enter_prim (by rfl) (known h (by kernel_rfl))
theorem e197 (a b : Mv) : p197 [.agg a.row, .agg b.row] = some (.int .i64 (cmpMv a b)) := pe197 a b
def cmpLt (a b : Mv) : Bool := decide (cmpMv a b < 0)
def mvF (l : List Mv) : List AV := (l.map Mv.row).flatten
theorem r264 (h197 : P 197 = some p197) (l : List Mv) (hl : l.length ≤ maxRows) (lo id : Nat) (H : Heap) (hid : lo ≤ id) (hn : id < H.n) (hs : H.get id = .row (mvF l) 6 130) :
    ∃ v H', R (NC.withPrims P) (.call lo 264 [.rs id 0 l.length 6 none, .int .i64 0, .int .i64 (l.length : Nat), .fn 197 [] []] H) = some (.ofVal v H') ∧ v = aundef ∧ H'.get id = .row (mvF (isort cmpLt l)) 6 130 ∧ H'.n = H.n ∧ ∀ i, i ≠ id → H'.get i = H.get i := by
  refine R_of_body (C := NC.withPrims P) (f := 264) (lo := lo) (args := [.rs id 0 l.length 6 none, .int .i64 0, .int .i64 (l.length : Nat), .fn 197 [] []]) (H := H) (fn := Tryz.f264) (Q := fun v H' => v = aundef ∧ H'.get id = .row (mvF (isort cmpLt l)) 6 130 ∧ H'.n = H.n ∧ ∀ i, i ≠ id → H'.get i = H.get i) (by kernel_rfl) Tryz.func264 rfl rfl ?_
  rcases Nat.eq_zero_or_pos l.length with h0 | h0
  · have hl0 : l = [] := List.length_eq_zero_iff.1 h0
    subst hl0
    have i10 : ((1 : Int) < 0) = False := by simp
    have c00 : ((List.length ([] : List Mv) : Nat) : Int) = 0 := rfl
    simp only [go_sem, reduceIte, Nat.reduceEqDiff, Nat.reduceAdd, Nat.reduceMul, Nat.reduceSub, Nat.reduceLeDiff, Nat.reduceLT, Nat.reduceBEq, reduceCtorEq, W_loop, wl01, i10, c00]
    exact ⟨rfl, hs, fun _ _ => trivial⟩
  have w1 : wrapq .i64 (Int.add 0 1) = ((0 + 1 : Nat) : Int) := rfl
  simp only [go_sem, reduceIte, Nat.reduceEqDiff, Nat.reduceAdd, Nat.reduceMul, Nat.reduceSub, Nat.reduceLeDiff, Nat.reduceLT, Nat.reduceBEq, reduceCtorEq, w1]
  refine W_for (fun k T H' M => M = [] ∧ getT T 0 = .rs id 0 l.length 6 none ∧ getT T 1 = i64 0 ∧ getT T 2 = i64 (l.length : Nat) ∧ getT T 3 = .fn 197 [] [] ∧ getT T 8 = i64 ((k + 1 : Nat) : Int) ∧ H'.n = H.n ∧ (∀ i, i ≠ id → H'.get i = H.get i) ∧ H'.get id = .row (mvF (isort cmpLt (l.take (k + 1)) ++ l.drop (k + 1))) 6 130) (l.length - 1) ?_ ?_ ?_
  · have hi : isort cmpLt (l.take (0 + 1)) ++ l.drop (0 + 1) = l := by
      cases l with
      | nil => rfl
      | cons a r => rfl
    simp only [go_sem, reduceIte, Nat.reduceEqDiff, Nat.reduceAdd, Nat.reduceMul, Nat.reduceSub, Nat.reduceLeDiff, Nat.reduceLT, Nat.reduceBEq, reduceCtorEq]
    rw [hi]
    exact ⟨fun _ _ => trivial, hs⟩
  · rintro k T H1 M hk ⟨rfl, g0, g1, g2, g3, g8, hn1, ho1, hs1⟩
    have hi : k + 1 < l.length := by omega
    obtain ⟨x, hx⟩ : ∃ p, l[k + 1]? = some p := ⟨l[k + 1], by simp⟩
    have hw := wrap_succ hi hl
    have hlen : (isort cmpLt (l.take (k + 1))).length = k + 1 := by rw [isort_length, List.length_take]; omega
    have hdone : ∀ pre suf, isort cmpLt (l.take (k + 1)) = pre ++ suf → (∀ y ∈ suf, cmpLt x y = true) → (pre = [] ∨ ∃ p y, pre = p ++ [y] ∧ cmpLt x y = false) → isort cmpLt (l.take (k + 1 + 1)) ++ l.drop (k + 1 + 1) = pre ++ x :: suf ++ l.drop (k + 1 + 1) := by
      intro pre suf h1 h2 h3
      rw [take_snoc hx, isort_snoc, h1, ins_at cmpLt h2 h3]
    simp only [go_sem, reduceIte, Nat.reduceEqDiff, Nat.reduceAdd, Nat.reduceMul, Nat.reduceSub, Nat.reduceLeDiff, Nat.reduceLT, Nat.reduceBEq, reduceCtorEq, g0, g1, g2, g3, g8, hi]
    refine W_for (fun m T H' M => M = [] ∧ getT T 0 = .rs id 0 l.length 6 none ∧ getT T 1 = i64 0 ∧ getT T 2 = i64 (l.length : Nat) ∧ getT T 3 = .fn 197 [] [] ∧ getT T 8 = i64 ((k + 1 : Nat) : Int) ∧ getT T 9 = i64 ((k + 1 - m : Nat) : Int) ∧ H'.n = H.n ∧ (∀ i, i ≠ id → H'.get i = H.get i) ∧ ∃ pre suf, isort cmpLt (l.take (k + 1)) = pre ++ suf ∧ suf.length = m ∧ (∀ y ∈ suf, cmpLt x y = true) ∧ H'.get id = .row (mvF (pre ++ x :: suf ++ l.drop (k + 1 + 1))) 6 130) (k + 1) ?_ ?_ ?_
    · simp only [go_sem, reduceIte, Nat.reduceEqDiff, Nat.reduceAdd, Nat.reduceMul, Nat.reduceSub, Nat.reduceLeDiff, Nat.reduceLT, Nat.reduceBEq, reduceCtorEq, g0, g1, g2, g3, g8, Nat.sub_zero]
      refine ⟨hn1, ho1, isort cmpLt (l.take (k + 1)), [], by simp, rfl, by simp, ?_⟩
      rw [hs1, drop_cons_at hx]; simp
    · rintro m T H2 M hm ⟨rfl, i0, i1, i2, i3, i8, i9, hn2, ho2, pre, suf, hp, hsl, hlt, hs2⟩
      have hpl : pre.length = k + 1 - m := by
        have := congrArg List.length hp
        rw [hlen, List.length_append] at this; omega
      obtain ⟨p, y, rfl⟩ : ∃ p y, pre = p ++ [y] := by
        have hne : pre ≠ [] := by intro e; rw [e] at hpl; simp at hpl; omega
        exact ⟨pre.dropLast, pre.getLast hne, (List.dropLast_concat_getLast hne).symm⟩
      have hq : k + 1 - m = p.length + 1 := by simp at hpl; omega
      have hq2 : k + 1 - (m + 1) = p.length := by omega
      rw [hq] at i9
      have e1 : (p ++ [y] ++ x :: suf ++ l.drop (k + 1 + 1)) = p ++ y :: x :: (suf ++ l.drop (k + 1 + 1)) := by simp
      rw [e1] at hs2
      have hev : Even 6 ((p ++ y :: x :: (suf ++ l.drop (k + 1 + 1))).map Mv.row) := Even.map Mv.row_len _
      have rx := map_at (f := Mv.row) (mid_at1 p y x (suf ++ l.drop (k + 1 + 1)))
      have ry := map_at (f := Mv.row) (mid_at p y (x :: (suf ++ l.drop (k + 1 + 1))))
      obtain ⟨a1, a2⟩ := fl_at hev rx
      obtain ⟨b1, b2⟩ := fl_at hev ry
      have o1 := fl_over (v := y.row) hev rx rfl
      have hev1 : Even 6 (((p ++ y :: x :: (suf ++ l.drop (k + 1 + 1))).map Mv.row).set (p.length + 1) y.row) := hev.set rfl
      have ry1 : (((p ++ y :: x :: (suf ++ l.drop (k + 1 + 1))).map Mv.row).set (p.length + 1) y.row)[p.length]? = some y.row := by
        rw [List.getElem?_set_ne (by omega)]; exact ry
      have b3 := (fl_at hev1 ry1).1
      have o2 := fl_over (v := x.row) hev1 ry1 rfl
      rw [swap_rows] at o2
      have hsum : (p ++ y :: x :: (suf ++ l.drop (k + 1 + 1))).length ≤ l.length := by
        simp at hpl ⊢; omega
      have hj : p.length + 1 < l.length := by simp at hsum; omega
      have hj0 : p.length < l.length := by omega
      have hwp : wrapq .i64 (Int.sub ((p.length + 1 : Nat) : Int) 1) = ((p.length : Nat) : Int) := by
        have := wrap_pred (k := p.length + 1) (n := l.length) (by omega) (by omega) hl
        simpa using this
      have hpos : ((0 : Int) < ((p.length + 1 : Nat) : Int)) = True := by simp only [eq_iff_iff, iff_true]; omega
      have ec := e197 x y
      have hB : cmpLt x y = decide (cmpMv x y < 0) := rfl
      have hnext := hdone (p ++ [y]) suf hp hlt
      rw [show ((p ++ x :: y :: (suf ++ l.drop (k + 1 + 1))).map Mv.row).flatten = mvF (p ++ x :: y :: (suf ++ l.drop (k + 1 + 1))) from rfl] at o2
      rw [show ((p ++ y :: x :: (suf ++ l.drop (k + 1 + 1))).map Mv.row).flatten = mvF (p ++ y :: x :: (suf ++ l.drop (k + 1 + 1))) from rfl] at a1 a2 b1 b2 o1
      generalize (((p ++ y :: x :: (suf ++ l.drop (k + 1 + 1))).map Mv.row).set (p.length + 1) y.row).flatten = F1 at o1 b3 o2
      generalize hF0 : mvF (p ++ y :: x :: (suf ++ l.drop (k + 1 + 1))) = F at hs2 a1 a2 b1 b2 o1
      have a1' : ((p.length + 1) * 6 + 6 ≤ F.length) = True := by simp [a1]
      have b1' : (p.length * 6 + 6 ≤ F.length) = True := by simp [b1]
      have b3' : (p.length * 6 + 6 ≤ F1.length) = True := by simp [b3]
      have hlo : (lo ≤ id) = True := by simp [hid]
      have szr := sz_130
      generalize hE : cmpMv x y = E at ec hB
      rcases Classical.propComplete (E < 0) with z | z
      · have hlx : cmpLt x y = true := by rw [hB]; simp [z]
        have hend : isort cmpLt (l.take (k + 1)) = p ++ y :: suf := by rw [hp]; simp
        obtain ⟨x1, x2, x3, x4, x5, x6⟩ := x
        obtain ⟨y1, y2, y3, y4, y5, y6⟩ := y
        simp only [Mv.row] at a2 b2 o1 o2 ec
        simp only [over, List.length_cons, List.length_nil, Nat.reduceAdd, Nat.zero_add] at o1 o2
        simp only [go_sem, reduceIte, Nat.reduceEqDiff, Nat.reduceAdd, Nat.reduceMul, Nat.reduceSub, Nat.reduceLeDiff, Nat.reduceLT, Nat.reduceBEq, reduceCtorEq, i0, i1, i2, i3, i8, i9, hs2, hlo, en197 h197, ec, z, a1', a2, b1', b2, b3', o1, o2, hj, hj0, hwp, hpos, szr]
        refine ⟨by rw [hq2], hn2, fun i hi => ?_, p, _ :: suf, hend, by simp [hsl], fun w hw => ?_, ?_⟩
        · rw [if_neg hi, if_neg hi]; exact ho2 i hi
        · rcases List.mem_cons.1 hw with rfl | hw
          · exact hlx
          · exact hlt w hw
        · simp
      · have hlx : cmpLt x y = false := by rw [hB]; simp [z]
        have hnx := hnext (.inr ⟨p, y, rfl, hlx⟩)
        obtain ⟨x1, x2, x3, x4, x5, x6⟩ := x
        obtain ⟨y1, y2, y3, y4, y5, y6⟩ := y
        simp only [Mv.row] at a2 b2 ec
        simp only [go_sem, reduceIte, Nat.reduceEqDiff, Nat.reduceAdd, Nat.reduceMul, Nat.reduceSub, Nat.reduceLeDiff, Nat.reduceLT, Nat.reduceBEq, reduceCtorEq, i0, i1, i2, i3, i8, i9, hs2, hlo, en197 h197, ec, z, a1', a2, b1', b2, hj, hj0, hwp, hpos, szr, hw]
        refine ⟨hn2, ho2, ?_⟩
        rw [hnx, e1, hF0]
    · rintro T H2 M ⟨rfl, i0, i1, i2, i3, i8, i9, hn2, ho2, pre, suf, hp, hsl, hlt, hs2⟩
      have hpl : pre = [] := by
        have := congrArg List.length hp
        rw [hlen, List.length_append] at this
        exact List.length_eq_zero_iff.1 (by omega)
      subst hpl
      have hnx := hdone [] suf hp hlt (.inl rfl)
      rw [Nat.sub_self] at i9
      have i00 : ((0 : Int) < 0) = False := by simp
      simp only [go_sem, reduceIte, Nat.reduceEqDiff, Nat.reduceAdd, Nat.reduceMul, Nat.reduceSub, Nat.reduceLeDiff, Nat.reduceLT, Nat.reduceBEq, reduceCtorEq, i0, i1, i2, i3, i8, i9, i00, hw]
      refine ⟨hn2, ho2, ?_⟩
      rw [hnx]; exact hs2
  · rintro T H1 M ⟨rfl, g0, g1, g2, g3, g8, hn1, ho1, hs1⟩
    have hk : l.length - 1 + 1 = l.length := by omega
    rw [hk] at g8 hs1
    rw [List.take_length, List.drop_length, List.append_nil] at hs1
    simp only [go_sem, reduceIte, Nat.reduceEqDiff, Nat.reduceAdd, Nat.reduceMul, Nat.reduceSub, Nat.reduceLeDiff, Nat.reduceLT, Nat.reduceBEq, reduceCtorEq, g0, g1, g2, g3, g8, Nat.lt_irrefl]
    exact ⟨rfl, hs1, hn1, ho1⟩
theorem en195 (hP : P 195 = none) {lo : Nat} {args : List AV} {H : Heap} {K : AV → Heap → Prop} (hm : mayBeNil args = false) :
    VO (aenter (NC.withPrims P) (R (NC.withPrims P)) lo 195 args H) K = AO (R (NC.withPrims P) (.call H.n 195 args H)) fun o => K o.val o.s.H := by
  have h1 : (NC.withPrims P).memo 195 args = none := rfl
  have h2 : (NC.withPrims P).prim 195 = none := by
    show (match NC.prim 195 with | some p => some p | none => P 195) = none
    rw [hP]; kernel_rfl
  have h3 : (NC.withPrims P).hprim 195 = none := by kernel_rfl
  have h4 : (NC.withPrims P).mode 195 = .fresh := by kernel_rfl
  unfold aenter
  simp only [h1, h2, h3, h4, hm, Bool.and_false, Bool.false_eq_true, if_false]
  cases R (NC.withPrims P) (.call H.n 195 args H) <;> rfl
/-! ### How many bits a small number has -/
theorem bits_run (n : Nat) (v : Int) (h : ((run (NC.withMemo (memoOf aw0)) 300 (.call 0 187 [.int .u64 (n : Int)] .empty)).map fun o => o.val.strip.beq (.int .i64 v)) = some true) : ∀ lo H, CallOk NC lo 187 [.int .u64 (n : Int)] H (.int .i64 v) H :=
  known_ok saneNC awh0 (k := ⟨187, [.int .u64 (n : Int)], .int .i64 v⟩) h (by rfl) (by rfl)
def bitsN : Nat → Int
  | 0 => 0 | 1 => 1 | 2 => 2 | 3 => 2 | 4 => 3 | 5 => 3 | 6 => 3 | 7 => 3 | _ => 4
theorem bits_known : ∀ n : Nat, n ≤ 12 → ∀ lo H, CallOk NC lo 187 [.int .u64 (n : Int)] H (.int .i64 (bitsN n)) H
  | 0, _ => bits_run 0 0 (by kernel_rfl) | 1, _ => bits_run 1 1 (by kernel_rfl) | 2, _ => bits_run 2 2 (by kernel_rfl) | 3, _ => bits_run 3 2 (by kernel_rfl)
  | 4, _ => bits_run 4 3 (by kernel_rfl) | 5, _ => bits_run 5 3 (by kernel_rfl) | 6, _ => bits_run 6 3 (by kernel_rfl) | 7, _ => bits_run 7 3 (by kernel_rfl)
  | 8, _ => bits_run 8 4 (by kernel_rfl) | 9, _ => bits_run 9 4 (by kernel_rfl) | 10, _ => bits_run 10 4 (by kernel_rfl) | 11, _ => bits_run 11 4 (by kernel_rfl)
  | 12, _ => bits_run 12 4 (by kernel_rfl) | n + 13, h => absurd h (by omega)
noncomputable def p187 : List AV → Option AV := primOf (α := Nat) (fun n => [.int .u64 (n : Int)]) (fun n => n ≤ 12) (fun n => .int .i64 (bitsN n))
theorem pok187 : ∀ args v, p187 args = some v → ∀ lo H, CallOk NC lo 187 args H v H := by
  intro args v h
  obtain ⟨n, rfl, hp, rfl⟩ := primOf_inv h
  exact bits_known n hp
theorem pe187 (n : Nat) (h : n ≤ 12) : p187 [.int .u64 (n : Int)] = some (.int .i64 (bitsN n)) := primOf_enc (α := Nat) (enc := fun n => [.int .u64 (n : Int)]) (pre := fun n => n ≤ 12) (spec := fun n => .int .i64 (bitsN n)) (by intro x y h; simp only [List.cons.injEq, AV.int.injEq, true_and, and_true] at h; omega) n h
theorem en187 (h : P 187 = some p187) {lo : Nat} {rec : Rec} {args : List AV} {H : Heap} {K : AV → Heap → Prop} : VO (aenter (NC.withPrims P) rec lo 187 args H) K = AO (p187 args) fun v => K v H := enter_prim (by rfl) (known h (by kernel_rfl))
theorem conv_uint {n : Nat} (h : n ≤ 12) : aconv NC.P 3 320 (.int .i64 (n : Int)) = some (.int .u64 (n : Int)) := by
  have e : aconv NC.P 3 320 (.int .i64 (n : Int)) = some (.int .u64 (IntKind.wrap .u64 (n : Int))) := by kernel_rfl
  rw [e]
  have h64 : ((2 : Int) ^ (IntKind.bits .u64)) = 18446744073709551616 := by decide
  have hs : IntKind.signed .u64 = false := rfl
  unfold IntKind.wrap
  simp only [h64, hs, Bool.false_and, Bool.false_eq_true, if_false]
  have e2 : (n : Int) % 18446744073709551616 = (n : Int) := by omega
  rw [e2]
theorem r240 (h197 : P 197 = some p197) (h264 : P 264 = none) (l : List Mv) (hl : l.length ≤ 12) (lo id : Nat) (lim : Int) (H : Heap) (hid : lo ≤ id) (hn : id < H.n) (hs : H.get id = .row (mvF l) 6 130) :
    ∃ v H', R (NC.withPrims P) (.call lo 240 [.rs id 0 l.length 6 none, .int .i64 0, .int .i64 (l.length : Nat), .int .i64 lim, .fn 197 [] []] H) = some (.ofVal v H') ∧ v = aundef ∧ H'.get id = .row (mvF (isort cmpLt l)) 6 130 ∧ H'.n = H.n ∧ ∀ i, i ≠ id → H'.get i = H.get i := by
  obtain ⟨v, H1, h1, rfl, h2⟩ := r264 h197 l (by unfold maxRows; omega) lo id H hid hn hs
  refine R_of_body (C := NC.withPrims P) (f := 240) (lo := lo) (args := [.rs id 0 l.length 6 none, .int .i64 0, .int .i64 (l.length : Nat), .int .i64 lim, .fn 197 [] []]) (H := H) (fn := Tryz.f240) (Q := fun v H' => v = aundef ∧ H'.get id = .row (mvF (isort cmpLt l)) 6 130 ∧ H'.n = H.n ∧ ∀ i, i ≠ id → H'.get i = H.get i) (by kernel_rfl) Tryz.func240 rfl rfl ?_
  have q1 : ((12 : Int) < ((l.length : Nat) : Int)) = False := by simp only [eq_iff_iff, iff_false]; omega
  have q2 : wrapq .i64 (Int.sub ((l.length : Nat) : Int) 0) = ((l.length : Nat) : Int) := by
    have e : Int.sub ((l.length : Nat) : Int) 0 = ((l.length : Nat) : Int) := by show ((l.length : Nat) : Int) - 0 = _; omega
    rw [e]; exact wrap_nat (by omega)
  simp only [go_sem, reduceIte, Nat.reduceEqDiff, Nat.reduceAdd, Nat.reduceMul, Nat.reduceSub, Nat.reduceLeDiff, Nat.reduceLT, Nat.reduceBEq, reduceCtorEq, W_loop, q1, q2, en264 h264, h1, ofVal_v, ofVal_H]
  exact ⟨rfl, h2⟩
theorem r196 (h197 : P 197 = some p197) (h187 : P 187 = some p187) (h264 : P 264 = none) (h240 : P 240 = none) (l : List Mv) (hl : l.length ≤ 12) (lo id : Nat) (H : Heap) (hid : lo ≤ id) (hn : id < H.n) (hs : H.get id = .row (mvF l) 6 130) :
    ∃ v H', R (NC.withPrims P) (.call lo 196 [.rs id 0 l.length 6 none, .fn 197 [] []] H) = some (.ofVal v H') ∧ v = aundef ∧ H'.get id = .row (mvF (isort cmpLt l)) 6 130 ∧ H'.n = H.n ∧ ∀ i, i ≠ id → H'.get i = H.get i := by
  obtain ⟨v, H1, h1, rfl, h2⟩ := r240 h197 h264 l hl lo id (bitsN l.length) H hid hn hs
  have e187 := pe187 l.length hl
  have cu := conv_uint hl
  refine R_of_body (C := NC.withPrims P) (f := 196) (lo := lo) (args := [.rs id 0 l.length 6 none, .fn 197 [] []]) (H := H) (fn := Tryz.f196) (Q := fun v H' => v = aundef ∧ H'.get id = .row (mvF (isort cmpLt l)) 6 130 ∧ H'.n = H.n ∧ ∀ i, i ≠ id → H'.get i = H.get i) (by kernel_rfl) Tryz.func196 rfl rfl ?_
  simp only [go_sem, reduceIte, Nat.reduceEqDiff, Nat.reduceAdd, Nat.reduceMul, Nat.reduceSub, Nat.reduceLeDiff, Nat.reduceLT, Nat.reduceBEq, reduceCtorEq, cu, en187 h187, e187, en240 h240, h1, ofVal_v, ofVal_H]
  exact ⟨rfl, h2⟩
theorem r195 (x : Mv) (r : List Mv) (hl : (x :: r).length ≤ 12) (lo : Nat) (H : Heap) :
    ∃ v H', R (NC.withPrims P) (.call lo 195 [.ps .unk ((x :: r).map Mv.row)] H) = some (.ofVal v H') ∧ v = .rs H.n 0 (x :: r).length 6 none ∧ H' = H.push (.row (mvF (x :: r)) 6 130) := by
  refine R_of_body (C := NC.withPrims P) (f := 195) (lo := lo) (args := [.ps .unk ((x :: r).map Mv.row)]) (H := H) (fn := Tryz.f195) (Q := fun v H' => v = .rs H.n 0 (x :: r).length 6 none ∧ H' = H.push (.row (mvF (x :: r)) 6 130)) (by kernel_rfl) Tryz.func195 rfl rfl ?_
  have hap : ∀ lo, appR lo H 6 130 (.ps .exact []) ((x :: r).map Mv.row) = some (.rs H.n 0 (x :: r).length 6 none, H.push (.row (mvF (x :: r)) 6 130)) := by
    intro lo
    unfold appR
    have h1 : ((x :: r).map Mv.row).all (fun r => r.all AV.one) = true := by
      rw [List.all_eq_true]
      intro y hy
      obtain ⟨z, _, rfl⟩ := List.mem_map.1 hy
      rfl
    have h2 : ([] : List (List AV)).length + ((x :: r).map Mv.row).length ≤ maxRows := by simp at hl ⊢; unfold maxRows; omega
    have h3 : ([] : List (List AV)).length + ((x :: r).map Mv.row).length = (x :: r).length := by simp
    simp only [List.map_cons] at h1 h2 h3 ⊢
    have h4 : (x :: r).length ≤ maxRows := by unfold maxRows; omega
    simp only [Tok.full, h1, h3, h4, decide_true, List.all_nil, Bool.and_true, if_true, List.nil_append, Bool.true_and]
    rfl
  have hri : rowsIn H 6 (.ps .unk ((x :: r).map Mv.row)) = some ((x :: r).map Mv.row) := by
    show (if ((x :: r).map Mv.row).all (fun r => decide (r.length = 6)) = true then some ((x :: r).map Mv.row) else none) = _
    rw [if_pos (rows_all Mv.row_len _)]
  simp only [List.map_cons] at hap hri
  have hnb : isNilB .unk (x.row :: r.map Mv.row) = some false := rfl
  have hra := rows_all Mv.row_len (x :: r)
  simp only [List.map_cons, List.all_cons] at hra
  simp only [go_sem, reduceIte, Nat.reduceEqDiff, Nat.reduceAdd, Nat.reduceMul, Nat.reduceSub, Nat.reduceLeDiff, Nat.reduceLT, Nat.reduceBEq, reduceCtorEq, hnb, appO, hra, hap]
end Go.Sim

/-
The plain law of short forms: sorted moves carry ascending pairs; merged and composed moves.
-/
namespace Go.Sim
open Go
/-! ### The order of moves -/
theorem cmpL_both : ∀ a b : List Nat, ((cmpL a b < 0) ↔ strLt a b = true) ∧ (cmpL a b = 0 ↔ a = b)
  | [], [] => ⟨⟨fun h => absurd h (by decide), fun h => by simp [strLt] at h⟩, ⟨fun _ => rfl, fun _ => rfl⟩⟩
  | [], _ :: _ => ⟨⟨fun _ => rfl, fun _ => (by show (-1 : Int) < 0; decide)⟩, ⟨fun h => absurd (show (-1 : Int) = 0 from h) (by decide), fun h => by cases h⟩⟩
  | _ :: _, [] => ⟨⟨fun h => absurd (show (1 : Int) < 0 from h) (by decide), fun h => by simp [strLt] at h⟩, ⟨fun h => absurd (show (1 : Int) = 0 from h) (by decide), fun h => by cases h⟩⟩
  | a :: x, b :: y => by
    have ih := cmpL_both x y
    rw [strLt_cons]
    unfold cmpL
    rcases Nat.lt_trichotomy a b with h | h | h
    · have e : Nat.blt a b = true := by rw [Nat.blt_eq]; exact h
      simp only [e, cond_true]
      refine ⟨⟨fun _ => .inl h, fun _ => by decide⟩, ⟨fun c => absurd c (by decide), fun c => ?_⟩⟩
      have := (List.cons.inj c).1
      omega
    · subst h
      have e : Nat.blt a a = false := by
        cases h : Nat.blt a a with
        | false => rfl
        | true => rw [Nat.blt_eq] at h; omega
      simp only [e, cond_false]
      refine ⟨⟨fun c => .inr ⟨by simp, ih.1.1 c⟩, fun c => ?_⟩, ⟨fun c => by rw [ih.2.1 c], fun c => ih.2.2 (List.cons.inj c).2⟩⟩
      rcases c with c | c
      · omega
      · exact ih.1.2 c.2
    · have e1 : Nat.blt a b = false := by
        cases h : Nat.blt a b with
        | false => rfl
        | true => rw [Nat.blt_eq] at h; omega
      have e2 : Nat.blt b a = true := by rw [Nat.blt_eq]; exact h
      simp only [e1, e2, cond_false, cond_true]
      refine ⟨⟨fun c => absurd c (by decide), fun c => ?_⟩, ⟨fun c => absurd c (by decide), fun c => ?_⟩⟩
      · rcases c with c | c <;> omega
      · have := (List.cons.inj c).1
        omega
theorem cmpLt_eq (x y : Mv) : cmpLt x y = mvLt x y := by
  have h := cmpL_both x.line y.line
  rw [Bool.eq_iff_iff]
  unfold cmpLt mvLt cmpMv orI cmpI
  rw [plt_iff, decide_eq_true_eq]
  by_cases hz : cmpL x.line y.line = 0
  · rw [if_pos hz]
    have he := h.2.1 hz
    rw [he, strLt_irrefl]
    constructor
    · intro c
      refine .inr ⟨rfl, ?_⟩
      split at c
      · assumption
      · split at c <;> omega
    · rintro (c | ⟨_, c⟩)
      · cases c
      · rw [if_pos c]; decide
  · rw [if_neg hz, h.1]
    exact ⟨fun c => .inl c, fun c => by
      rcases c with c | ⟨c, _⟩
      · exact c
      · exact absurd (h.2.2 c) hz⟩
theorem plt_asym {a b : List Nat} {i j : Int} (h : plt a i b j = true) : plt b j a i = false := by
  cases h2 : plt b j a i with
  | false => rfl
  | true =>
    have := plt_trans h h2
    rw [plt_irrefl] at this; cases this
theorem plt_tr {a b c : List Nat} {i j k : Int} (h1 : plt b j a i = false) (h2 : plt c k b j = false) : plt c k a i = false := by
  cases h : plt c k a i with
  | false => rfl
  | true =>
    exfalso
    rcases plt_tri b j c k with q | ⟨q1, q2⟩ | q
    · have := plt_trans q h
      rw [h1] at this; cases this
    · subst q1; subst q2
      rw [h] at h1; cases h1
    · rw [q] at h2; cases h2
theorem sort_ahead {m : List Mv} (hg : ∀ x ∈ m, 1 ≤ x.len) (hs : m.Pairwise Mv.apart) : (isort cmpLt m).Pairwise Mv.ahead := by
  have e : cmpLt = mvLt := by funext x y; exact cmpLt_eq x y
  rw [e]
  have hp := isort_perm mvLt m
  have h1 := isort_sorted mvLt (fun a b h => plt_asym h) (fun a b c h1 h2 => plt_tr h1 h2) m
  have h2 : (isort mvLt m).Pairwise Mv.apart := (List.Perm.pairwise_iff (fun h => Mv.apart_symm h) hp).2 hs
  have h3 := h1.and h2
  refine List.Pairwise.imp_of_mem (fun {a b} ha hb h => ?_) h3
  exact ahead_of (hg a (hp.mem_iff.1 ha)) (hg b (hp.mem_iff.1 hb)) h.2 h.1
theorem mem_flat_perm {a b : List Mv} (h : List.Perm a b) {p : Pr} : p ∈ flat a ↔ p ∈ flat b := by
  rw [mem_flat, mem_flat]
  constructor
  · rintro ⟨x, hx, r⟩; exact ⟨x, h.mem_iff.1 hx, r⟩
  · rintro ⟨x, hx, r⟩; exact ⟨x, h.mem_iff.2 hx, r⟩
theorem sort_flat {m : List Mv} (hg : ∀ x ∈ m, 1 ≤ x.len) (hs : m.Pairwise Mv.apart) {L : List Pr} (ha : Asc L) (hm : ∀ p, p ∈ L ↔ p ∈ flat m) : flat (isort cmpLt m) = L :=
  asc_unique (flat_asc (sort_ahead hg hs)) ha fun p => by rw [mem_flat_perm (isort_perm cmpLt m)]; exact (hm p).symm
/-! ### The order of pairs -/
def prLt (p q : Pr) : Bool := plt p.a p.i q.a q.i
def Pr.differ (p q : Pr) : Prop := ¬ (p.a = q.a ∧ p.i = q.i)
theorem Pr.differ_symm {p q : Pr} (h : p.differ q) : q.differ p := fun c => h ⟨c.1.symm, c.2.symm⟩
theorem prsort_asc {l : List Pr} (hd : l.Pairwise Pr.differ) : Asc (isort prLt l) := by
  have hp := isort_perm prLt l
  have h1 := isort_sorted prLt (fun a b h => plt_asym h) (fun a b c h1 h2 => plt_tr h1 h2) l
  have h2 : (isort prLt l).Pairwise Pr.differ := (List.Perm.pairwise_iff (fun h => Pr.differ_symm h) hp).2 hd
  refine (h1.and h2).imp fun {a b} h => ?_
  rcases plt_tri a.a a.i b.a b.i with q | q | q
  · exact q
  · exact absurd q h.2
  · have := h.1
    unfold prLt at this
    rw [q] at this; cases this
theorem lt_differ {p q : Pr} (h : p.lt q) : p.differ q := by
  rintro ⟨h1, h2⟩
  unfold Pr.lt at h
  rw [h1, h2, plt_irrefl] at h; cases h
theorem apart_differ {x y : Mv} (h : x.apart y) {p q : Pr} (hp : p ∈ x.prs) (hq : q ∈ y.prs) : p.differ q := by
  obtain ⟨k, hk, rfl⟩ := mem_prs.1 hp
  obtain ⟨j, hj, rfl⟩ := mem_prs.1 hq
  rintro ⟨h1, h2⟩
  have h1 : x.line = y.line := h1
  have h2 : x.fr + k = y.fr + j := h2
  rcases h with h | h | h
  · exact h h1
  · omega
  · omega
theorem flat_differ : ∀ {m : List Mv}, m.Pairwise Mv.apart → (flat m).Pairwise Pr.differ
  | [], _ => List.Pairwise.nil
  | x :: r, h => by
    rw [List.pairwise_cons] at h
    rw [flat_cons, List.pairwise_append]
    refine ⟨(prs_asc x).imp fun h => lt_differ h, flat_differ h.2, fun p hp q hq => ?_⟩
    unfold flat at hq
    obtain ⟨y, hy, hq⟩ := List.mem_flatMap.1 hq
    exact apart_differ (h.1 y hy) hp hq
theorem flat_sort {m : List Mv} (hg : ∀ x ∈ m, 1 ≤ x.len) (hs : m.Pairwise Mv.apart) : flat (isort cmpLt m) = isort prLt (flat m) :=
  sort_flat hg hs (prsort_asc (flat_differ hs)) fun p => (isort_perm prLt (flat m)).mem_iff
/-! ### Back -/
def Pr.swap (p : Pr) : Pr := ⟨p.b, p.j, p.a, p.i⟩
theorem swap_swap (p : Pr) : p.swap.swap = p := rfl
theorem mem_undo {x : Mv} {p : Pr} : p ∈ (undoMv x).prs ↔ p.swap ∈ x.prs := by
  rw [mem_prs, mem_prs]
  have key : ∀ (x : Mv) (k : Nat), (k : Int) < x.len → ∃ j : Nat, (j : Int) < x.len ∧ ((undoMv x).pr k).swap = x.pr j := by
    intro x k hk
    refine ⟨(if x.turned then x.len - 1 - k else k).toNat, ?_, ?_⟩
    · split <;> omega
    · unfold Pr.swap Mv.pr undoMv Mv.dst
      simp only []
      cases x.turned with
      | true =>
        simp only [if_true]
        have e : (((x.len - 1 - (k : Int)).toNat : Nat) : Int) = x.len - 1 - k := by omega
        rw [e]
        congr 1 <;> omega
      | false =>
        simp only [Bool.false_eq_true, if_false]
        have e : ((((k : Int)).toNat : Nat) : Int) = k := by omega
        rw [e]
  constructor
  · rintro ⟨k, hk, rfl⟩
    exact key x k hk
  · rintro ⟨k, hk, h⟩
    obtain ⟨j, hj, e⟩ := key (undoMv x) k hk
    refine ⟨j, hj, ?_⟩
    rw [← e, undo_undo, ← h, swap_swap]
theorem mem_flat_undo {m : List Mv} {p : Pr} : p ∈ flat (m.map undoMv) ↔ p.swap ∈ flat m := by
  unfold flat
  rw [List.mem_flatMap, List.mem_flatMap]
  constructor
  · rintro ⟨y, hy, hp⟩
    obtain ⟨x, hx, rfl⟩ := List.mem_map.1 hy
    exact ⟨x, hx, mem_undo.1 hp⟩
  · rintro ⟨x, hx, hp⟩
    exact ⟨undoMv x, List.mem_map.2 ⟨x, hx, rfl⟩, mem_undo.2 hp⟩
theorem pr_inj {x : Mv} {k j : Nat} (h : x.dst k = x.dst j) : k = j := by
  unfold Mv.dst at h
  split at h <;> omega
theorem flat_swap_differ : ∀ {m : List Mv}, m.Pairwise Mv.tapart → ((flat m).map Pr.swap).Pairwise Pr.differ
  | [], _ => List.Pairwise.nil
  | x :: r, h => by
    rw [List.pairwise_cons] at h
    rw [flat_cons, List.map_append, List.pairwise_append]
    refine ⟨?_, flat_swap_differ h.2, fun p hp q hq => ?_⟩
    · unfold Mv.prs
      rw [List.pairwise_map, List.pairwise_map]
      refine List.pairwise_lt_range.imp fun {a b} hab => ?_
      rintro ⟨_, h2⟩
      have := pr_inj (x := x) h2
      omega
    · obtain ⟨p', hp', rfl⟩ := List.mem_map.1 hp
      obtain ⟨q', hq', rfl⟩ := List.mem_map.1 hq
      unfold flat at hq'
      obtain ⟨y, hy, hq'⟩ := List.mem_flatMap.1 hq'
      obtain ⟨k, hk, rfl⟩ := mem_prs.1 hp'
      obtain ⟨j, hj, rfl⟩ := mem_prs.1 hq'
      rintro ⟨h1, h2⟩
      have h1 : x.other = y.other := h1
      have h2 : x.dst k = y.dst j := h2
      have d1 : x.to ≤ x.dst k ∧ x.dst k < x.to + x.len := by unfold Mv.dst; split <;> omega
      have d2 : y.to ≤ y.dst j ∧ y.dst j < y.to + y.len := by unfold Mv.dst; split <;> omega
      rcases h.1 y hy with h | h | h
      · exact h h1
      · omega
      · omega
theorem undo_sort {m : List Mv} (h : Fair m) : flat (isort cmpLt (m.map undoMv)) = isort prLt ((isort prLt (flat m)).map Pr.swap) := by
  have hp : List.Perm ((isort prLt (flat m)).map Pr.swap) ((flat m).map Pr.swap) := (isort_perm prLt (flat m)).map _
  refine sort_flat (fun x hx => (h.undo.good x hx).len) h.undo.src (prsort_asc ?_) fun p => ?_
  · exact (List.Perm.pairwise_iff (fun h => Pr.differ_symm h) hp).2 (flat_swap_differ h.dst)
  · rw [(isort_perm prLt _).mem_iff, hp.mem_iff, mem_flat_undo]
    constructor
    · intro hq
      obtain ⟨q, hq', rfl⟩ := List.mem_map.1 hq
      exact hq'
    · intro hq
      exact List.mem_map.2 ⟨p.swap, hq, rfl⟩
/-! ### Parts and merged moves -/
theorem part_cut {y : Mv} (h : y.Good) {k n : Int} (h0 : 0 ≤ k) (h1 : 1 ≤ n) (h2 : k + n ≤ y.len) : partMv y (y.fr + k) n = y.cut k n := by
  have := h.fr; have := h.len; have := h.to; have := h.frl; have := h.tol
  have e1 : Int.add (y.fr + k) n = y.fr + k + n := rfl
  have e2 : Int.sub (y.fr + k + n) 1 = y.fr + k + n - 1 := rfl
  have a1 : y.fr + k - y.fr = k := by omega
  have a2 : y.fr + k + n - 1 - y.fr = k + n - 1 := by omega
  unfold partMv Mv.cut
  rw [e1, wrap_small (x := y.fr + k + n) (by omega) (by omega), e2, wrap_small (x := y.fr + k + n - 1) (by omega) (by omega), atI_dst h (q := y.fr + k) (by omega) (by omega), atI_dst h (q := y.fr + k + n - 1) (by omega) (by omega), a1, a2]
theorem part_head {y : Mv} (h : y.Good) {n : Int} (h1 : 1 ≤ n) (h2 : n ≤ y.len) : partMv y y.fr n = y.cut 0 n := by
  have := part_cut h (k := 0) (by omega) h1 (by omega)
  rw [Int.add_zero] at this
  exact this
theorem good_cut {y : Mv} (h : y.Good) {k n : Int} (h0 : 0 ≤ k) (h1 : 1 ≤ n) (h2 : k + n ≤ y.len) : (y.cut k n).Good := by
  have := h.fr; have := h.len; have := h.to; have := h.frl; have := h.tol
  have hd : 0 ≤ minI (y.dst k) (y.dst (k + n - 1)) ∧ minI (y.dst k) (y.dst (k + n - 1)) + n ≤ 800000 := by
    unfold minI Mv.dst
    split <;> split <;> omega
  exact ⟨h.line, h.other, by show 0 ≤ y.fr + k; omega, h1, hd.1, by show y.fr + k + n ≤ _; omega, hd.2⟩
theorem taken_range {x y : Mv} (hy : 1 ≤ y.len) : 1 ≤ takenI x y ∧ takenI x y ≤ y.len := by
  unfold takenI
  split
  · rename_i h
    simp only [Bool.and_eq_true, decide_eq_true_eq] at h
    omega
  · omega
theorem good_join {x y : Mv} (hx : x.Good) (hy : y.Good) (h : joinB x y = true) : (joinMv x y).Good ∧ 2 ≤ (joinMv x y).len := by
  have ht := taken_range (x := x) hy.len
  have := hx.fr; have := hx.len; have := hx.to; have := hx.frl; have := hx.tol
  have := hy.fr; have := hy.len; have := hy.to; have := hy.frl; have := hy.tol
  unfold joinB at h
  simp only [Bool.and_eq_true, Bool.or_eq_true, decide_eq_true_eq, Bool.not_eq_true', Bool.and_eq_false_iff, decide_eq_false_iff_not, bne_eq_false_iff_eq] at h
  obtain ⟨⟨⟨⟨h1, h2⟩, h3⟩, h4⟩, h5⟩ := h
  have hS : stpI x y = y.dst 0 - x.dst (x.len - 1) := rfl
  have hT : takenI x y = if decide (1 < y.len) && (y.turned != decide (stpI x y < 0)) then 1 else y.len := rfl
  have hto : 0 ≤ minI x.to (y.cut 0 (takenI x y)).to ∧ minI x.to (y.cut 0 (takenI x y)).to + (x.len + takenI x y) ≤ 800000 := by
    have e : (y.cut 0 (takenI x y)).to = minI (y.dst 0) (y.dst (0 + takenI x y - 1)) := rfl
    rw [e]
    generalize takenI x y = T at *
    generalize stpI x y = S at *
    unfold Mv.dst at hS ⊢
    unfold minI
    cases hxt : x.turned <;> cases hyt : y.turned <;> simp only [hxt, hyt, if_true, if_false, Bool.false_eq_true] at hS hT h5 ⊢ <;> rcases h4 with rfl | rfl <;> simp at hT h5 ⊢ <;> (try split at hT) <;> (repeat' split) <;> omega
  refine ⟨⟨hx.line, hx.other, hx.fr, ?_, hto.1, ?_, hto.2⟩, ?_⟩
  · show 1 ≤ x.len + takenI x y; omega
  · show x.fr + (x.len + takenI x y) ≤ 800000; omega
  · show 2 ≤ x.len + takenI x y; omega
/-! ### Composed moves -/
theorem comp_eq {x y : Mv} (hx : x.Good) (hy : y.Good) (h : compB x y = true) : ∃ F L : Int, F < L ∧ x.to ≤ F ∧ y.fr ≤ F ∧ L ≤ x.to + x.len ∧ L ≤ y.fr + y.len ∧ (F = x.to ∨ F = y.fr) ∧ (L = x.to + x.len ∨ L = y.fr + y.len) ∧ x.other = y.line ∧
    compMv x y = ⟨x.line, if x.turned then x.fr + x.len + x.to - L else x.fr + F - x.to, L - F, y.other, if y.turned then y.to + y.len + y.fr - L else y.to + F - y.fr, x.turned != y.turned⟩ := by
  have := hx.fr; have := hx.len; have := hx.to; have := hx.frl; have := hx.tol
  have := hy.fr; have := hy.len; have := hy.to; have := hy.frl; have := hy.tol
  unfold compB at h
  simp only [Bool.and_eq_true, decide_eq_true_eq] at h
  obtain ⟨h1, h2⟩ := h
  have hF : compFr x y = maxI x.to y.fr := rfl
  have hL : compTill x y = minI (x.to + x.len) (y.fr + y.len) := by unfold compTill; rw [hx.till, hy.end_]
  have hn : compLen x y = compTill x y - compFr x y := by
    have e : Int.sub (compTill x y) (compFr x y) = compTill x y - compFr x y := rfl
    have b1 : 0 ≤ compFr x y := by rw [hF]; unfold maxI; split <;> omega
    have b2 : compTill x y ≤ 1600000 := by rw [hL]; unfold minI; split <;> omega
    unfold compLen
    rw [e, wrap_small (by omega) (by omega)]
  have r1 : x.to ≤ compFr x y ∧ y.fr ≤ compFr x y ∧ (compFr x y = x.to ∨ compFr x y = y.fr) := by rw [hF]; unfold maxI; split <;> omega
  have r2 : compTill x y ≤ x.to + x.len ∧ compTill x y ≤ y.fr + y.len ∧ (compTill x y = x.to + x.len ∨ compTill x y = y.fr + y.len) := by rw [hL]; unfold minI; split <;> omega
  refine ⟨compFr x y, compTill x y, h2, r1.1, r1.2.1, r2.1, r2.2.1, r1.2.2, r2.2.2, (beqL_iff _ _).1 h1, ?_⟩
  unfold compMv
  rw [hn]
  generalize compFr x y = F at *
  generalize compTill x y = L at *
  have hux := hx.undo
  have c1 := part_cut (y := undoMv x) hux (k := F - x.to) (n := L - F) (by omega) (by omega) (by show F - x.to + (L - F) ≤ x.len; omega)
  have c2 := part_cut hy (k := F - y.fr) (n := L - F) (by omega) (by omega) (by omega)
  have e1 : (undoMv x).fr + (F - x.to) = F := by show x.to + (F - x.to) = F; omega
  have e2 : y.fr + (F - y.fr) = F := by omega
  rw [e1] at c1
  rw [e2] at c2
  rw [c1, c2]
  have t1 : ((undoMv x).cut (F - x.to) (L - F)).to = if x.turned then x.fr + x.len + x.to - L else x.fr + F - x.to := by
    unfold Mv.cut Mv.dst undoMv minI
    simp only []
    cases x.turned <;> simp <;> (repeat' split) <;> omega
  have t2 : (y.cut (F - y.fr) (L - F)).to = if y.turned then y.to + y.len + y.fr - L else y.to + F - y.fr := by
    unfold Mv.cut Mv.dst minI
    simp only []
    cases y.turned <;> simp <;> (repeat' split) <;> omega
  rw [t1, t2]
theorem comp_prs {x y : Mv} (hx : x.Good) (hy : y.Good) (h : compB x y = true) {p : Pr} : p ∈ (compMv x y).prs ↔ p.a = x.line ∧ x.fr ≤ p.i ∧ p.i < x.fr + x.len ∧ x.other = y.line ∧ y.fr ≤ x.dst (p.i - x.fr) ∧ x.dst (p.i - x.fr) < y.fr + y.len ∧ p.b = y.other ∧ p.j = y.dst (x.dst (p.i - x.fr) - y.fr) := by
  obtain ⟨F, L, g1, g2, g3, g4, g5, g6, g7, g8, e⟩ := comp_eq hx hy h
  rw [mem_prs, e]
  unfold Mv.pr Mv.dst
  simp only []
  obtain ⟨a, i, b, j⟩ := p
  simp only [Pr.mk.injEq]
  constructor
  · rintro ⟨k, hk, rfl, rfl, rfl, rfl⟩
    cases x.turned <;> cases y.turned <;> simp at * <;> refine ⟨?_, ?_, g8, ?_, ?_, ?_⟩ <;> omega
  · rintro ⟨rfl, a1, a2, _, a3, a4, rfl, rfl⟩
    cases hxt : x.turned with
    | false =>
      simp only [hxt, Bool.false_eq_true, if_false] at a3 a4 ⊢
      refine ⟨(i - (x.fr + F - x.to)).toNat, ?_, by simp, ?_, by simp, ?_⟩
      · omega
      · omega
      · cases y.turned <;> simp <;> omega
    | true =>
      simp only [hxt, if_true] at a3 a4 ⊢
      refine ⟨(i - (x.fr + x.len + x.to - L)).toNat, ?_, by simp, ?_, by simp, ?_⟩
      · omega
      · omega
      · cases y.turned <;> simp <;> omega
theorem comp_good {x y : Mv} (hx : x.Good) (hy : y.Good) (h : compB x y = true) : (compMv x y).Good := by
  obtain ⟨F, L, g1, g2, g3, g4, g5, g6, g7, g8, e⟩ := comp_eq hx hy h
  have := hx.fr; have := hx.len; have := hx.to; have := hx.frl; have := hx.tol
  have := hy.fr; have := hy.len; have := hy.to; have := hy.frl; have := hy.tol
  rw [e]
  refine ⟨hx.line, hy.other, ?_, ?_, ?_, ?_, ?_⟩ <;> simp only [] <;> (try split) <;> omega
theorem no_share {z w : Mv} (hz : 1 ≤ z.len) (hw : 1 ≤ w.len) (h : ∀ p q : Pr, p ∈ z.prs → q ∈ w.prs → p.differ q) : z.apart w := by
  unfold Mv.apart
  by_cases h1 : z.line = w.line
  · right
    by_cases h2 : z.fr + z.len ≤ w.fr
    · exact .inl h2
    · right
      by_cases h3 : w.fr + w.len ≤ z.fr
      · exact h3
      · exfalso
        have hm : ∃ i : Int, z.fr ≤ i ∧ i < z.fr + z.len ∧ w.fr ≤ i ∧ i < w.fr + w.len := by
          by_cases c : z.fr ≤ w.fr
          · exact ⟨w.fr, by omega, by omega, by omega, by omega⟩
          · exact ⟨z.fr, by omega, by omega, by omega, by omega⟩
        obtain ⟨i, i1, i2, i3, i4⟩ := hm
        refine h (z.pr (i - z.fr).toNat) (w.pr (i - w.fr).toNat) (mem_prs.2 ⟨_, by omega, rfl⟩) (mem_prs.2 ⟨_, by omega, rfl⟩) ⟨h1, ?_⟩
        show z.fr + ((i - z.fr).toNat : Int) = w.fr + ((i - w.fr).toNat : Int)
        omega
  · exact .inl h1
def compO (x y : Mv) : Option Mv := if compB x y then some (compMv x y) else none
def compL (a b : List Mv) : List Mv := a.flatMap fun x => b.filterMap (compO x)
theorem compO_some {x y z : Mv} : compO x y = some z ↔ compB x y = true ∧ z = compMv x y := by
  unfold compO
  split
  · rename_i h
    simp only [h, true_and, Option.some.injEq]
    exact eq_comm
  · rename_i h
    simp [h]
theorem mem_compL {a b : List Mv} {z : Mv} : z ∈ compL a b ↔ ∃ x ∈ a, ∃ y ∈ b, compB x y = true ∧ z = compMv x y := by
  unfold compL
  rw [List.mem_flatMap]
  constructor
  · rintro ⟨x, hx, hz⟩
    obtain ⟨y, hy, h⟩ := List.mem_filterMap.1 hz
    obtain ⟨h1, h2⟩ := compO_some.1 h
    exact ⟨x, hx, y, hy, h1, h2⟩
  · rintro ⟨x, hx, y, hy, h1, h2⟩
    exact ⟨x, hx, List.mem_filterMap.2 ⟨y, hy, compO_some.2 ⟨h1, h2⟩⟩⟩
theorem compL_good {a b : List Mv} (ha : Fair a) (hb : Fair b) : ∀ z ∈ compL a b, z.Good := by
  intro z hz
  obtain ⟨x, hx, y, hy, h, rfl⟩ := mem_compL.1 hz
  exact comp_good (ha.good x hx) (hb.good y hy) h
theorem compL_apart {a b : List Mv} (ha : Fair a) (hb : Fair b) : (compL a b).Pairwise Mv.apart := by
  unfold compL
  rw [List.pairwise_flatMap]
  constructor
  · intro x hx
    rw [List.pairwise_filterMap]
    refine List.Pairwise.imp_of_mem (fun {y w} hy hw hap => ?_) hb.src
    intro z hz z' hz'
    obtain ⟨h1, rfl⟩ := compO_some.1 hz
    obtain ⟨h2, rfl⟩ := compO_some.1 hz'
    have gx := ha.good x hx
    have gy := hb.good y hy
    have gw := hb.good w hw
    refine no_share (comp_good gx gy h1).len (comp_good gx gw h2).len fun p q hp hq => ?_
    rw [comp_prs gx gy h1] at hp
    rw [comp_prs gx gw h2] at hq
    rintro ⟨c1, c2⟩
    rw [c2] at hp
    rcases hap with k | k | k
    · exact k (hp.2.2.2.1.symm.trans hq.2.2.2.1)
    · omega
    · omega
  · refine List.Pairwise.imp_of_mem (fun {x w} hx hw hap => ?_) ha.src
    intro z hz z' hz'
    obtain ⟨y, hy, h1⟩ := List.mem_filterMap.1 hz
    obtain ⟨v, hv, h2⟩ := List.mem_filterMap.1 hz'
    obtain ⟨h1', rfl⟩ := compO_some.1 h1
    obtain ⟨h2', rfl⟩ := compO_some.1 h2
    have gx := ha.good x hx
    have gw := ha.good w hw
    have gy := hb.good y hy
    have gv := hb.good v hv
    refine no_share (comp_good gx gy h1').len (comp_good gw gv h2').len fun p q hp hq => ?_
    rw [comp_prs gx gy h1'] at hp
    rw [comp_prs gw gv h2'] at hq
    rintro ⟨c1, c2⟩
    rcases hap with k | k | k
    · exact k (hp.1.symm.trans (c1.trans hq.1))
    · omega
    · omega
def thenP (b : List Mv) (p : Pr) : Option Pr := (carO b (p.b, p.j)).map fun q => ⟨p.a, p.i, q.1, q.2⟩
theorem thenP_some {b : List Mv} {p r : Pr} : thenP b p = some r ↔ ∃ q, carO b (p.b, p.j) = some q ∧ r = ⟨p.a, p.i, q.1, q.2⟩ := by
  unfold thenP
  rw [Option.map_eq_some_iff]
  constructor
  · rintro ⟨q, h, rfl⟩; exact ⟨q, h, rfl⟩
  · rintro ⟨q, h, rfl⟩; exact ⟨q, h, rfl⟩
theorem comp_sort {a b : List Mv} (ha : Fair a) (hb : Fair b) : flat (isort cmpLt (compL a b)) = (isort prLt (flat a)).filterMap (thenP b) := by
  have hasc := prsort_asc (flat_differ ha.src)
  refine sort_flat (fun z hz => (compL_good ha hb z hz).len) (compL_apart ha hb) ?_ fun p => ?_
  · unfold Asc at hasc ⊢
    rw [List.pairwise_filterMap]
    refine hasc.imp fun {p q} h z hz w hw => ?_
    obtain ⟨_, _, rfl⟩ := thenP_some.1 hz
    obtain ⟨_, _, rfl⟩ := thenP_some.1 hw
    exact h
  · rw [List.mem_filterMap]
    constructor
    · rintro ⟨q, hq, hp⟩
      obtain ⟨r, hr, rfl⟩ := thenP_some.1 hp
      rw [(isort_perm prLt (flat a)).mem_iff] at hq
      obtain ⟨x, hx, k, hk, rfl⟩ := mem_flat.1 hq
      obtain ⟨y, hy, h1, h2, h3, rfl⟩ := (carO_iff hb).1 hr
      have gx := ha.good x hx
      have gy := hb.good y hy
      have h1 : y.line = x.other := h1
      have h2 : y.fr ≤ x.dst k := h2
      have h3 : x.dst k < y.fr + y.len := h3
      have hd : x.to ≤ x.dst k ∧ x.dst k < x.to + x.len := by unfold Mv.dst; split <;> omega
      have hc : compB x y = true := by
        unfold compB compFr compTill
        rw [gx.till, gy.end_]
        simp only [Bool.and_eq_true, decide_eq_true_eq, maxI_lt, lt_minI]
        exact ⟨(beqL_iff _ _).2 h1.symm, ⟨by omega, by omega⟩, by omega, by omega⟩
      unfold flat
      refine List.mem_flatMap.2 ⟨compMv x y, mem_compL.2 ⟨x, hx, y, hy, hc, rfl⟩, (comp_prs gx gy hc).2 ?_⟩
      have e : x.fr + (k : Int) - x.fr = k := by omega
      simp only [Mv.pr, e]
      exact ⟨by simp, by omega, by omega, h1.symm, h2, h3, by simp, by simp⟩
    · intro hp
      unfold flat at hp
      obtain ⟨z, hz, hp⟩ := List.mem_flatMap.1 hp
      obtain ⟨x, hx, y, hy, hc, rfl⟩ := mem_compL.1 hz
      have gx := ha.good x hx
      have gy := hb.good y hy
      obtain ⟨p1, p2, p3, p4, p5, p6, p7, p8⟩ := (comp_prs gx gy hc).1 hp
      obtain ⟨pa, pi, pb, pj⟩ := p
      simp only at p1 p2 p3 p5 p6 p7 p8
      have hk : (((pi - x.fr).toNat : Nat) : Int) = pi - x.fr := by omega
      refine ⟨x.pr (pi - x.fr).toNat, (isort_perm prLt (flat a)).mem_iff.2 (mem_flat.2 ⟨x, hx, _, by omega, rfl⟩), thenP_some.2 ⟨(y.other, y.dst (x.dst (pi - x.fr) - y.fr)), ?_, ?_⟩⟩
      · rw [carO_iff hb]
        simp only [Mv.pr, hk]
        exact ⟨y, hy, p4.symm, p5, p6, rfl⟩
      · have e : x.fr + (pi - x.fr) = pi := by omega
        simp only [Mv.pr, hk, e, p1, p7, p8]
/-! ### How many there are -/
theorem count_onePw {α : Type} {R : α → α → Prop} {f : α → Bool} : ∀ {l : List α}, l.Pairwise R → (∀ x y, R x y → f x = true → f y = true → False) → l.countP f ≤ 1
  | [], _, _ => by simp
  | x :: r, h, hf => by
    rw [List.pairwise_cons] at h
    rw [List.countP_cons]
    by_cases hx : f x = true
    · have : r.countP f = 0 := by
        rw [List.countP_eq_zero]
        intro y hy hfy
        exact hf x y (h.1 y hy) hx hfy
      simp [hx, this]
    · have := count_onePw h.2 hf
      simp [hx]; omega
theorem sum_swap {α β : Type} (c : α → β → Bool) (y : β) (b : List β) : ∀ a : List α, (a.map fun x => (y :: b).countP (c x)).sum = a.countP (fun x => c x y) + (a.map fun x => b.countP (c x)).sum
  | [] => by simp
  | x :: r => by
    rw [List.map_cons, List.sum_cons, sum_swap c y b r, List.map_cons, List.sum_cons, List.countP_cons, List.countP_cons]
    omega
theorem sum_cols {α β : Type} (c : α → β → Bool) (a : List α) : ∀ b : List β, (∀ y ∈ b, a.countP (fun x => c x y) ≤ 1) → (a.map fun x => b.countP (c x)).sum ≤ b.length
  | [], _ => by
    have : ∀ a : List α, (a.map fun x => ([] : List β).countP (c x)).sum = 0 := by
      intro a
      induction a with
      | nil => rfl
      | cons x r ih => rw [List.map_cons, List.sum_cons, ih]; simp
    rw [this a]; exact Nat.zero_le _
  | y :: b, h => by
    rw [sum_swap]
    have := sum_cols c a b fun y hy => h y (by simp [hy])
    have := h y (by simp)
    simp only [List.length_cons]; omega
theorem sum_rows {α β : Type} (c : α → β → Bool) (b : List β) : ∀ a : List α, (∀ x ∈ a, b.countP (c x) ≤ 1) → (a.map fun x => b.countP (c x)).sum ≤ a.length
  | [], _ => by simp
  | x :: r, h => by
    rw [List.map_cons, List.sum_cons]
    have := sum_rows c b r fun y hy => h y (by simp [hy])
    have := h x (by simp)
    simp only [List.length_cons]; omega
def headB (x y : Mv) : Bool := beqL x.other y.line && (decide (y.fr ≤ x.to) && decide (x.to < y.fr + y.len))
def tailB (x y : Mv) : Bool := beqL x.other y.line && (decide (x.to < y.fr) && decide (y.fr < x.to + x.len))
theorem compL_len {a b : List Mv} (ha : Fair a) (hb : Fair b) : (compL a b).length ≤ a.length + b.length := by
  have h0 : (compL a b).length = (a.map fun x => b.countP (compB x)).sum := by
    unfold compL
    rw [List.length_flatMap]
    congr 1
    refine List.map_congr_left fun x _ => ?_
    induction b with
    | nil => rfl
    | cons y r ih =>
      have ih := ih ⟨fun z hz => hb.good z (by simp [hz]), (List.pairwise_cons.1 hb.src).2, (List.pairwise_cons.1 hb.dst).2⟩
      rw [List.countP_cons, ← ih, List.filterMap_cons]
      unfold compO
      cases compB x y <;> simp
  have h1 : ∀ a' : List Mv, (∀ x ∈ a', x.Good) → (a'.map fun x => b.countP (compB x)).sum ≤ (a'.map fun x => b.countP (headB x)).sum + (a'.map fun x => b.countP (tailB x)).sum := by
    intro a' hg
    induction a' with
    | nil => simp
    | cons x r ih =>
      have ih := ih fun z hz => hg z (by simp [hz])
      have gx := hg x (by simp)
      have hx : ∀ b' : List Mv, (∀ y ∈ b', y.Good) → b'.countP (compB x) ≤ b'.countP (headB x) + b'.countP (tailB x) := by
        intro b' hgb
        induction b' with
        | nil => simp
        | cons y s ihs =>
          have ihs := ihs fun z hz => hgb z (by simp [hz])
          have gy := hgb y (by simp)
          have hor : compB x y = true → headB x y = true ∨ tailB x y = true := by
            intro hc
            unfold compB compFr compTill at hc
            rw [gx.till, gy.end_] at hc
            simp only [Bool.and_eq_true, decide_eq_true_eq, maxI_lt, lt_minI] at hc
            unfold headB tailB
            simp only [hc.1, Bool.true_and, Bool.and_eq_true, decide_eq_true_eq]
            omega
          rw [List.countP_cons, List.countP_cons, List.countP_cons]
          by_cases hc : compB x y = true
          · rcases hor hc with h | h <;> simp only [hc, h, if_true] <;> omega
          · simp only [hc]; simp only [Bool.false_eq_true, if_false]; omega
      have := hx b fun y hy => hb.good y hy
      simp only [List.map_cons, List.sum_cons]; omega
  have h2 : (a.map fun x => b.countP (headB x)).sum ≤ a.length := by
    refine sum_rows headB b a fun x hx => count_onePw hb.src fun y w hap h1 h2 => ?_
    unfold headB at h1 h2
    simp only [Bool.and_eq_true, decide_eq_true_eq, beqL_iff] at h1 h2
    rcases hap with k | k | k
    · exact k (h1.1.symm.trans h2.1)
    · omega
    · omega
  have h3 : (a.map fun x => b.countP (tailB x)).sum ≤ b.length := by
    refine sum_cols tailB a b fun y hy => count_onePw ha.dst fun x w hap h1 h2 => ?_
    unfold tailB at h1 h2
    simp only [Bool.and_eq_true, decide_eq_true_eq, beqL_iff] at h1 h2
    rcases hap with k | k | k
    · exact k (h1.1.trans h2.1.symm)
    · omega
    · omega
  have := h1 a ha.good
  omega
end Go.Sim

/-
The plain law of short forms: the short form of fair pairs is a valid map, and carries just these pairs.
-/
namespace Go.Sim
open Go
/-! ### The short form carries the same pairs -/
def lin (s : Int) (p : Pr) (n : Nat) : List Pr := (List.range n).map fun k : Nat => ⟨p.a, p.i + k, p.b, p.j + s * k⟩
theorem lin_cons {s : Int} {p q : Pr} (h : p.next q s = true) (n : Nat) : lin s p (n + 1) = p :: lin s q n := by
  unfold Pr.next at h
  simp only [Bool.and_eq_true, decide_eq_true_eq, beqL_iff] at h
  obtain ⟨⟨h1, h2⟩, h3, h4⟩ := h
  unfold lin
  rw [List.range_eq_range', List.range'_succ, List.map_cons, List.range_eq_range']
  congr 1
  · obtain ⟨a, i, b, j⟩ := p
    simp
  · rw [List.range'_eq_map_range, List.range'_eq_map_range, List.map_map, List.map_map]
    refine List.map_congr_left fun k _ => ?_
    simp only [Function.comp, Nat.zero_add, h1, h3]
    congr 1
    · omega
    · rw [h4]
      have e : s * (((0 + 1 + k : Nat)) : Int) = s + s * (k : Int) := by
        have : (((0 + 1 + k : Nat)) : Int) = 1 + (k : Int) := by omega
        rw [this, Int.mul_add, Int.mul_one]
      rw [e]; omega
theorem run_lin (s : Int) : ∀ (p : Pr) (r : List Pr), lin s p (runLen s p r + 1) ++ r.drop (runLen s p r) = p :: r
  | p, [] => by
    obtain ⟨a, i, b, j⟩ := p
    simp [runLen, lin]
  | p, q :: r => by
    unfold runLen
    split
    · rename_i h
      rw [lin_cons h, List.drop_succ_cons, List.cons_append, run_lin s q r]
    · obtain ⟨a, i, b, j⟩ := p
      simp [lin]
theorem runMv_prs {s : Int} (hs : s = 1 ∨ s = -1) (p : Pr) (n : Nat) : (runMv p s (n + 1)).prs = lin s p (n + 1) := by
  unfold Mv.prs lin
  have e : (runMv p s (n + 1)).len.toNat = n + 1 := by
    show (((n + 1 : Nat) : Int)).toNat = n + 1
    exact Int.toNat_natCast _
  rw [e]
  refine List.map_congr_left fun k hk => ?_
  have hk : k < n + 1 := List.mem_range.1 hk
  unfold Mv.pr runMv Mv.dst
  rcases hs with rfl | rfl
  · simp
  · simp
    omega
theorem sign_cases (p : Pr) (r : List Pr) : signOf p r = 1 ∨ signOf p r = -1 := by
  cases r with
  | nil => exact .inl rfl
  | cons q r =>
    by_cases h : p.next q (-1) = true
    · right; simp [signOf, h]
    · left; simp [signOf, h]
theorem flat_greedy : ∀ (n : Nat) (l : List Pr), l.length ≤ n → flat (greedy l) = l
  | _, [], _ => rfl
  | 0, _ :: _, h => absurd h (by simp)
  | n + 1, p :: r, h => by
    have hd : (r.drop (runLen (signOf p r) p r)).length ≤ n := by
      rw [List.length_drop]; simp only [List.length_cons] at h; omega
    rw [greedy_cons, flat_cons, flat_greedy n _ hd, runMv_prs (sign_cases p r), run_lin]
theorem flat_of_greedy (l : List Pr) : flat (greedy l) = l := flat_greedy l.length l (Nat.le_refl _)
theorem greedy_pos : ∀ (n : Nat) (l : List Pr), l.length ≤ n → ∀ x ∈ greedy l, 1 ≤ x.len
  | _, [], _, x, hx => by cases hx
  | 0, _ :: _, h, _, _ => absurd h (by simp)
  | n + 1, p :: r, h, x, hx => by
    have hd : (r.drop (runLen (signOf p r) p r)).length ≤ n := by
      rw [List.length_drop]; simp only [List.length_cons] at h; omega
    rw [greedy_cons] at hx
    rcases List.mem_cons.1 hx with rfl | hx
    · show 1 ≤ ((runLen (signOf p r) p r + 1 : Nat) : Int)
      omega
    · exact greedy_pos n _ hd x hx
/-! ### It has not more moves -/
def Mv.nrm (x : Mv) : Mv := { x with turned := x.turned && decide (1 < x.len) }
theorem nrm_prs {x : Mv} (h : 1 ≤ x.len) : x.nrm.prs = x.prs := by
  unfold Mv.prs
  refine List.map_congr_left fun k hk => ?_
  have hk : k < x.len.toNat := List.mem_range.1 hk
  unfold Mv.pr Mv.dst Mv.nrm
  by_cases hl : 1 < x.len
  · simp [hl]
  · have e : x.len = 1 := by omega
    have k0 : k = 0 := by omega
    subst k0
    cases x.turned <;> simp [e]
theorem greedy_lone {x : Mv} (h : 1 ≤ x.len) (hn : x.len = 1 → x.turned = false) : greedy x.prs = [x] := by
  obtain ⟨n, hl⟩ : ∃ n : Nat, x.len = ((n + 1 : Nat) : Int) := ⟨(x.len - 1).toNat, by omega⟩
  have := greedy_run x hl (fun h0 => hn (by rw [hl, h0]; rfl)) (t := []) (fun _ => ⟨trivial, trivial⟩) (fun _ => trivial)
  rw [List.append_nil] at this
  rw [this]; rfl
theorem greedy_stop {x y : Mv} (h : 1 ≤ x.len) (hn : x.len = 1 → x.turned = false) (hy : 1 ≤ y.len) (hj : joinB x y = false) (r : List Pr) : greedy (x.prs ++ (y.prs ++ r)) = x :: greedy (y.prs ++ r) := by
  obtain ⟨n, hl⟩ : ∃ n : Nat, x.len = ((n + 1 : Nat) : Int) := ⟨(x.len - 1).toNat, by omega⟩
  obtain ⟨h1, h2⟩ := no_join hj hl hy r
  exact greedy_run x hl (fun h0 => hn (by rw [hl, h0]; rfl)) h1 h2
theorem rest_good {x y : Mv} (hy : y.Good) : ∀ z ∈ restMv x y, z.Good := by
  intro z hz
  unfold restMv at hz
  have ht := taken_range (x := x) hy.len
  split at hz
  · rename_i h
    rw [List.mem_singleton] at hz
    subst hz
    exact good_cut hy (by omega) (by omega) (by omega)
  · cases hz
theorem rest_len {x y : Mv} (hx : x.Good) (hy : y.Good) (hj : joinB x y = true) : (flat (restMv x y)).length < y.prs.length ∧ (restMv x y).length ≤ 1 := by
  have h := congrArg List.length (join_prs hj hx.len hy.len)
  have ht := taken_range (x := x) hy.len
  have hxl := hx.len
  have hyl := hy.len
  rw [List.length_append, List.length_append, prs_length, prs_length, prs_length] at h
  have e : (joinMv x y).len = x.len + takenI x y := rfl
  rw [e] at h
  refine ⟨by rw [prs_length]; omega, ?_⟩
  unfold restMv
  split <;> simp
theorem greedy_few : ∀ (n : Nat) (x : Mv) (l : List Mv), x.Good → (x.len = 1 → x.turned = false) → (∀ y ∈ l, y.Good) → (flat l).length ≤ n → (greedy (x.prs ++ flat l)).length ≤ 1 + l.length
  | _, x, [], hx, hn, _, _ => by
    rw [flat_nil, List.append_nil, greedy_lone hx.len hn]; simp
  | 0, x, y :: r, hx, hn, hg, h => by
    have := (hg y (by simp)).len
    rw [flat_cons, List.length_append, prs_length] at h
    omega
  | n + 1, x, y :: r, hx, hn, hg, h => by
    have hy := hg y (by simp)
    have hyl := hy.len
    rw [flat_cons] at h ⊢
    cases hj : joinB x y with
    | true =>
      have hr := rest_len hx hy hj
      rw [← List.append_assoc, ← join_prs hj hx.len hy.len, List.append_assoc, ← flat_append]
      obtain ⟨hjg, hj2⟩ := good_join hx hy hj
      have := greedy_few n (joinMv x y) (restMv x y ++ r) hjg (fun h1 => by omega) (fun z hz => by
        rcases List.mem_append.1 hz with hz | hz
        · exact rest_good hy z hz
        · exact hg z (by simp [hz])) (by rw [flat_append, List.length_append]; rw [List.length_append] at h; omega)
      rw [List.length_append] at this
      simp only [List.length_cons]
      omega
    | false =>
      rw [greedy_stop hx.len hn hyl hj, ← nrm_prs hyl]
      have hyn : y.nrm.Good := ⟨hy.line, hy.other, hy.fr, hy.len, hy.to, hy.frl, hy.tol⟩
      have := greedy_few n y.nrm r hyn (fun h1 => by
        show (y.turned && decide (1 < y.len)) = false
        have h1 : y.len = 1 := h1
        rw [h1]; simp) (fun z hz => hg z (by simp [hz])) (by rw [List.length_append, prs_length] at h; omega)
      simp only [List.length_cons]
      omega
theorem greedy_len {l : List Mv} (h : ∀ y ∈ l, y.Good) : (greedy (flat l)).length ≤ l.length := by
  cases l with
  | nil => simp [flat_nil, greedy_nil]
  | cons y r =>
    have hy := h y (by simp)
    have hyn : y.nrm.Good := ⟨hy.line, hy.other, hy.fr, hy.len, hy.to, hy.frl, hy.tol⟩
    have := greedy_few _ y.nrm r hyn (fun h1 => by
      show (y.turned && decide (1 < y.len)) = false
      have h1 : y.len = 1 := h1
      rw [h1]; simp) (fun z hz => h z (by simp [hz])) (Nat.le_refl _)
    rw [flat_cons, ← nrm_prs hy.len, List.length_cons]
    omega
/-! ### It is a valid map -/
def Pr.ok (p : Pr) : Prop := nameB p.a = true ∧ nameB p.b = true ∧ 0 ≤ p.i ∧ p.i < 800000 ∧ 0 ≤ p.j ∧ p.j < 800000
structure FairP (L : List Pr) : Prop where
  asc : Asc L
  swap : (L.map Pr.swap).Pairwise Pr.differ
  ok : ∀ p ∈ L, p.ok
theorem pr_ok {x : Mv} (h : x.Good) {p : Pr} (hp : p ∈ x.prs) : p.ok := by
  obtain ⟨k, hk, rfl⟩ := mem_prs.1 hp
  have := h.fr; have := h.len; have := h.to; have := h.frl; have := h.tol
  refine ⟨h.line, h.other, ?_, ?_, ?_, ?_⟩
  · show 0 ≤ x.fr + (k : Int); omega
  · show x.fr + (k : Int) < _; omega
  · show 0 ≤ x.dst k; unfold Mv.dst; split <;> omega
  · show x.dst k < _; unfold Mv.dst; split <;> omega
theorem good_of_prs {x : Mv} (hl : 1 ≤ x.len) (h : ∀ p ∈ x.prs, p.ok) : x.Good := by
  have h0 := h (x.pr 0) (mem_prs.2 ⟨0, by omega, rfl⟩)
  have h1 := h (x.pr (x.len - 1).toNat) (mem_prs.2 ⟨_, by omega, rfl⟩)
  obtain ⟨a1, a2, a3, a4, a5, a6⟩ := h0
  obtain ⟨_, _, b3, b4, b5, b6⟩ := h1
  have a3 : 0 ≤ x.fr + ((0 : Nat) : Int) := a3
  have b4 : x.fr + (((x.len - 1).toNat : Nat) : Int) < 800000 := b4
  have a5 : 0 ≤ x.dst ((0 : Nat) : Int) := a5
  have a6 : x.dst ((0 : Nat) : Int) < 800000 := a6
  have b5 : 0 ≤ x.dst (((x.len - 1).toNat : Nat) : Int) := b5
  have b6 : x.dst (((x.len - 1).toNat : Nat) : Int) < 800000 := b6
  unfold Mv.dst at a5 a6 b5 b6
  refine ⟨a1, a2, by omega, hl, ?_, by omega, ?_⟩
  · split at a5 <;> rename_i ht <;> simp only [ht, if_true, Bool.false_eq_true, if_false] at b5 <;> omega
  · split at a6 <;> rename_i ht <;> simp only [ht, if_true, Bool.false_eq_true, if_false] at b6 <;> omega
theorem ahead_of_asc : ∀ {g : List Mv}, (∀ x ∈ g, 1 ≤ x.len) → Asc (flat g) → g.Pairwise Mv.ahead
  | [], _, _ => List.Pairwise.nil
  | x :: r, hl, h => by
    rw [flat_cons] at h
    unfold Asc at h
    rw [List.pairwise_append] at h
    rw [List.pairwise_cons]
    refine ⟨fun y hy => ?_, ahead_of_asc (fun z hz => hl z (by simp [hz])) h.2.1⟩
    have hx1 := hl x (by simp)
    have hy1 := hl y (by simp [hy])
    have := h.2.2 (x.pr (x.len - 1).toNat) (mem_prs.2 ⟨_, by omega, rfl⟩) (y.pr 0) (mem_flat.2 ⟨y, hy, 0, by omega, rfl⟩)
    unfold Pr.lt Mv.pr at this
    rw [plt_iff] at this
    unfold Mv.ahead
    rcases this with h1 | ⟨h1, h2⟩
    · exact .inl h1
    · refine .inr ⟨h1, ?_⟩
      simp only [] at h2
      omega
theorem tapart_of : ∀ {g : List Mv}, (∀ x ∈ g, 1 ≤ x.len) → ((flat g).map Pr.swap).Pairwise Pr.differ → g.Pairwise Mv.tapart
  | [], _, _ => List.Pairwise.nil
  | x :: r, hl, h => by
    rw [flat_cons, List.map_append, List.pairwise_append] at h
    rw [List.pairwise_cons]
    refine ⟨fun y hy => ?_, tapart_of (fun z hz => hl z (by simp [hz])) h.2.1⟩
    have hx1 := hl x (by simp)
    have hy1 := hl y (by simp [hy])
    refine no_share (z := undoMv x) (w := undoMv y) hx1 hy1 fun p q hp hq => ?_
    rw [mem_undo] at hp hq
    have hq' : q.swap ∈ flat r := by
      unfold flat
      exact List.mem_flatMap.2 ⟨y, hy, hq⟩
    exact h.2.2 p (List.mem_map.2 ⟨_, hp, rfl⟩) q (List.mem_map.2 ⟨_, hq', rfl⟩)
theorem order_no {l x : Mv} (hl : l.Good) (h : l.ahead x) : orderB l x = false := by
  unfold orderB
  rw [hl.end_]
  rcases h with h | ⟨h1, h2⟩
  · have a : strLt x.line l.line = false := by
      cases c : strLt x.line l.line with
      | false => rfl
      | true =>
        have := strLt_trans h c
        rw [strLt_irrefl] at this; cases this
    have b : beqL x.line l.line = false := by
      cases c : beqL x.line l.line with
      | false => rfl
      | true =>
        rw [(beqL_iff _ _).1 c, strLt_irrefl] at h; cases h
    rw [a, b]; rfl
  · rw [h1, strLt_irrefl]
    have : decide (x.fr < l.fr + l.len) = false := by rw [decide_eq_false_iff_not]; omega
    rw [this]; simp
theorem over_no {a b : Mv} (ha : a.Good) (hb : b.Good) (h : a.tapart b) : overB a b = false := by
  cases c : overB a b with
  | false => rfl
  | true =>
    exfalso
    unfold overB at c
    rw [ha.till, hb.till] at c
    simp only [Bool.and_eq_true, decide_eq_true_eq, beqL_iff] at c
    rcases h with h | h | h
    · exact h c.1.1
    · omega
    · omega
theorem firstI_all {l : List Int} (h : ∀ x ∈ l, x = 0) : firstI l = 0 := by
  induction l with
  | nil => rfl
  | cons x r ih => rw [firstI_cons, h x (by simp), if_pos rfl]; exact ih fun y hy => h y (by simp [hy])
theorem range_in {n a b : Int} (h0 : a ≤ n) (h1 : n ≤ b) : rangeI n a b = 0 := by
  unfold rangeI whenI
  have a : ¬ (n < a) := by omega
  have b : ¬ (b < n) := by omega
  simp [a, b]
theorem order_before {m : List Mv} {i : Nat} {x : Mv} : (∀ j l, i = j + 1 → m[j]? = some l → orderB l x = false) → (match i with | 0 => false | j + 1 => match m[j]? with | none => false | some l => orderB l x) = false := by
  intro h
  cases i with
  | zero => rfl
  | succ j =>
    simp only []
    cases hm : m[j]? with
    | none => rfl
    | some l => exact h j l rfl hm
theorem map_of {m : List Mv} (hl : m.length ≤ 24) (hg : ∀ x ∈ m, x.Good) (ha : m.Pairwise Mv.ahead) (ht : m.Pairwise Mv.tapart) : mapR m = 0 := by
  unfold mapR
  rw [if_neg (by omega)]
  unfold allR
  refine firstI_all fun e he => ?_
  obtain ⟨i, hi, rfl⟩ := List.mem_map.1 he
  have hi : i < m.length := List.mem_range.1 hi
  have hx := List.getElem?_eq_getElem hi
  have gx := hg _ (List.getElem_mem hi)
  rw [List.pairwise_iff_getElem] at ha ht
  unfold mvR
  rw [hx]
  simp only []
  have h1 : firstI [whenI (!nameB m[i].line) 8, whenI (!nameB m[i].other) 8, rangeI m[i].fr 0 800000, rangeI m[i].len 1 800000, rangeI m[i].to 0 800000] = 0 := by
    have := gx.fr; have := gx.len; have := gx.to; have := gx.frl; have := gx.tol
    rw [gx.line, gx.other, range_in (by omega) (by omega), range_in (by omega) (by omega), range_in (by omega) (by omega)]
    rfl
  have h2 : (decide (800000 < endI m[i]) || decide (800000 < wrapq .i64 (Int.add m[i].to m[i].len))) = false := by
    rw [gx.end_, gx.till]
    have := gx.frl; have := gx.tol
    simp only [Bool.or_eq_false_iff, decide_eq_false_iff_not]
    omega
  have h3 := order_before (m := m) (i := i) (x := m[i]) fun j l hij hl => by
    obtain ⟨hj, rfl⟩ := List.getElem?_eq_some_iff.1 hl
    exact order_no (hg _ (List.getElem_mem hj)) (ha j i hj hi (by omega))
  have h4 : (m.take i).any (fun y => overB y m[i]) = false := by
    rw [List.any_eq_false]
    intro y hy
    obtain ⟨j, hj⟩ := List.mem_iff_getElem?.1 hy
    rw [List.getElem?_take] at hj
    split at hj
    · rename_i hji
      have hjl : j < m.length := by omega
      rw [List.getElem?_eq_getElem hjl] at hj
      cases hj
      rw [over_no (hg _ (List.getElem_mem hjl)) gx (ht j i hjl hi hji)]
      simp
    · cases hj
  rw [if_pos h1, h2, if_neg (by simp)]
  refine Eq.trans (if_neg fun c => ?_) ?_
  · exact absurd (h3.symm.trans c) (by simp)
  · rw [h4, if_neg (by simp)]
theorem greedy_valid {L : List Pr} (h : FairP L) (hl : (greedy L).length ≤ 24) : mapR (greedy L) = 0 := by
  have hp := greedy_pos L.length L (Nat.le_refl _)
  have hf := flat_of_greedy L
  refine map_of hl (fun x hx => good_of_prs (hp x hx) fun p hpx => h.ok p ?_) (ahead_of_asc hp (by rw [hf]; exact h.asc)) (tapart_of hp (by rw [hf]; exact h.swap))
  rw [← hf]
  unfold flat
  exact List.mem_flatMap.2 ⟨x, hx, hpx⟩
/-! ### What maps carry -/
theorem car_flat {m : List Mv} (h : Fair m) {p q : Pl} : carO m p = some q ↔ (⟨p.1, p.2, q.1, q.2⟩ : Pr) ∈ flat m := by
  rw [carO_iff h, mem_flat]
  obtain ⟨s, k⟩ := p
  obtain ⟨t, j⟩ := q
  constructor
  · rintro ⟨x, hx, rfl, h2, h3, h4⟩
    simp only at h2 h3 h4
    obtain ⟨rfl, rfl⟩ := Prod.mk.inj h4
    refine ⟨x, hx, (k - x.fr).toNat, by omega, ?_⟩
    have e : (((k - x.fr).toNat : Nat) : Int) = k - x.fr := by omega
    unfold Mv.pr
    rw [e]
    congr 1
    show k = x.fr + (k - x.fr)
    omega
  · rintro ⟨x, hx, i, hi, he⟩
    unfold Mv.pr at he
    simp only [Pr.mk.injEq] at he
    obtain ⟨rfl, rfl, rfl, rfl⟩ := he
    refine ⟨x, hx, rfl, by show x.fr ≤ x.fr + (i : Int); omega, by show x.fr + (i : Int) < _; omega, ?_⟩
    have e : x.fr + (i : Int) - x.fr = i := by omega
    show _ = (x.other, x.dst (x.fr + (i : Int) - x.fr))
    rw [e]
theorem fairP_of {m : List Mv} (h : Fair m) : FairP (isort prLt (flat m)) where
  asc := prsort_asc (flat_differ h.src)
  swap := (List.Perm.pairwise_iff (fun h => Pr.differ_symm h) ((isort_perm prLt (flat m)).map _)).2 (flat_swap_differ h.dst)
  ok := fun p hp => by
    rw [(isort_perm prLt (flat m)).mem_iff] at hp
    unfold flat at hp
    obtain ⟨x, hx, hp⟩ := List.mem_flatMap.1 hp
    exact pr_ok (h.good x hx) hp
end Go.Sim

/-
The plain law of maps that undo maps, and of composed ones.
-/
namespace Go.Sim
open Go
theorem asc_sorted {L : List Pr} (h : Asc L) : isort prLt L = L :=
  asc_unique (prsort_asc (h.imp fun h => lt_differ h)) h fun _ => (isort_perm prLt L).mem_iff
theorem FairP.inj {L : List Pr} (h : FairP L) {p q : Pr} (hp : p ∈ L) (hq : q ∈ L) (h1 : p.a = q.a) (h2 : p.i = q.i) : p = q := by
  have key : ∀ {L : List Pr}, Asc L → ∀ {p q : Pr}, p ∈ L → q ∈ L → p.a = q.a → p.i = q.i → p = q := by
    intro L
    induction L with
    | nil => intro _ p q hp; cases hp
    | cons x r ih =>
      intro ha p q hp hq e1 e2
      unfold Asc at ha
      rw [List.pairwise_cons] at ha
      rcases List.mem_cons.1 hp with rfl | hp' <;> rcases List.mem_cons.1 hq with rfl | hq'
      · rfl
      · exact absurd ⟨e1, e2⟩ (lt_differ (ha.1 q hq'))
      · exact absurd ⟨e1.symm, e2.symm⟩ (lt_differ (ha.1 p hp'))
      · exact ih ha.2 hp' hq' e1 e2
  exact key h.asc hp hq h1 h2
theorem thenP_fair {L : List Pr} {b : List Mv} (h : FairP L) (hb : Fair b) : FairP (L.filterMap (thenP b)) where
  asc := by
    have hasc := h.asc
    unfold Asc at hasc ⊢
    rw [List.pairwise_filterMap]
    refine hasc.imp fun {p q} h z hz w hw => ?_
    obtain ⟨_, _, rfl⟩ := thenP_some.1 hz
    obtain ⟨_, _, rfl⟩ := thenP_some.1 hw
    exact h
  swap := by
    have hs := h.swap
    rw [List.pairwise_map] at hs ⊢
    rw [List.pairwise_filterMap]
    refine hs.imp fun {p q} h z hz w hw => ?_
    obtain ⟨u, c1, rfl⟩ := thenP_some.1 hz
    obtain ⟨v, c2, rfl⟩ := thenP_some.1 hw
    rintro ⟨e1, e2⟩
    have e : u = v := Prod.ext e1 e2
    subst e
    rw [carO_inv hb] at c1 c2
    rw [c1] at c2
    have := Option.some.inj c2
    exact h ⟨(Prod.mk.inj this).1, (Prod.mk.inj this).2⟩
  ok := fun p hp => by
    obtain ⟨q, hq, h1⟩ := List.mem_filterMap.1 hp
    obtain ⟨r, hr, rfl⟩ := thenP_some.1 h1
    have h2 := (car_flat hb).1 hr
    unfold flat at h2
    obtain ⟨x, hx, h2⟩ := List.mem_flatMap.1 h2
    have o1 := h.ok q hq
    have o2 := pr_ok (hb.good x hx) h2
    exact ⟨o1.1, o2.2.1, o1.2.2.1, o1.2.2.2.1, o2.2.2.2.2⟩
/-! ### The four maps -/
def pairsOf (a : List Mv) : List Pr := isort prLt (flat a)
def shortM' (a : List Mv) : List Mv := greedy (flat (isort cmpLt a))
def undoM (a : List Mv) : List Mv := greedy (flat (isort cmpLt (a.map undoMv)))
def compM (a b : List Mv) : List Mv := greedy (flat (isort cmpLt (compL a b)))
theorem isort_good {m : List Mv} (h : ∀ x ∈ m, x.Good) : ∀ x ∈ isort cmpLt m, x.Good := fun x hx => h x ((isort_perm cmpLt m).mem_iff.1 hx)
theorem shortM_len {a : List Mv} (ha : ∀ x ∈ a, x.Good) : (shortM' a).length ≤ a.length := by
  have := greedy_len (isort_good ha)
  rw [isort_length] at this
  exact this
theorem flat_shortM {a : List Mv} (ha : Fair a) : flat (shortM' a) = pairsOf a := by
  unfold shortM' pairsOf
  rw [flat_of_greedy, flat_sort (fun x hx => (ha.good x hx).len) ha.src]
theorem flat_undoM {a : List Mv} (ha : Fair a) : flat (undoM a) = isort prLt ((pairsOf a).map Pr.swap) := by
  unfold undoM pairsOf
  rw [flat_of_greedy, undo_sort ha]
theorem flat_compM {a b : List Mv} (ha : Fair a) (hb : Fair b) : flat (compM a b) = (pairsOf a).filterMap (thenP b) := by
  unfold compM pairsOf
  rw [flat_of_greedy, comp_sort ha hb]
theorem undoM_eq (a : List Mv) : undoM a = shortM' (a.map undoMv) := rfl
theorem shortM_valid {a : List Mv} (ha : Fair a) (hl : a.length ≤ 24) : mapR (shortM' a) = 0 := by
  have h : shortM' a = greedy (pairsOf a) := by
    unfold shortM' pairsOf
    rw [flat_sort (fun x hx => (ha.good x hx).len) ha.src]
  have hn := shortM_len ha.good
  rw [h] at hn ⊢
  exact greedy_valid (fairP_of ha) (by omega)
theorem undoM_len {a : List Mv} (ha : Fair a) : (undoM a).length ≤ a.length := by
  have := shortM_len ha.undo.good
  rw [List.length_map] at this
  exact this
theorem undoM_valid {a : List Mv} (ha : Fair a) (hl : a.length ≤ 24) : mapR (undoM a) = 0 := shortM_valid ha.undo (by rw [List.length_map]; exact hl)
theorem compM_len {a b : List Mv} (ha : Fair a) (hb : Fair b) : (compM a b).length ≤ a.length + b.length := by
  have := shortM_len (compL_good ha hb)
  have := compL_len ha hb
  unfold compM
  unfold shortM' at *
  omega
theorem compM_valid {a b : List Mv} (ha : Fair a) (hb : Fair b) (hl : a.length + b.length ≤ 24) : mapR (compM a b) = 0 := by
  have hn := compM_len ha hb
  have h : compM a b = greedy ((pairsOf a).filterMap (thenP b)) := by
    unfold compM pairsOf
    rw [comp_sort ha hb]
  rw [h] at hn ⊢
  exact greedy_valid (thenP_fair (fairP_of ha) hb) (by omega)
theorem undo_twice {a : List Mv} (ha : Fair a) (hl : a.length ≤ 24) : undoM (undoM a) = shortM' a := by
  have hu := fair_of (undoM_valid ha hl)
  have hF := fairP_of ha
  have hU := fairP_of ha.undo
  have e1 : isort prLt ((pairsOf a).map Pr.swap) = pairsOf (a.map undoMv) := by
    rw [← flat_undoM ha, undoM_eq, flat_shortM ha.undo]
  have e2 : pairsOf (undoM a) = pairsOf (a.map undoMv) := by
    show isort prLt (flat (undoM a)) = _
    rw [flat_undoM ha, e1]
    exact asc_sorted hU.asc
  have e3 : isort prLt ((pairsOf (undoM a)).map Pr.swap) = pairsOf a := by
    rw [e2, ← e1]
    refine asc_unique (prsort_asc ?_) hF.asc fun p => ?_
    · have hp : List.Perm ((isort prLt ((pairsOf a).map Pr.swap)).map Pr.swap) (pairsOf a) := by
        have := (isort_perm prLt ((pairsOf a).map Pr.swap)).map Pr.swap
        rw [List.map_map] at this
        have h : (Pr.swap ∘ Pr.swap) = id := rfl
        rw [h, List.map_id] at this
        exact this
      exact (List.Perm.pairwise_iff (fun h => Pr.differ_symm h) hp).2 (hF.asc.imp fun h => lt_differ h)
    · rw [(isort_perm prLt _).mem_iff]
      constructor
      · intro hq
        obtain ⟨q, hq1, rfl⟩ := List.mem_map.1 hq
        rw [(isort_perm prLt _).mem_iff] at hq1
        obtain ⟨r, hr, rfl⟩ := List.mem_map.1 hq1
        exact hr
      · intro hq
        exact List.mem_map.2 ⟨p.swap, (isort_perm prLt _).mem_iff.2 (List.mem_map.2 ⟨p, hq, rfl⟩), rfl⟩
  have h := undo_sort hu
  have e4 : flat (isort cmpLt ((undoM a).map undoMv)) = pairsOf a := by rw [h]; exact e3
  have e5 : flat (isort cmpLt a) = pairsOf a := flat_sort (fun x hx => (ha.good x hx).len) ha.src
  show greedy (flat (isort cmpLt ((undoM a).map undoMv))) = greedy (flat (isort cmpLt a))
  rw [e4, e5]
/-! ### What they carry -/
def sumL (m : List Mv) : Int := (m.map Mv.len).sum
theorem flat_len : ∀ {m : List Mv}, (∀ x ∈ m, 0 ≤ x.len) → ((flat m).length : Int) = sumL m
  | [], _ => rfl
  | x :: r, h => by
    have := flat_len (m := r) fun y hy => h y (by simp [hy])
    have hx := h x (by simp)
    unfold sumL at *
    rw [flat_cons, List.length_append, prs_length, List.map_cons, List.sum_cons]
    omega
theorem short_sum {a : List Mv} (ha : Fair a) (hl : a.length ≤ 24) : sumL (shortM' a) = sumL a := by
  have h1 := flat_len (m := shortM' a) fun x hx => by have := (map_good (shortM_valid ha hl) hx).len; omega
  have h2 := flat_len (m := a) fun x hx => by have := (ha.good x hx).len; omega
  rw [flat_shortM ha] at h1
  unfold pairsOf at h1
  rw [isort_length] at h1
  omega
theorem undo_sum {a : List Mv} (ha : Fair a) (hl : a.length ≤ 24) : sumL (undoM a) = sumL a := by
  rw [undoM_eq, short_sum ha.undo (by rw [List.length_map]; exact hl)]
  unfold sumL
  rw [List.map_map]
  rfl
theorem comp_sum {a b : List Mv} (ha : Fair a) (hb : Fair b) (hl : a.length + b.length ≤ 24) : sumL (compM a b) ≤ sumL a := by
  have h1 := flat_len (m := compM a b) fun x hx => by have := (map_good (compM_valid ha hb hl) hx).len; omega
  have h2 := flat_len (m := a) fun x hx => by have := (ha.good x hx).len; omega
  rw [flat_compM ha hb] at h1
  have h3 := List.length_filterMap_le (thenP b) (pairsOf a)
  unfold pairsOf at h1 h3
  rw [isort_length] at h3
  omega
theorem len_sum {m : List Mv} (h : ∀ x ∈ m, 0 ≤ x.len) : ∀ {x : Mv}, x ∈ m → x.len ≤ sumL m := by
  induction m with
  | nil => intro x hx; cases hx
  | cons y r ih =>
    intro x hx
    have hr : 0 ≤ sumL r := by
      have := flat_len (m := r) fun z hz => h z (by simp [hz])
      omega
    have hy := h y (by simp)
    have e : sumL (y :: r) = y.len + sumL r := by unfold sumL; rw [List.map_cons, List.sum_cons]
    rcases List.mem_cons.1 hx with rfl | hx
    · omega
    · have := ih (fun z hz => h z (by simp [hz])) hx
      omega
end Go.Sim

/-
Short forms, by the program.
-/
namespace Go.Sim
open Go Go.Proofs
set_option maxRecDepth 100000
set_option maxHeartbeats 16000000
variable {P : FuncId → Option (List AV → Option AV)}
/-! ### A slice of moves that is read -/
def Rd (H : Heap) (v : AV) (l : List Mv) : Prop := (∃ t, v = .ps t (l.map Mv.row)) ∨ ∃ id off pre, v = .rs id off l.length 6 none ∧ l ≠ [] ∧ id < H.n ∧ H.get id = .row (pre ++ mvF l) 6 130 ∧ off = pre.length
theorem mvF_cons (y : Mv) (r : List Mv) : mvF (y :: r) = y.row ++ mvF r := by simp [mvF]
theorem mvF_len (l : List Mv) : (mvF l).length = l.length * 6 := by
  unfold mvF
  rw [fl_len (Even.map Mv.row_len l), List.length_map]
theorem mvF_ne {l : List Mv} (h : l ≠ []) (pre : List AV) : pre ++ mvF l ≠ [] := by
  cases l with
  | nil => exact absurd rfl h
  | cons y r => rw [mvF_cons]; unfold Mv.row; simp
def Keeps (H H' : Heap) : Prop := H.n ≤ H'.n ∧ ∀ i cs, i < H.n → cs ≠ [] → H.get i = .row cs 6 130 → H'.get i = .row cs 6 130
theorem Rd.keep {H H' : Heap} {v : AV} {l : List Mv} (h : Rd H v l) (hk : Keeps H H') : Rd H' v l := by
  rcases h with h | ⟨id, off, pre, h1, h2, h3, h4, h5⟩
  · exact .inl h
  · exact .inr ⟨id, off, pre, h1, h2, by have := hk.1; omega, hk.2 id _ h3 (mvF_ne h2 pre) h4, h5⟩
theorem Keeps.refl (H : Heap) : Keeps H H := ⟨Nat.le_refl _, fun _ _ _ _ h => h⟩
theorem Keeps.push {H H' : Heap} (h : Keeps H H') (b : ABlk) : Keeps H (H'.push b) := ⟨by rw [hn_push]; have := h.1; omega, fun i cs hi hc hr => by
  rw [Heap.get_push, if_neg (by have := h.1; omega)]; exact h.2 i cs hi hc hr⟩
theorem Keeps.set {H H' : Heap} (h : Keeps H H') {j : Nat} (b : ABlk) (hj : H.n ≤ j ∨ ∃ cs e, H'.get j = .cells cs e) : Keeps H (H'.set j b) := ⟨by rw [hn_set]; exact h.1, fun i cs hi hc hr => by
  have h1 := h.2 i cs hi hc hr
  have hne : i ≠ j := by
    rintro rfl
    rcases hj with hj | ⟨c, e, hj⟩
    · omega
    · rw [h1] at hj; cases hj
  rw [Heap.get_set, if_neg hne]; exact h1⟩
theorem Keeps.trans {H H1 H2 : Heap} (h : Keeps H H1) (h2 : Keeps H1 H2) : Keeps H H2 := ⟨Nat.le_trans h.1 h2.1, fun i cs hi hc hr => h2.2 i cs (by have := h.1; omega) hc (h.2 i cs hi hc hr)⟩
theorem app_mv {H : Heap} {t : Tok} {l : List Mv} (h : App H t (l.map Mv.row) 6 130) (x : Mv) (h1 : l.length + 1 ≤ maxRows) :
    ∃ t' H', appP 0 H 6 130 (.ps t (l.map Mv.row)) [x.row] = some (.ps t' ((l ++ [x]).map Mv.row), H') ∧ App H' t' ((l ++ [x]).map Mv.row) 6 130 ∧ Keeps H H' ∧ ∀ i c u, i < H.n → H.get i = .cells c u → H'.get i = .cells c u := by
  have hs : x.row.map AV.strip0 = x.row := rfl
  have hm : (l ++ [x]).map Mv.row = l.map Mv.row ++ [x.row] := by simp
  rw [hm]
  rcases h with ⟨rfl, h⟩ | ⟨j, rfl, h6, h7, h8⟩
  · rw [h]
    refine ⟨.tok H.n, H.push (.row [] 6 130), ?_, .inr ⟨H.n, rfl, by simp, by simp, by rw [Heap.get_push, if_pos rfl]⟩, (Keeps.refl H).push _, fun i c u hi hc => ?_⟩
    · rw [app_first (by simp) (by show 1 ≤ 1073741824; decide) (by rfl) (by decide)]; rfl
    · rw [Heap.get_push, if_neg (by omega)]; exact hc
  · refine ⟨.tok H.n, (H.set j .dead).push (.row [] 6 130), ?_, .inr ⟨H.n, rfl, by simp, by simp, by rw [Heap.get_push, if_pos (by simp)]⟩, ⟨by simp, fun i cs hi hc hr => ?_⟩, fun i c u hi hc => ?_⟩
    · rw [app_next (by simp) (by simpa using h1) (by rfl) (by decide) (rows_all Mv.row_len _) h8 (Nat.zero_le _) h6]; rfl
    · have hne : i ≠ j := by
        rintro rfl
        rw [h8] at hr
        have := (ABlk.row.inj hr).1
        exact hc this.symm
      rw [Heap.get_push, if_neg (by simp; omega), Heap.get_set, if_neg hne]; exact hr
    · have hne : i ≠ j := by
        rintro rfl
        rw [h8] at hc; cases hc
      rw [Heap.get_push, if_neg (by simp; omega), Heap.get_set, if_neg hne]; exact hc
theorem cells_tail {pre : List AV} {y : Mv} {r : List Mv} : ∃ cs, pre ++ mvF (y :: r) = cs ∧ (pre.length + 6 ≤ cs.length) = True ∧ (cs.drop pre.length).take 6 = y.row ∧ (pre.length + 6 + r.length * 6 ≤ cs.length) = True ∧ (cs.drop (pre.length + 6)).take (r.length * 6) = mvF r ∧ cs = (pre ++ y.row) ++ mvF r := by
  refine ⟨_, rfl, ?_, ?_, ?_, ?_, ?_⟩
  · simp [mvF_cons, Mv.row]
  · rw [List.drop_left, mvF_cons]; rfl
  · simp [mvF_cons, Mv.row, mvF_len]; omega
  · have e : pre.length + 6 = (pre ++ y.row).length := by simp [Mv.row]
    rw [mvF_cons, ← List.append_assoc, e, List.drop_left, ← mvF_len, List.take_length]
  · rw [mvF_cons, List.append_assoc]
theorem rs_tail (id off n : Nat) : aslice NC.P 83 (.rs id off (n + 1) 6 none) (some (.int .i64 1)) none none = some (if n = 0 then .ps .unk [] else .rs id (off + 6) n 6 none) := by
  unfold aslice
  simp only [un_83, sz_130, boundOf]
  have h1 : natOf (n + 1 + 1) (.int .i64 1) = some 1 := by rw [natOf_1, if_pos (by omega)]
  simp only [h1]
  by_cases h : n = 0
  · subst h; rfl
  · have : ¬ (1 = n + 1) := by omega
    simp [this, h]
theorem ps_tail (t : Tok) (y : Mv) (r : List Mv) : ∃ u, aslice NC.P 83 (.ps t (y.row :: r.map Mv.row)) (some (.int .i64 1)) none none = some (.ps u (r.map Mv.row)) := by
  unfold aslice
  have hall := rows_all Mv.row_len (y :: r)
  rw [List.map_cons] at hall
  simp only [un_83, sz_130, hall, if_true]
  have h1 : ∀ m : Nat, natOf (m + 1 + 1) (.int .i64 1) = some 1 := fun m => by rw [natOf_1, if_pos (by omega)]
  simp only [asliceRows, boundOf, List.length_cons, h1, List.take_length, List.drop_succ_cons, List.drop_zero]
  have : List.take ((r.map Mv.row).length + 1) (y.row :: r.map Mv.row) = y.row :: r.map Mv.row := by
    rw [List.take_of_length_le (by simp)]
  rw [this]
  exact ⟨_, rfl⟩
theorem Rd.cons {H : Heap} {v : AV} {y : Mv} {r : List Mv} (h : Rd H v (y :: r)) :
    ∃ a, alen NC.P H 83 v = some (.int .i64 ((r.length + 1 : Nat) : Int)) ∧ aindexAddr NC.P 83 v (.int .i64 0) = some a ∧ aload NC.P H 130 a = some (.agg y.row) ∧
      ∃ v', aslice NC.P 83 v (some (.int .i64 1)) none none = some v' ∧ Rd H v' r := by
  rcases h with ⟨t, rfl⟩ | ⟨id, off, pre, rfl, h2, h3, h4, rfl⟩
  · obtain ⟨u, hu⟩ := ps_tail t y r
    refine ⟨.pptr y.row, ?_, ?_, ?_, .ps u (r.map Mv.row), by rw [List.map_cons]; exact hu, .inl ⟨u, rfl⟩⟩
    · unfold alen
      simp only [un_83, List.length_map, List.length_cons]
    · unfold aindexAddr
      have h0 : natOf ((r.length + 1)) (.int .i64 0) = some 0 := by rw [natOf_0, if_pos (by omega)]
      simp only [un_83, List.map_cons, List.length_cons, List.length_map, h0, List.getElem?_cons_zero, sz_130, Mv.row_len, if_true]
    · unfold aload
      simp only [sz_130, ag_130, if_true, readCells, sub?]
      rfl
  · obtain ⟨cs, hcs, f1, f2, f3, f4, f5⟩ := cells_tail (pre := pre) (y := y) (r := r)
    rw [hcs] at h4
    have hs := rs_tail id pre.length r.length
    refine ⟨.ptr id pre.length, ?_, ?_, ?_, _, hs, ?_⟩
    · unfold alen
      simp only [un_83, List.length_cons]
    · unfold aindexAddr
      have h0 : natOf ((r.length + 1)) (.int .i64 0) = some 0 := by rw [natOf_0, if_pos (by omega)]
      simp only [un_83, List.length_cons, h0, sz_130, if_true, Nat.zero_mul, Nat.add_zero]
    · unfold aload
      simp only [sz_130, ag_130, if_true, readCells, h4, blkCells, sub?, f1, f2]
      rfl
    · by_cases hr : r.length = 0
      · rw [if_pos hr]
        have : r = [] := List.length_eq_zero_iff.1 hr
        subst this
        exact .inl ⟨_, rfl⟩
      · rw [if_neg hr]
        refine .inr ⟨id, _, pre ++ y.row, rfl, fun h => hr (by rw [h]; rfl), h3, ?_, ?_⟩
        · rw [h4, ← f5]
        · rw [List.length_append, Mv.row_len]
theorem app_front (z : Mv) (l : List Mv) (hl : l.length + 1 ≤ maxRows) (H : Heap) : ∃ u H', appP 0 H 6 130 (.ps .exact [z.row]) (l.map Mv.row) = some (.ps u ((z :: l).map Mv.row), H') ∧ (H' = H ∨ H' = H.push (.row [] 6 130)) := by
  cases l with
  | nil => exact ⟨.exact, H, rfl, .inl rfl⟩
  | cons y r =>
    refine ⟨.tok H.n, H.push (.row [] 6 130), ?_, .inr rfl⟩
    unfold appP
    have h1 : [z.row].length + ((y :: r).map Mv.row).length ≤ maxRows := by simp at hl ⊢; omega
    have h2 : ((y :: r).map Mv.row).all pureRow = true := by
      rw [List.all_eq_true]
      intro w hw
      obtain ⟨q, _, rfl⟩ := List.mem_map.1 hw
      rfl
    have h3 : [z.row].all (fun r => decide (r.length = 6)) = true := by rfl
    have h4 : ((y :: r).map Mv.row).map (List.map AV.strip0) = (y :: r).map Mv.row := by
      rw [List.map_map]
      exact List.map_congr_left fun q _ => rfl
    simp only [List.map_cons] at h1 h2 h4 ⊢
    simp only [h1, h2, h3, h4, decide_true, Bool.and_self, Bool.true_and, if_true]
    rfl
theorem Rd.rows {H : Heap} {v : AV} {l : List Mv} (h : Rd H v l) : rowsIn H 6 v = some (l.map Mv.row) := by
  rcases h with ⟨t, rfl⟩ | ⟨id, off, pre, rfl, h2, h3, h4, rfl⟩
  · show (if (l.map Mv.row).all (fun r => decide (r.length = 6)) = true then some (l.map Mv.row) else none) = _
    rw [if_pos (rows_all Mv.row_len _)]
  · unfold rowsIn
    have f1 : (pre.length + l.length * 6 ≤ (pre ++ mvF l).length) = True := by rw [List.length_append, mvF_len]; simp
    have f2 : ((pre ++ mvF l).drop pre.length).take (l.length * 6) = mvF l := by rw [List.drop_left, ← mvF_len, List.take_length]
    simp only [if_true, readCells, h4, blkCells, sub?, f1, f2]
    have := chunks_flat (Even.map Mv.row_len l)
    rw [List.length_map] at this
    exact this
end Go.Sim

/-
Short forms, by the program: the loops.
-/
namespace Go.Sim
open Go Go.Proofs
set_option maxRecDepth 100000
set_option maxHeartbeats 64000000
/-! ### Numbers of two moves -/
theorem dst_small {x : Mv} (h : x.Good) {k : Int} (h0 : 0 ≤ k) (h1 : k < x.len) : 0 ≤ x.dst k ∧ x.dst k < 800000 := by
  have := h.to; have := h.tol
  unfold Mv.dst
  split <;> omega
theorem step_vals {x y : Mv} (hx : x.Good) (hy : y.Good) : wrapq .i64 (Int.sub (atI y y.fr) (atI x (wrapq .i64 (Int.sub (endI x) 1)))) = stpI x y := by
  have := hx.fr; have := hx.len; have := hx.frl; have := hy.len
  have e1 : Int.sub (x.fr + x.len) 1 = x.fr + x.len - 1 := rfl
  have a1 : y.fr - y.fr = 0 := by omega
  have a2 : x.fr + x.len - 1 - x.fr = x.len - 1 := by omega
  rw [hx.end_, e1, wrap_small (x := x.fr + x.len - 1) (by omega) (by omega), atI_dst hy (q := y.fr) (by omega) (by omega), atI_dst hx (q := x.fr + x.len - 1) (by omega) (by omega), a1, a2]
  have d1 := dst_small hy (k := 0) (by omega) (by omega)
  have d2 := dst_small hx (k := x.len - 1) (by omega) (by omega)
  have e2 : Int.sub (y.dst 0) (x.dst (x.len - 1)) = y.dst 0 - x.dst (x.len - 1) := rfl
  rw [e2, wrap_small (by omega) (by omega)]; rfl
theorem join_vals {x y : Mv} (h : joinB x y = true) : beqL y.line x.line = true ∧ beqL y.other x.other = true ∧ y.fr = x.fr + x.len ∧ (stpI x y = 1 ∨ stpI x y = -1) ∧ (x.len ≤ 1 ∨ x.turned = decide (stpI x y < 0)) := by
  unfold joinB at h
  simp only [Bool.and_eq_true, Bool.or_eq_true, decide_eq_true_eq, Bool.not_eq_true', Bool.and_eq_false_iff, decide_eq_false_iff_not, bne_eq_false_iff_eq] at h
  obtain ⟨⟨⟨⟨h1, h2⟩, h3⟩, h4⟩, h5⟩ := h
  exact ⟨h1, h2, h3, h4, h5.imp (fun h => by omega) id⟩
theorem nojoin_vals {x y : Mv} (h : joinB x y = false) (h1 : beqL y.line x.line = true) (h2 : beqL y.other x.other = true) (h3 : y.fr = x.fr + x.len) :
    (stpI x y ≠ 1 ∧ stpI x y ≠ -1) ∨ (stpI x y = 1 ∧ 1 < x.len ∧ x.turned = true) ∨ (stpI x y = -1 ∧ 1 < x.len ∧ x.turned = false) := by
  unfold joinB at h
  rw [h1, h2] at h
  simp only [h3, decide_true, Bool.true_and, Bool.and_eq_false_iff, Bool.or_eq_false_iff, decide_eq_false_iff_not, Bool.not_eq_false', Bool.and_eq_true, decide_eq_true_eq, bne_iff_ne] at h
  rcases h with h | h
  · exact .inl h
  · by_cases c1 : stpI x y = 1
    · right; left
      refine ⟨c1, h.1, ?_⟩
      have := h.2
      rw [c1] at this
      cases ht : x.turned <;> simp [ht] at this ⊢
    · by_cases c2 : stpI x y = -1
      · right; right
        refine ⟨c2, h.1, ?_⟩
        have := h.2
        rw [c2] at this
        cases ht : x.turned <;> simp [ht] at this ⊢
      · exact .inl ⟨c1, c2⟩
theorem len_sum2 {x y : Mv} (hx : x.Good) (hy : y.Good) : wrapq .i64 (Int.add x.len (takenI x y)) = x.len + takenI x y := by
  have := hx.fr; have := hx.len; have := hx.frl; have := hy.fr; have := hy.frl
  have ht := taken_range (x := x) hy.len
  have e : Int.add x.len (takenI x y) = x.len + takenI x y := rfl
  rw [e, wrap_small (by omega) (by omega)]
theorem rest_vals {y : Mv} (hy : y.Good) : wrapq .i64 (Int.add y.fr 1) = y.fr + 1 ∧ wrapq .i64 (Int.sub y.len 1) = y.len - 1 := by
  have := hy.fr; have := hy.len; have := hy.frl
  have e1 : Int.add y.fr 1 = y.fr + 1 := rfl
  have e2 : Int.sub y.len 1 = y.len - 1 := rfl
  rw [e1, e2, wrap_small (x := y.fr + 1) (by omega) (by omega), wrap_small (x := y.len - 1) (by omega) (by omega)]
  exact ⟨rfl, rfl⟩
theorem nrm_good {x : Mv} (h : x.Good) : x.nrm.Good := ⟨h.line, h.other, h.fr, h.len, h.to, h.frl, h.tol⟩
theorem nrm_one (x : Mv) (h : x.nrm.len = 1) : x.nrm.turned = false := by
  have h : x.len = 1 := h
  show (x.turned && decide (1 < x.len)) = false
  rw [h]; simp
noncomputable def PPF135 : FuncId → Option (List AV → Option AV) := addPrim 187 p187 (addPrim 197 p197 (addPrim 198 p198 (addPrim 192 p192 (addPrim 128 p128 (fun _ => none)))))
theorem primsF135 : PrimsOk NC PPF135 := primsOk_add (primsOk_add (primsOk_add (primsOk_add (primsOk_add (primsOk_none) (by kernel_rfl) (by kernel_rfl) pok128) (by kernel_rfl) (by kernel_rfl) pok192) (by kernel_rfl) (by kernel_rfl) pok198) (by kernel_rfl) (by kernel_rfl) pok197) (by kernel_rfl) (by kernel_rfl) pok187
theorem enF135_128 : En PPF135 128 p128 := enter_prim (by rfl) (by kernel_rfl)
theorem enF135_192 : En PPF135 192 p192 := enter_prim (by rfl) (by kernel_rfl)
theorem enF135_198 : En PPF135 198 p198 := enter_prim (by rfl) (by kernel_rfl)
theorem enF135_197 : En PPF135 197 p197 := enter_prim (by rfl) (by kernel_rfl)
theorem enF135_187 : En PPF135 187 p187 := enter_prim (by rfl) (by kernel_rfl)
attribute [go_sem ↓] enF135_128 enF135_192 enF135_198 enF135_197 enF135_187
theorem c135p (m : List Mv) (hp : m.length ≤ 12 ∧ m ≠ [] ∧ ∀ x ∈ m, x.Good) : ∀ lo H, CallOk NC lo 135 [.ps .unk (m.map Mv.row)] H (.tup [.ps .unk ((shortM' m).map Mv.row), i64 0]) H := by
  refine contract saneNC primsF135 (fn := Tryz.f135) (by kernel_rfl) Tryz.func135 rfl rfl (by rfl) (by rfl) ?_
  obtain ⟨hl, hne, hg⟩ := hp
  have hG : shortM' m = greedy (flat (isort cmpLt m)) := rfl
  have hGl : (shortM' m).length ≤ 12 := by have := shortM_len hg; omega
  generalize shortM' m = G at hG hGl ⊢
  have hlo : (isort cmpLt m).length = m.length := isort_length cmpLt m
  have hgs : ∀ x ∈ isort cmpLt m, x.Good := isort_good hg
  have hnb : mayBeNil [.ps .unk (m.map Mv.row)] = false := by
    cases m with
    | nil => exact absurd rfl hne
    | cons x r => rfl
  have h195 : ∀ lo H, ∃ v H', R (NC.withPrims PPF135) (.call lo 195 [.ps .unk (m.map Mv.row)] H) = some (.ofVal v H') ∧ v = .rs H.n 0 m.length 6 none ∧ H' = H.push (.row (mvF m) 6 130) := by
    cases m with
    | nil => exact absurd rfl hne
    | cons x r => exact fun lo H => r195 x r hl lo H
  obtain ⟨v1, H1, h1, rfl, rfl⟩ := h195 0 .empty
  rw [empty_n] at h1
  obtain ⟨v2, H2, h2, rfl, h2r, h2n, -⟩ := r196 (P := PPF135) rfl rfl rfl rfl m hl 0 0 (Heap.empty.push (.row (mvF m) 6 130)) (Nat.le_refl _) (by rw [hn_push]; exact Nat.succ_pos _) (by rfl)
  rw [hn_push] at h2n
  simp only [go_sem, reduceIte, Nat.reduceEqDiff, Nat.reduceAdd, Nat.reduceMul, Nat.reduceSub, Nat.reduceLeDiff, Nat.reduceLT, Nat.reduceBEq, reduceCtorEq, en195 (show PPF135 195 = none from rfl) hnb, h1, ofVal_v, ofVal_H, en196 (show PPF135 196 = none from rfl), h2, empty_n]
  refine W_while (fun k T H M => M = [] ∧ ∃ v rest t done, getT T 4 = v ∧ Rd H v rest ∧ (∀ x ∈ rest, x.Good) ∧ getT T 5 = .ps t (done.map Mv.row) ∧ App H t (done.map Mv.row) 6 130 ∧ G = done ++ greedy (flat rest) ∧ k = (flat rest).length ∧ rest.length ≤ 12) ?_ (flat (isort cmpLt m)).length _ _ _ ?_
  case refine_2 =>
    simp only [go_sem, reduceIte, Nat.reduceEqDiff, Nat.reduceAdd, Nat.reduceMul, Nat.reduceSub, Nat.reduceLeDiff, Nat.reduceLT, Nat.reduceBEq, reduceCtorEq]
    refine ⟨_, isort cmpLt m, .nil, [], rfl, ?_, hgs, rfl, .inl ⟨rfl, rfl⟩, by rw [hG]; rfl, rfl, by omega⟩
    have hin : isort cmpLt m ≠ [] := by
      intro h; rw [h] at hlo; exact hne (List.length_eq_zero_iff.1 hlo.symm)
    refine .inr ⟨0, 0, [], by rw [hlo], hin, by rw [h2n]; exact Nat.succ_pos _, by rw [h2r]; rfl, rfl⟩
  case refine_1 =>
  rintro k T H M ⟨rfl, v, rest, t, done, g4, hR, hgr, g5, hA, hGd, rfl, hr12⟩
  cases rest with
  | nil =>
    have hd : G = done := by rw [hGd, flat_nil, greedy_nil, List.append_nil]
    subst hd
    have q1 : ((24 : Int) < (G.length : Int)) = False := by simp only [eq_iff_iff, iff_false]; omega
    have q0 : ((0 : Int) < 0) = False := by simp
    rcases hR with ⟨u, rfl⟩ | ⟨id, off, pre, _, h, _⟩
    · simp only [List.map_nil] at g4
      simp only [go_sem, reduceIte, Nat.reduceEqDiff, Nat.reduceAdd, Nat.reduceMul, Nat.reduceSub, Nat.reduceLeDiff, Nat.reduceLT, Nat.reduceBEq, reduceCtorEq, g4, g5, cast0, q0, List.length_map, q1]
    · exact absurd rfl h
  | cons y0 r =>
    -- where the inner loop leads to
    let Qm : AExit → TT AV → Heap → List Nat → Prop := fun e T H M => e = .ext 2 ∧ M = [] ∧ ∃ (c : Nat) (x : Mv) (v : AV) (rest : List Mv) (t : Tok) (done : List Mv), getT T 6 = .ptr c 0 ∧ c < H.n ∧ H.get c = .cells x.row 130 ∧ getT T 4 = v ∧ Rd H v rest ∧ (∀ x ∈ rest, x.Good) ∧ getT T 5 = .ps t (done.map Mv.row) ∧ App H t (done.map Mv.row) 6 130 ∧ G = done ++ x :: greedy (flat rest) ∧ (flat rest).length < (flat (y0 :: r)).length ∧ rest.length ≤ 12
    let J : Nat → TT AV → Heap → List Nat → Prop := fun k T H M => M = [] ∧ ∃ (c : Nat) (x : Mv) (v : AV) (rest : List Mv) (t : Tok) (done : List Mv), getT T 6 = .ptr c 0 ∧ c < H.n ∧ H.get c = .cells x.row 130 ∧ x.Good ∧ (x.len = 1 → x.turned = false) ∧ getT T 4 = v ∧ Rd H v rest ∧ (∀ x ∈ rest, x.Good) ∧ getT T 5 = .ps t (done.map Mv.row) ∧ App H t (done.map Mv.row) 6 130 ∧ G = done ++ greedy (x.prs ++ flat rest) ∧ k = (flat rest).length ∧ k < (flat (y0 :: r)).length ∧ rest.length ≤ 12
    have inner : ∀ k T H, J k T H [] → W (NC.withPrims PPF135) 0 135 false (.loop (digF [1,1,1,1,0,0,0, 1,0, 1,1,1,0, 0,0] Tryz.f135)) T H [] Qm := by
      refine fun k T H hJ => W_while J ?_ k T H [] hJ
      rintro k T H M ⟨rfl, c, x, v, rest, t, done, g6, hc, hx, gx, hx1, g4, hR, hgr, g5, hA, hGd, rfl, hlt, hr12⟩
      show W _ _ _ _ (Code.seq (Code.seq (Code.region 8 _ _) _) _) _ _ _ _
      clear hG hgs h195 h1 h2 h2r h2n
      cases rest with
      | nil =>
        have q0 : ((0 : Int) < 0) = False := by simp
        have hGx : G = done ++ x :: greedy (flat []) := by rw [hGd, flat_nil, List.append_nil, greedy_lone gx.len hx1]; rfl
        rcases hR with ⟨u, rfl⟩ | ⟨id, off, pre, _, h, _⟩
        · simp only [List.map_nil] at g4
          simp only [go_sem, reduceIte, Nat.reduceEqDiff, Nat.reduceAdd, Nat.reduceMul, Nat.reduceSub, Nat.reduceLeDiff, Nat.reduceLT, Nat.reduceBEq, reduceCtorEq, g4, g5, cast0, q0]
          exact ⟨rfl, rfl, c, x, _, [], t, done, by simp only [go_sem, reduceIte, Nat.reduceEqDiff, Nat.reduceAdd, Nat.reduceMul, Nat.reduceSub, Nat.reduceLeDiff, Nat.reduceLT, Nat.reduceBEq, reduceCtorEq, g6], hc, hx, by simp only [go_sem, reduceIte, Nat.reduceEqDiff, Nat.reduceAdd, Nat.reduceMul, Nat.reduceSub, Nat.reduceLeDiff, Nat.reduceLT, Nat.reduceBEq, reduceCtorEq, g4], .inl ⟨u, rfl⟩, fun x hx => (by cases hx), by simp only [go_sem, reduceIte, Nat.reduceEqDiff, Nat.reduceAdd, Nat.reduceMul, Nat.reduceSub, Nat.reduceLeDiff, Nat.reduceLT, Nat.reduceBEq, reduceCtorEq, g5], hA, hGx, hlt, by simp⟩
        · exact absurd rfl h
      | cons y r' =>
      obtain ⟨a, hl0, hi0, ld0, v', hs0, hR'⟩ := Rd.cons hR
      have q0 : ((0 : Int) < ((r'.length + 1 : Nat) : Int)) = True := by simp only [eq_iff_iff, iff_true]; omega
      have gy := hgr y (by simp)
      have gr := fun z (hz : z ∈ r') => hgr z (by simp [hz])
      have e128 : p128 [.agg x.row] = some (.int .i64 (endI x)) := pe128 x
      have hE := gx.end_
      have ea : p192 [.agg y.row, .int .i64 y.fr] = some (.int .i64 (atI y y.fr)) := pe192 y y.fr
      have eb : p192 [.agg x.row, .int .i64 (wrapq .i64 (Int.sub (endI x) 1))] = some (.int .i64 (atI x (wrapq .i64 (Int.sub (endI x) 1)))) := pe192 x _
      have hS := step_vals gx gy
      have hexit : joinB x y = false → ∀ (T : TT AV) (H' : Heap), getT T 6 = .ptr c 0 → Keeps H H' → H'.get c = .cells x.row 130 → getT T 4 = v → getT T 5 = .ps t (done.map Mv.row) → App H' t (done.map Mv.row) 6 130 → Qm (.ext 2) T H' [] := by
        intro hj T H' a1 a2 a3 a4 a5 a6
        refine ⟨rfl, rfl, c, x, v, y :: r', t, done, a1, Nat.lt_of_lt_of_le hc a2.1, a3, a4, hR.keep a2, hgr, a5, a6, ?_, hlt, hr12⟩
        rw [hGd, flat_cons, greedy_stop gx.len hx1 gy.len hj]
      have hnext : joinB x y = true → ∀ (T : TT AV) (H' : Heap) (v2 : AV), getT T 6 = .ptr c 0 → H.n ≤ H'.n → H'.get c = .cells (joinMv x y).row 130 → getT T 4 = v2 → Rd H' v2 (restMv x y ++ r') → getT T 5 = .ps t (done.map Mv.row) → App H' t (done.map Mv.row) 6 130 → ∃ m, m < (flat (y :: r')).length ∧ J m T H' [] := by
        intro hj T H' v2 a1 a2 a3 a4 a5 a6 a7
        have hrl := rest_len gx gy hj
        have hgj := good_join gx gy hj
        have hm : (flat (restMv x y ++ r')).length < (flat (y :: r')).length := by
          rw [flat_append, flat_cons, List.length_append, List.length_append]; omega
        refine ⟨_, hm, rfl, c, joinMv x y, v2, restMv x y ++ r', t, done, a1, Nat.lt_of_lt_of_le hc a2, a3, hgj.1, fun h => by have := hgj.2; omega, a4, a5, ?_, a6, a7, ?_, rfl, by omega, by rw [List.length_append]; rw [List.length_cons] at hr12; omega⟩
        · intro z hz
          rcases List.mem_append.1 hz with hz | hz
          · exact rest_good gy z hz
          · exact gr z hz
        · rw [hGd, flat_cons, flat_append, ← List.append_assoc, ← List.append_assoc, join_prs hj gx.len gy.len]
      have hcn : (c = H.n) = False := by simp only [eq_iff_iff, iff_false]; omega
      have hnc : (H.n = c) = False := by simp only [eq_iff_iff, iff_false]; omega
      have hcn1 : (c = H.n + 1) = False := by simp only [eq_iff_iff, iff_false]; omega
      have hnc1 : (H.n + 1 = c) = False := by simp only [eq_iff_iff, iff_false]; omega
      cases hj : joinB x y with
      | false =>
        have hex := hexit hj
        have hno := nojoin_vals hj
        clear hexit hnext hj hGd hR hR' hgr gr gx gy hx1
        have hK : ∀ b, Keeps H ((H.push (.cells [.str [], .int .i64 0, .int .i64 0, .str [], .int .i64 0, .bool false] 130)).set H.n b) := fun b => ((Keeps.refl H).push _).set b (.inl (Nat.le_refl _))
        have hA' : ∀ b, App ((H.push (.cells [.str [], .int .i64 0, .int .i64 0, .str [], .int .i64 0, .bool false] 130)).set H.n b) t (done.map Mv.row) 6 130 := fun b => hA.fresh _ b rfl
        generalize stpI x y = S at hS hno
        generalize endI x = E at e128 hE eb hS
        obtain ⟨x1, x2, x3, x4, x5, x6⟩ := x
        obtain ⟨y1, y2, y3, y4, y5, y6⟩ := y
        simp only [Mv.row] at ld0 hx e128 ea eb
        simp only at hE ea hS hno
        rw [← hE] at hno
        simp only [go_sem, reduceIte, Nat.reduceEqDiff, Nat.reduceAdd, Nat.reduceMul, Nat.reduceSub, Nat.reduceLeDiff, Nat.reduceLT, Nat.reduceBEq, reduceCtorEq] at hl0 hi0 ld0
        cases b1 : beqL y1 x1 with
        | false =>
          simp only [go_sem, reduceIte, Nat.reduceEqDiff, Nat.reduceAdd, Nat.reduceMul, Nat.reduceSub, Nat.reduceLeDiff, Nat.reduceLT, Nat.reduceBEq, reduceCtorEq, g4, g5, g6, hx, hl0, hi0, ld0, q0, hcn, hnc, b1]
          exact hex _ _ (by simp only [go_sem, reduceIte, Nat.reduceEqDiff, Nat.reduceAdd, Nat.reduceMul, Nat.reduceSub, Nat.reduceLeDiff, Nat.reduceLT, Nat.reduceBEq, reduceCtorEq, g6]) (hK _) (by simp only [go_sem, reduceIte, Nat.reduceEqDiff, Nat.reduceAdd, Nat.reduceMul, Nat.reduceSub, Nat.reduceLeDiff, Nat.reduceLT, Nat.reduceBEq, reduceCtorEq, hx, hcn]; rfl) (by simp only [go_sem, reduceIte, Nat.reduceEqDiff, Nat.reduceAdd, Nat.reduceMul, Nat.reduceSub, Nat.reduceLeDiff, Nat.reduceLT, Nat.reduceBEq, reduceCtorEq, g4]) (by simp only [go_sem, reduceIte, Nat.reduceEqDiff, Nat.reduceAdd, Nat.reduceMul, Nat.reduceSub, Nat.reduceLeDiff, Nat.reduceLT, Nat.reduceBEq, reduceCtorEq, g5]) (hA' _)
        | true =>
          cases b2 : beqL y4 x4 with
          | false =>
            simp only [go_sem, reduceIte, Nat.reduceEqDiff, Nat.reduceAdd, Nat.reduceMul, Nat.reduceSub, Nat.reduceLeDiff, Nat.reduceLT, Nat.reduceBEq, reduceCtorEq, g4, g5, g6, hx, hl0, hi0, ld0, q0, hcn, hnc, b1, b2]
            exact hex _ _ (by simp only [go_sem, reduceIte, Nat.reduceEqDiff, Nat.reduceAdd, Nat.reduceMul, Nat.reduceSub, Nat.reduceLeDiff, Nat.reduceLT, Nat.reduceBEq, reduceCtorEq, g6]) (hK _) (by simp only [go_sem, reduceIte, Nat.reduceEqDiff, Nat.reduceAdd, Nat.reduceMul, Nat.reduceSub, Nat.reduceLeDiff, Nat.reduceLT, Nat.reduceBEq, reduceCtorEq, hx, hcn]; rfl) (by simp only [go_sem, reduceIte, Nat.reduceEqDiff, Nat.reduceAdd, Nat.reduceMul, Nat.reduceSub, Nat.reduceLeDiff, Nat.reduceLT, Nat.reduceBEq, reduceCtorEq, g4]) (by simp only [go_sem, reduceIte, Nat.reduceEqDiff, Nat.reduceAdd, Nat.reduceMul, Nat.reduceSub, Nat.reduceLeDiff, Nat.reduceLT, Nat.reduceBEq, reduceCtorEq, g5]) (hA' _)
          | true =>
            rcases Classical.propComplete (y2 = E) with b3 | b3
            case inr =>
              simp only [go_sem, reduceIte, Nat.reduceEqDiff, Nat.reduceAdd, Nat.reduceMul, Nat.reduceSub, Nat.reduceLeDiff, Nat.reduceLT, Nat.reduceBEq, reduceCtorEq, g4, g5, g6, hx, hl0, hi0, ld0, q0, hcn, hnc, b1, b2, e128, b3]
              exact hex _ _ (by simp only [go_sem, reduceIte, Nat.reduceEqDiff, Nat.reduceAdd, Nat.reduceMul, Nat.reduceSub, Nat.reduceLeDiff, Nat.reduceLT, Nat.reduceBEq, reduceCtorEq, g6]) (hK _) (by simp only [go_sem, reduceIte, Nat.reduceEqDiff, Nat.reduceAdd, Nat.reduceMul, Nat.reduceSub, Nat.reduceLeDiff, Nat.reduceLT, Nat.reduceBEq, reduceCtorEq, hx, hcn]; rfl) (by simp only [go_sem, reduceIte, Nat.reduceEqDiff, Nat.reduceAdd, Nat.reduceMul, Nat.reduceSub, Nat.reduceLeDiff, Nat.reduceLT, Nat.reduceBEq, reduceCtorEq, g4]) (by simp only [go_sem, reduceIte, Nat.reduceEqDiff, Nat.reduceAdd, Nat.reduceMul, Nat.reduceSub, Nat.reduceLeDiff, Nat.reduceLT, Nat.reduceBEq, reduceCtorEq, g5]) (hA' _)
            have hno2 := hno b1 b2 (of_eq_true b3)
            rcases hno2 with ⟨s1, s2⟩ | ⟨rfl, s1, s2⟩ | ⟨rfl, s1, s2⟩
            · have s1 : (S = 1) = False := by simp [s1]
              have s2 : (S = -1) = False := by simp [s2]
              simp only [go_sem, reduceIte, Nat.reduceEqDiff, Nat.reduceAdd, Nat.reduceMul, Nat.reduceSub, Nat.reduceLeDiff, Nat.reduceLT, Nat.reduceBEq, reduceCtorEq, g4, g5, g6, hx, hl0, hi0, ld0, q0, hcn, hnc, b1, b2, e128, b3, ea, eb, hS, s1, s2]
              exact hex _ _ (by simp only [go_sem, reduceIte, Nat.reduceEqDiff, Nat.reduceAdd, Nat.reduceMul, Nat.reduceSub, Nat.reduceLeDiff, Nat.reduceLT, Nat.reduceBEq, reduceCtorEq, g6]) (hK _) (by simp only [go_sem, reduceIte, Nat.reduceEqDiff, Nat.reduceAdd, Nat.reduceMul, Nat.reduceSub, Nat.reduceLeDiff, Nat.reduceLT, Nat.reduceBEq, reduceCtorEq, hx, hcn]; rfl) (by simp only [go_sem, reduceIte, Nat.reduceEqDiff, Nat.reduceAdd, Nat.reduceMul, Nat.reduceSub, Nat.reduceLeDiff, Nat.reduceLT, Nat.reduceBEq, reduceCtorEq, g4]) (by simp only [go_sem, reduceIte, Nat.reduceEqDiff, Nat.reduceAdd, Nat.reduceMul, Nat.reduceSub, Nat.reduceLeDiff, Nat.reduceLT, Nat.reduceBEq, reduceCtorEq, g5]) (hA' _)
            · have n1 : ((1 : Int) < 0) = False := by simp
              subst s2
              have s1 : (1 < x3) = True := by simp [s1]
              have n2 : ((1 : Int) = 1) = True := by simp
              simp only [go_sem, reduceIte, Nat.reduceEqDiff, Nat.reduceAdd, Nat.reduceMul, Nat.reduceSub, Nat.reduceLeDiff, Nat.reduceLT, Nat.reduceBEq, reduceCtorEq, g4, g5, g6, hx, hl0, hi0, ld0, q0, hcn, hnc, b1, b2, e128, b3, ea, eb, hS, s1, n1, n2]
              exact hex _ _ (by simp only [go_sem, reduceIte, Nat.reduceEqDiff, Nat.reduceAdd, Nat.reduceMul, Nat.reduceSub, Nat.reduceLeDiff, Nat.reduceLT, Nat.reduceBEq, reduceCtorEq, g6]) (hK _) (by simp only [go_sem, reduceIte, Nat.reduceEqDiff, Nat.reduceAdd, Nat.reduceMul, Nat.reduceSub, Nat.reduceLeDiff, Nat.reduceLT, Nat.reduceBEq, reduceCtorEq, hx, hcn]; rfl) (by simp only [go_sem, reduceIte, Nat.reduceEqDiff, Nat.reduceAdd, Nat.reduceMul, Nat.reduceSub, Nat.reduceLeDiff, Nat.reduceLT, Nat.reduceBEq, reduceCtorEq, g4]) (by simp only [go_sem, reduceIte, Nat.reduceEqDiff, Nat.reduceAdd, Nat.reduceMul, Nat.reduceSub, Nat.reduceLeDiff, Nat.reduceLT, Nat.reduceBEq, reduceCtorEq, g5]) (hA' _)
            · have n1 : ((-1 : Int) < 0) = True := by simp
              subst s2
              have s1 : (1 < x3) = True := by simp [s1]
              have n2 : ((-1 : Int) = 1) = False := by simp
              have n3 : ((-1 : Int) = -1) = True := by simp
              simp only [go_sem, reduceIte, Nat.reduceEqDiff, Nat.reduceAdd, Nat.reduceMul, Nat.reduceSub, Nat.reduceLeDiff, Nat.reduceLT, Nat.reduceBEq, reduceCtorEq, g4, g5, g6, hx, hl0, hi0, ld0, q0, hcn, hnc, b1, b2, e128, b3, ea, eb, hS, s1, n1, n2, n3]
              exact hex _ _ (by simp only [go_sem, reduceIte, Nat.reduceEqDiff, Nat.reduceAdd, Nat.reduceMul, Nat.reduceSub, Nat.reduceLeDiff, Nat.reduceLT, Nat.reduceBEq, reduceCtorEq, g6]) (hK _) (by simp only [go_sem, reduceIte, Nat.reduceEqDiff, Nat.reduceAdd, Nat.reduceMul, Nat.reduceSub, Nat.reduceLeDiff, Nat.reduceLT, Nat.reduceBEq, reduceCtorEq, hx, hcn]; rfl) (by simp only [go_sem, reduceIte, Nat.reduceEqDiff, Nat.reduceAdd, Nat.reduceMul, Nat.reduceSub, Nat.reduceLeDiff, Nat.reduceLT, Nat.reduceBEq, reduceCtorEq, g4]) (by simp only [go_sem, reduceIte, Nat.reduceEqDiff, Nat.reduceAdd, Nat.reduceMul, Nat.reduceSub, Nat.reduceLeDiff, Nat.reduceLT, Nat.reduceBEq, reduceCtorEq, g5]) (hA' _)
      | true =>
        have hjv := join_vals hj
        have hnx := hnext hj
        have ht := taken_range (x := x) gy.len
        have ep1 : p198 [.agg y.row, .int .i64 y.fr, .int .i64 (takenI x y)] = some (.agg (y.cut 0 (takenI x y)).row) := by
          have := pe198 y y.fr (takenI x y)
          rw [part_head gy ht.1 ht.2] at this
          exact this
        have ep2 : takenI x y < y.len → p198 [.agg y.row, .int .i64 (wrapq .i64 (Int.add y.fr 1)), .int .i64 (wrapq .i64 (Int.sub y.len 1))] = some (.agg (y.cut 1 (y.len - 1)).row) := by
          intro h
          have h2 := rest_vals gy
          rw [h2.1, h2.2]
          have := pe198 y (y.fr + 1) (y.len - 1)
          rw [part_cut gy (k := 1) (by omega) (by omega) (by omega)] at this
          exact this
        have hls := len_sum2 gx gy
        have hjm : (joinMv x y).row = [.str x.line, i64 x.fr, i64 (x.len + takenI x y), .str x.other, i64 (minI x.to (y.cut 0 (takenI x y)).to), .bool (decide (stpI x y < 0))] := rfl
        have hT : takenI x y = if decide (1 < y.len) && (y.turned != decide (stpI x y < 0)) then 1 else y.len := rfl
        have hrm : restMv x y = if takenI x y < y.len then [y.cut 1 (y.len - 1)] else [] := rfl
        have hml : r'.length + 1 ≤ maxRows := by rw [List.length_cons] at hr12; unfold maxRows; omega
        have hfr := fun z => app_front z r' hml
        have hK : ∀ b1 b2 b3, Keeps H (((((H.push (.cells [.str [], .int .i64 0, .int .i64 0, .str [], .int .i64 0, .bool false] 130)).set H.n b1).push (.cells [.str [], .int .i64 0, .int .i64 0, .str [], .int .i64 0, .bool false] 130)).set (H.n + 1) b2).set c b3) := fun b1 b2 b3 =>
          (((((Keeps.refl H).push _).set b1 (.inl (Nat.le_refl _))).push _).set b2 (.inl (Nat.le_succ _))).set b3 (.inr ⟨x.row, 130, by simp only [go_sem, reduceIte, Nat.reduceEqDiff, Nat.reduceAdd, Nat.reduceMul, Nat.reduceSub, Nat.reduceLeDiff, Nat.reduceLT, Nat.reduceBEq, reduceCtorEq, hcn, hcn1]; exact hx⟩)
        have hA' : ∀ b1 b2 b3, App (((((H.push (.cells [.str [], .int .i64 0, .int .i64 0, .str [], .int .i64 0, .bool false] 130)).set H.n b1).push (.cells [.str [], .int .i64 0, .int .i64 0, .str [], .int .i64 0, .bool false] 130)).set (H.n + 1) b2).set c b3) t (done.map Mv.row) 6 130 := fun b1 b2 b3 =>
          ((hA.fresh _ b1 rfl).fresh _ b2 (by simp)).set b3 (by
            have : (((((H.push (.cells [.str [], .int .i64 0, .int .i64 0, .str [], .int .i64 0, .bool false] 130)).set H.n b1).push (.cells [.str [], .int .i64 0, .int .i64 0, .str [], .int .i64 0, .bool false] 130)).set (H.n + 1) b2)).get c = .cells x.row 130 := by simp only [go_sem, reduceIte, Nat.reduceEqDiff, Nat.reduceAdd, Nat.reduceMul, Nat.reduceSub, Nat.reduceLeDiff, Nat.reduceLT, Nat.reduceBEq, reduceCtorEq, hcn, hcn1]; exact hx
            rw [this]; simp)
        have hrows := fun b1 b2 b3 => (hR'.keep (hK b1 b2 b3)).rows
        have hRk := fun b1 b2 b3 => hR'.keep (hK b1 b2 b3)
        rw [hjm] at hnx
        clear hexit hnext hj hGd hR hgr gr gx hx1 hjm
        generalize takenI x y = tk at hnx ep1 ep2 hls hT hrm ht
        generalize stpI x y = S at hS hjv hT hnx
        generalize restMv x y = rm at hrm hnx
        generalize endI x = E at e128 hE eb hS
        rw [← hE] at hjv
        generalize y.cut 0 tk = PC at ep1 hnx
        generalize y.cut 1 (y.len - 1) = RC at ep2 hrm
        have hfr := app_front RC r' hml
        obtain ⟨x1, x2, x3, x4, x5, x6⟩ := x
        obtain ⟨y1, y2, y3, y4, y5, y6⟩ := y
        obtain ⟨p1, p2, p3, p4, p5, p6⟩ := PC
        simp only [Mv.row] at ld0 hx e128 ea eb ep1 ep2
        simp only at hE ea hS hjv ep1 ep2 hls hT hrm hnx ht
        obtain ⟨b1, b2, b3, hs1, hl1⟩ := hjv
        simp only [go_sem, reduceIte, Nat.reduceEqDiff, Nat.reduceAdd, Nat.reduceMul, Nat.reduceSub, Nat.reduceLeDiff, Nat.reduceLT, Nat.reduceBEq, reduceCtorEq] at hl0 hi0 ld0 hrows
        have b3 : (y2 = E) = True := by simp [b3]
        have fin : ∀ (T : TT AV) (bs : Bool) (d1 d2 : ABlk), (S < 0) = (bs = true) → rm = [] → getT T 6 = .ptr c 0 → getT T 4 = v' → getT T 5 = .ps t (done.map Mv.row) → ∃ m, m < (flat ({ line := y1, fr := y2, len := y3, other := y4, to := y5, turned := y6 } :: r')).length ∧ J m T (((((H.push (.cells [.str [], .int .i64 0, .int .i64 0, .str [], .int .i64 0, .bool false] 130)).set H.n d1).push (.cells [.str [], .int .i64 0, .int .i64 0, .str [], .int .i64 0, .bool false] 130)).set (H.n + 1) d2).set c (.cells [.str x1, .int .i64 x2, .int .i64 (x3 + tk), .str x4, .int .i64 (minI x5 p5), .bool bs] 130)) [] := by
          intro T bs d1 d2 hbs hrm0 t6 t4 t5
          have hbs : decide (S < 0) = bs := by rw [Bool.eq_iff_iff, decide_eq_true_eq, hbs]
          refine hnx _ _ v' t6 (hK d1 d2 _).1 ?_ t4 ?_ t5 (hA' _ _ _)
          · rw [hbs]; simp only [go_sem, reduceIte, Nat.reduceEqDiff, Nat.reduceAdd, Nat.reduceMul, Nat.reduceSub, Nat.reduceLeDiff, Nat.reduceLT, Nat.reduceBEq, reduceCtorEq]
          · rw [hrm0]; exact hRk _ _ _
        have fin2 : ∀ (T : TT AV) (bs : Bool) (d1 d2 : ABlk) (u : Tok) (H6 : Heap), (S < 0) = (bs = true) → rm = [RC] → (H6 = (((((H.push (.cells [.str [], .int .i64 0, .int .i64 0, .str [], .int .i64 0, .bool false] 130)).set H.n d1).push (.cells [.str [], .int .i64 0, .int .i64 0, .str [], .int .i64 0, .bool false] 130)).set (H.n + 1) d2).set c (.cells [.str x1, .int .i64 x2, .int .i64 (x3 + tk), .str x4, .int .i64 (minI x5 p5), .bool bs] 130)) ∨ H6 = (((((H.push (.cells [.str [], .int .i64 0, .int .i64 0, .str [], .int .i64 0, .bool false] 130)).set H.n d1).push (.cells [.str [], .int .i64 0, .int .i64 0, .str [], .int .i64 0, .bool false] 130)).set (H.n + 1) d2).set c (.cells [.str x1, .int .i64 x2, .int .i64 (x3 + tk), .str x4, .int .i64 (minI x5 p5), .bool bs] 130)).push (.row [] 6 130)) → getT T 6 = .ptr c 0 → getT T 4 = .ps u ((RC :: r').map Mv.row) → getT T 5 = .ps t (done.map Mv.row) → ∃ m, m < (flat ({ line := y1, fr := y2, len := y3, other := y4, to := y5, turned := y6 } :: r')).length ∧ J m T H6 [] := by
          intro T bs d1 d2 u H6 hbs hrm0 h6 t6 t4 t5
          have hbs : decide (S < 0) = bs := by rw [Bool.eq_iff_iff, decide_eq_true_eq, hbs]
          have hk := hK d1 d2 (.cells [.str x1, .int .i64 x2, .int .i64 (x3 + tk), .str x4, .int .i64 (minI x5 p5), .bool bs] 130)
          have hc5 : ((((((H.push (.cells [.str [], .int .i64 0, .int .i64 0, .str [], .int .i64 0, .bool false] 130)).set H.n d1).push (.cells [.str [], .int .i64 0, .int .i64 0, .str [], .int .i64 0, .bool false] 130)).set (H.n + 1) d2).set c (.cells [.str x1, .int .i64 x2, .int .i64 (x3 + tk), .str x4, .int .i64 (minI x5 p5), .bool bs] 130))).get c = .cells [.str x1, .int .i64 x2, .int .i64 (x3 + tk), .str x4, .int .i64 (minI x5 p5), .bool bs] 130 := by simp only [go_sem, reduceIte, Nat.reduceEqDiff, Nat.reduceAdd, Nat.reduceMul, Nat.reduceSub, Nat.reduceLeDiff, Nat.reduceLT, Nat.reduceBEq, reduceCtorEq]
          have ha5 := hA' d1 d2 (.cells [.str x1, .int .i64 x2, .int .i64 (x3 + tk), .str x4, .int .i64 (minI x5 p5), .bool bs] 130)
          generalize (((((H.push (.cells [.str [], .int .i64 0, .int .i64 0, .str [], .int .i64 0, .bool false] 130)).set H.n d1).push (.cells [.str [], .int .i64 0, .int .i64 0, .str [], .int .i64 0, .bool false] 130)).set (H.n + 1) d2).set c (.cells [.str x1, .int .i64 x2, .int .i64 (x3 + tk), .str x4, .int .i64 (minI x5 p5), .bool bs] 130)) = H5 at h6 hk hc5 ha5
          have hcl : c < H5.n := Nat.lt_of_lt_of_le hc hk.1
          refine hnx _ _ _ t6 ?_ ?_ t4 ?_ t5 ?_
          · rcases h6 with rfl | rfl
            · exact hk.1
            · rw [hn_push]; have := hk.1; omega
          · rw [hbs]
            rcases h6 with rfl | rfl
            · exact hc5
            · rw [Heap.get_push, if_neg (by omega)]; exact hc5
          · rw [hrm0]; exact .inl ⟨u, rfl⟩
          · rcases h6 with rfl | rfl
            · exact ha5
            · exact ha5.push _
        clear hA' hRk hK hR'
        have m1 : ((1 : Int) = 1) = True := by simp
        have m2 : ((-1 : Int) = 1) = False := by simp
        have m3 : ((-1 : Int) = -1) = True := by simp
        have m4 : ((1 : Int) < 0) = False := by simp
        have m5 : ((-1 : Int) < 0) = True := by simp
        have lt0 : ∀ n : Int, (n < n) = False := by intro n; simp
        have hll : x3 ≤ 1 ↔ (1 < x3) = False := by simp only [eq_iff_iff, iff_false]; omega
        rw [hll] at hl1
        rcases hs1 with rfl | rfl
        · have hl1 : (1 < x3) = False ∨ x6 = false := hl1.imp id fun h => by rw [h]; simp
          rcases Classical.propComplete (1 < y3) with w | w
          · cases y6 with
            | true =>
              obtain rfl : tk = 1 := by rw [hT]; simp [w]
              have ep2 := ep2 (of_eq_true w)
              obtain ⟨u, H6, hap, h6⟩ := hfr (((((H.push (.cells [.str [], .int .i64 0, .int .i64 0, .str [], .int .i64 0, .bool false] 130)).set H.n (.cells [.str y1, .int .i64 y2, .int .i64 y3, .str y4, .int .i64 y5, .bool true] 130)).push (.cells [.str [], .int .i64 0, .int .i64 0, .str [], .int .i64 0, .bool false] 130)).set (H.n + 1) (.cells [.str p1, .int .i64 p2, .int .i64 p3, .str p4, .int .i64 p5, .bool p6] 130)).set c (.cells [.str x1, .int .i64 x2, .int .i64 (x3 + 1), .str x4, .int .i64 (minI x5 p5), .bool false] 130))
              simp only [Mv.row] at hap
              rcases hl1 with z | rfl
              · simp only [go_sem, reduceIte, Nat.reduceEqDiff, Nat.reduceAdd, Nat.reduceMul, Nat.reduceSub, Nat.reduceLeDiff, Nat.reduceLT, Nat.reduceBEq, reduceCtorEq, g4, g5, g6, hx, hl0, hi0, ld0, hs0, q0, hcn, hnc, hcn1, hnc1, b1, b2, e128, b3, ea, eb, hS, w, m1, m4, ep1, hls, lt0, ep2, hrows, appO, hap, z]
                exact fin2 _ false _ _ u H6 (by simp) (by rw [hrm]; simp [w]) h6 (by simp only [go_sem, reduceIte, Nat.reduceEqDiff, Nat.reduceAdd, Nat.reduceMul, Nat.reduceSub, Nat.reduceLeDiff, Nat.reduceLT, Nat.reduceBEq, reduceCtorEq, g6]) (by simp only [go_sem, reduceIte, Nat.reduceEqDiff, Nat.reduceAdd, Nat.reduceMul, Nat.reduceSub, Nat.reduceLeDiff, Nat.reduceLT, Nat.reduceBEq, reduceCtorEq]) (by simp only [go_sem, reduceIte, Nat.reduceEqDiff, Nat.reduceAdd, Nat.reduceMul, Nat.reduceSub, Nat.reduceLeDiff, Nat.reduceLT, Nat.reduceBEq, reduceCtorEq, g5])
              · rcases Classical.propComplete (1 < x3) with z | z <;> simp only [go_sem, reduceIte, Nat.reduceEqDiff, Nat.reduceAdd, Nat.reduceMul, Nat.reduceSub, Nat.reduceLeDiff, Nat.reduceLT, Nat.reduceBEq, reduceCtorEq, g4, g5, g6, hx, hl0, hi0, ld0, hs0, q0, hcn, hnc, hcn1, hnc1, b1, b2, e128, b3, ea, eb, hS, w, m1, m4, ep1, hls, lt0, ep2, hrows, appO, hap, z]
                all_goals (
                  exact fin2 _ false _ _ u H6 (by simp) (by rw [hrm]; simp [w]) h6 (by simp only [go_sem, reduceIte, Nat.reduceEqDiff, Nat.reduceAdd, Nat.reduceMul, Nat.reduceSub, Nat.reduceLeDiff, Nat.reduceLT, Nat.reduceBEq, reduceCtorEq, g6]) (by simp only [go_sem, reduceIte, Nat.reduceEqDiff, Nat.reduceAdd, Nat.reduceMul, Nat.reduceSub, Nat.reduceLeDiff, Nat.reduceLT, Nat.reduceBEq, reduceCtorEq]) (by simp only [go_sem, reduceIte, Nat.reduceEqDiff, Nat.reduceAdd, Nat.reduceMul, Nat.reduceSub, Nat.reduceLeDiff, Nat.reduceLT, Nat.reduceBEq, reduceCtorEq, g5]))
            | false =>
              obtain rfl : tk = y3 := by rw [hT]; simp
              clear ep2 fin2 hrows hfr
              rcases hl1 with z | rfl
              · simp only [go_sem, reduceIte, Nat.reduceEqDiff, Nat.reduceAdd, Nat.reduceMul, Nat.reduceSub, Nat.reduceLeDiff, Nat.reduceLT, Nat.reduceBEq, reduceCtorEq, g4, g5, g6, hx, hl0, hi0, ld0, hs0, q0, hcn, hnc, hcn1, hnc1, b1, b2, e128, b3, ea, eb, hS, w, m1, m4, ep1, hls, lt0, z]
                exact fin _ false _ _ (by simp) (by rw [hrm]; simp) (by simp only [go_sem, reduceIte, Nat.reduceEqDiff, Nat.reduceAdd, Nat.reduceMul, Nat.reduceSub, Nat.reduceLeDiff, Nat.reduceLT, Nat.reduceBEq, reduceCtorEq, g6]) (by simp only [go_sem, reduceIte, Nat.reduceEqDiff, Nat.reduceAdd, Nat.reduceMul, Nat.reduceSub, Nat.reduceLeDiff, Nat.reduceLT, Nat.reduceBEq, reduceCtorEq]) (by simp only [go_sem, reduceIte, Nat.reduceEqDiff, Nat.reduceAdd, Nat.reduceMul, Nat.reduceSub, Nat.reduceLeDiff, Nat.reduceLT, Nat.reduceBEq, reduceCtorEq, g5])
              · rcases Classical.propComplete (1 < x3) with z | z <;> simp only [go_sem, reduceIte, Nat.reduceEqDiff, Nat.reduceAdd, Nat.reduceMul, Nat.reduceSub, Nat.reduceLeDiff, Nat.reduceLT, Nat.reduceBEq, reduceCtorEq, g4, g5, g6, hx, hl0, hi0, ld0, hs0, q0, hcn, hnc, hcn1, hnc1, b1, b2, e128, b3, ea, eb, hS, w, m1, m4, ep1, hls, lt0, z]
                all_goals (
                  exact fin _ false _ _ (by simp) (by rw [hrm]; simp) (by simp only [go_sem, reduceIte, Nat.reduceEqDiff, Nat.reduceAdd, Nat.reduceMul, Nat.reduceSub, Nat.reduceLeDiff, Nat.reduceLT, Nat.reduceBEq, reduceCtorEq, g6]) (by simp only [go_sem, reduceIte, Nat.reduceEqDiff, Nat.reduceAdd, Nat.reduceMul, Nat.reduceSub, Nat.reduceLeDiff, Nat.reduceLT, Nat.reduceBEq, reduceCtorEq]) (by simp only [go_sem, reduceIte, Nat.reduceEqDiff, Nat.reduceAdd, Nat.reduceMul, Nat.reduceSub, Nat.reduceLeDiff, Nat.reduceLT, Nat.reduceBEq, reduceCtorEq, g5]))
          · obtain rfl : tk = y3 := by rw [hT]; simp [w]
            clear ep2 fin2 hrows hfr
            rcases hl1 with z | rfl
            · simp only [go_sem, reduceIte, Nat.reduceEqDiff, Nat.reduceAdd, Nat.reduceMul, Nat.reduceSub, Nat.reduceLeDiff, Nat.reduceLT, Nat.reduceBEq, reduceCtorEq, g4, g5, g6, hx, hl0, hi0, ld0, hs0, q0, hcn, hnc, hcn1, hnc1, b1, b2, e128, b3, ea, eb, hS, w, m1, m4, ep1, hls, lt0, z]
              exact fin _ false _ _ (by simp) (by rw [hrm]; simp) (by simp only [go_sem, reduceIte, Nat.reduceEqDiff, Nat.reduceAdd, Nat.reduceMul, Nat.reduceSub, Nat.reduceLeDiff, Nat.reduceLT, Nat.reduceBEq, reduceCtorEq, g6]) (by simp only [go_sem, reduceIte, Nat.reduceEqDiff, Nat.reduceAdd, Nat.reduceMul, Nat.reduceSub, Nat.reduceLeDiff, Nat.reduceLT, Nat.reduceBEq, reduceCtorEq]) (by simp only [go_sem, reduceIte, Nat.reduceEqDiff, Nat.reduceAdd, Nat.reduceMul, Nat.reduceSub, Nat.reduceLeDiff, Nat.reduceLT, Nat.reduceBEq, reduceCtorEq, g5])
            · rcases Classical.propComplete (1 < x3) with z | z <;> simp only [go_sem, reduceIte, Nat.reduceEqDiff, Nat.reduceAdd, Nat.reduceMul, Nat.reduceSub, Nat.reduceLeDiff, Nat.reduceLT, Nat.reduceBEq, reduceCtorEq, g4, g5, g6, hx, hl0, hi0, ld0, hs0, q0, hcn, hnc, hcn1, hnc1, b1, b2, e128, b3, ea, eb, hS, w, m1, m4, ep1, hls, lt0, z]
              all_goals (
                exact fin _ false _ _ (by simp) (by rw [hrm]; simp) (by simp only [go_sem, reduceIte, Nat.reduceEqDiff, Nat.reduceAdd, Nat.reduceMul, Nat.reduceSub, Nat.reduceLeDiff, Nat.reduceLT, Nat.reduceBEq, reduceCtorEq, g6]) (by simp only [go_sem, reduceIte, Nat.reduceEqDiff, Nat.reduceAdd, Nat.reduceMul, Nat.reduceSub, Nat.reduceLeDiff, Nat.reduceLT, Nat.reduceBEq, reduceCtorEq]) (by simp only [go_sem, reduceIte, Nat.reduceEqDiff, Nat.reduceAdd, Nat.reduceMul, Nat.reduceSub, Nat.reduceLeDiff, Nat.reduceLT, Nat.reduceBEq, reduceCtorEq, g5]))
        · have hl1 : (1 < x3) = False ∨ x6 = true := hl1.imp id fun h => by rw [h]; simp
          rcases Classical.propComplete (1 < y3) with w | w
          · cases y6 with
            | false =>
              obtain rfl : tk = 1 := by rw [hT]; simp [w]
              have ep2 := ep2 (of_eq_true w)
              obtain ⟨u, H6, hap, h6⟩ := hfr (((((H.push (.cells [.str [], .int .i64 0, .int .i64 0, .str [], .int .i64 0, .bool false] 130)).set H.n (.cells [.str y1, .int .i64 y2, .int .i64 y3, .str y4, .int .i64 y5, .bool false] 130)).push (.cells [.str [], .int .i64 0, .int .i64 0, .str [], .int .i64 0, .bool false] 130)).set (H.n + 1) (.cells [.str p1, .int .i64 p2, .int .i64 p3, .str p4, .int .i64 p5, .bool p6] 130)).set c (.cells [.str x1, .int .i64 x2, .int .i64 (x3 + 1), .str x4, .int .i64 (minI x5 p5), .bool true] 130))
              simp only [Mv.row] at hap
              rcases hl1 with z | rfl
              · simp only [go_sem, reduceIte, Nat.reduceEqDiff, Nat.reduceAdd, Nat.reduceMul, Nat.reduceSub, Nat.reduceLeDiff, Nat.reduceLT, Nat.reduceBEq, reduceCtorEq, g4, g5, g6, hx, hl0, hi0, ld0, hs0, q0, hcn, hnc, hcn1, hnc1, b1, b2, e128, b3, ea, eb, hS, w, m2, m3, m5, ep1, hls, lt0, ep2, hrows, appO, hap, z]
                exact fin2 _ true _ _ u H6 (by simp) (by rw [hrm]; simp [w]) h6 (by simp only [go_sem, reduceIte, Nat.reduceEqDiff, Nat.reduceAdd, Nat.reduceMul, Nat.reduceSub, Nat.reduceLeDiff, Nat.reduceLT, Nat.reduceBEq, reduceCtorEq, g6]) (by simp only [go_sem, reduceIte, Nat.reduceEqDiff, Nat.reduceAdd, Nat.reduceMul, Nat.reduceSub, Nat.reduceLeDiff, Nat.reduceLT, Nat.reduceBEq, reduceCtorEq]) (by simp only [go_sem, reduceIte, Nat.reduceEqDiff, Nat.reduceAdd, Nat.reduceMul, Nat.reduceSub, Nat.reduceLeDiff, Nat.reduceLT, Nat.reduceBEq, reduceCtorEq, g5])
              · rcases Classical.propComplete (1 < x3) with z | z <;> simp only [go_sem, reduceIte, Nat.reduceEqDiff, Nat.reduceAdd, Nat.reduceMul, Nat.reduceSub, Nat.reduceLeDiff, Nat.reduceLT, Nat.reduceBEq, reduceCtorEq, g4, g5, g6, hx, hl0, hi0, ld0, hs0, q0, hcn, hnc, hcn1, hnc1, b1, b2, e128, b3, ea, eb, hS, w, m2, m3, m5, ep1, hls, lt0, ep2, hrows, appO, hap, z]
                all_goals (
                  exact fin2 _ true _ _ u H6 (by simp) (by rw [hrm]; simp [w]) h6 (by simp only [go_sem, reduceIte, Nat.reduceEqDiff, Nat.reduceAdd, Nat.reduceMul, Nat.reduceSub, Nat.reduceLeDiff, Nat.reduceLT, Nat.reduceBEq, reduceCtorEq, g6]) (by simp only [go_sem, reduceIte, Nat.reduceEqDiff, Nat.reduceAdd, Nat.reduceMul, Nat.reduceSub, Nat.reduceLeDiff, Nat.reduceLT, Nat.reduceBEq, reduceCtorEq]) (by simp only [go_sem, reduceIte, Nat.reduceEqDiff, Nat.reduceAdd, Nat.reduceMul, Nat.reduceSub, Nat.reduceLeDiff, Nat.reduceLT, Nat.reduceBEq, reduceCtorEq, g5]))
            | true =>
              obtain rfl : tk = y3 := by rw [hT]; simp
              clear ep2 fin2 hrows hfr
              rcases hl1 with z | rfl
              · simp only [go_sem, reduceIte, Nat.reduceEqDiff, Nat.reduceAdd, Nat.reduceMul, Nat.reduceSub, Nat.reduceLeDiff, Nat.reduceLT, Nat.reduceBEq, reduceCtorEq, g4, g5, g6, hx, hl0, hi0, ld0, hs0, q0, hcn, hnc, hcn1, hnc1, b1, b2, e128, b3, ea, eb, hS, w, m2, m3, m5, ep1, hls, lt0, z]
                exact fin _ true _ _ (by simp) (by rw [hrm]; simp) (by simp only [go_sem, reduceIte, Nat.reduceEqDiff, Nat.reduceAdd, Nat.reduceMul, Nat.reduceSub, Nat.reduceLeDiff, Nat.reduceLT, Nat.reduceBEq, reduceCtorEq, g6]) (by simp only [go_sem, reduceIte, Nat.reduceEqDiff, Nat.reduceAdd, Nat.reduceMul, Nat.reduceSub, Nat.reduceLeDiff, Nat.reduceLT, Nat.reduceBEq, reduceCtorEq]) (by simp only [go_sem, reduceIte, Nat.reduceEqDiff, Nat.reduceAdd, Nat.reduceMul, Nat.reduceSub, Nat.reduceLeDiff, Nat.reduceLT, Nat.reduceBEq, reduceCtorEq, g5])
              · rcases Classical.propComplete (1 < x3) with z | z <;> simp only [go_sem, reduceIte, Nat.reduceEqDiff, Nat.reduceAdd, Nat.reduceMul, Nat.reduceSub, Nat.reduceLeDiff, Nat.reduceLT, Nat.reduceBEq, reduceCtorEq, g4, g5, g6, hx, hl0, hi0, ld0, hs0, q0, hcn, hnc, hcn1, hnc1, b1, b2, e128, b3, ea, eb, hS, w, m2, m3, m5, ep1, hls, lt0, z]
                all_goals (
                  exact fin _ true _ _ (by simp) (by rw [hrm]; simp) (by simp only [go_sem, reduceIte, Nat.reduceEqDiff, Nat.reduceAdd, Nat.reduceMul, Nat.reduceSub, Nat.reduceLeDiff, Nat.reduceLT, Nat.reduceBEq, reduceCtorEq, g6]) (by simp only [go_sem, reduceIte, Nat.reduceEqDiff, Nat.reduceAdd, Nat.reduceMul, Nat.reduceSub, Nat.reduceLeDiff, Nat.reduceLT, Nat.reduceBEq, reduceCtorEq]) (by simp only [go_sem, reduceIte, Nat.reduceEqDiff, Nat.reduceAdd, Nat.reduceMul, Nat.reduceSub, Nat.reduceLeDiff, Nat.reduceLT, Nat.reduceBEq, reduceCtorEq, g5]))
          · obtain rfl : tk = y3 := by rw [hT]; simp [w]
            clear ep2 fin2 hrows hfr
            rcases hl1 with z | rfl
            · simp only [go_sem, reduceIte, Nat.reduceEqDiff, Nat.reduceAdd, Nat.reduceMul, Nat.reduceSub, Nat.reduceLeDiff, Nat.reduceLT, Nat.reduceBEq, reduceCtorEq, g4, g5, g6, hx, hl0, hi0, ld0, hs0, q0, hcn, hnc, hcn1, hnc1, b1, b2, e128, b3, ea, eb, hS, w, m2, m3, m5, ep1, hls, lt0, z]
              exact fin _ true _ _ (by simp) (by rw [hrm]; simp) (by simp only [go_sem, reduceIte, Nat.reduceEqDiff, Nat.reduceAdd, Nat.reduceMul, Nat.reduceSub, Nat.reduceLeDiff, Nat.reduceLT, Nat.reduceBEq, reduceCtorEq, g6]) (by simp only [go_sem, reduceIte, Nat.reduceEqDiff, Nat.reduceAdd, Nat.reduceMul, Nat.reduceSub, Nat.reduceLeDiff, Nat.reduceLT, Nat.reduceBEq, reduceCtorEq]) (by simp only [go_sem, reduceIte, Nat.reduceEqDiff, Nat.reduceAdd, Nat.reduceMul, Nat.reduceSub, Nat.reduceLeDiff, Nat.reduceLT, Nat.reduceBEq, reduceCtorEq, g5])
            · rcases Classical.propComplete (1 < x3) with z | z <;> simp only [go_sem, reduceIte, Nat.reduceEqDiff, Nat.reduceAdd, Nat.reduceMul, Nat.reduceSub, Nat.reduceLeDiff, Nat.reduceLT, Nat.reduceBEq, reduceCtorEq, g4, g5, g6, hx, hl0, hi0, ld0, hs0, q0, hcn, hnc, hcn1, hnc1, b1, b2, e128, b3, ea, eb, hS, w, m2, m3, m5, ep1, hls, lt0, z]
              all_goals (
                exact fin _ true _ _ (by simp) (by rw [hrm]; simp) (by simp only [go_sem, reduceIte, Nat.reduceEqDiff, Nat.reduceAdd, Nat.reduceMul, Nat.reduceSub, Nat.reduceLeDiff, Nat.reduceLT, Nat.reduceBEq, reduceCtorEq, g6]) (by simp only [go_sem, reduceIte, Nat.reduceEqDiff, Nat.reduceAdd, Nat.reduceMul, Nat.reduceSub, Nat.reduceLeDiff, Nat.reduceLT, Nat.reduceBEq, reduceCtorEq]) (by simp only [go_sem, reduceIte, Nat.reduceEqDiff, Nat.reduceAdd, Nat.reduceMul, Nat.reduceSub, Nat.reduceLeDiff, Nat.reduceLT, Nat.reduceBEq, reduceCtorEq, g5]))
    obtain ⟨a, hl0, hi0, ld0, v', hs0, hR'⟩ := Rd.cons hR
    have q0 : ((0 : Int) < ((r.length + 1 : Nat) : Int)) = True := by simp only [eq_iff_iff, iff_true]; omega
    have gy := hgr y0 (by simp)
    have hgx : y0.nrm.row = [.str y0.line, i64 y0.fr, i64 y0.len, .str y0.other, i64 y0.to, .bool (y0.turned && decide (1 < y0.len))] := rfl
    have hpr : y0.nrm.prs = y0.prs := nrm_prs gy.len
    have hno := nrm_one y0
    have hng := nrm_good gy
    have hless : (flat r).length < (flat (y0 :: r)).length := by
      have := gy.len
      rw [flat_cons, List.length_append, prs_length]; omega
    rw [flat_cons, ← hpr] at hGd
    have hJ0 : ∀ (T : TT AV) (H' : Heap) (c : Nat) (v' : AV), getT T 6 = .ptr c 0 → c < H'.n → H'.get c = .cells y0.nrm.row 130 → getT T 4 = v' → Rd H v' r → Keeps H H' → getT T 5 = .ps t (done.map Mv.row) → App H' t (done.map Mv.row) 6 130 → J (flat r).length T H' [] := by
      intro T H' c v' a1 a2 a3 a4 a5 a6 a7 a8
      exact ⟨rfl, c, y0.nrm, v', r, t, done, a1, a2, a3, hng, hno, a4, a5.keep a6, fun x hx => hgr x (by simp [hx]), a7, a8, hGd, rfl, hless, by rw [List.length_cons] at hr12; omega⟩
    generalize y0.nrm = z at hgx hJ0
    clear hgr hR hGd hG hpr hno hng hless gy
    obtain ⟨x1, x2, x3, x4, x5, x6⟩ := y0
    simp only at hgx
    simp only [Mv.row] at ld0
    simp only [go_sem, reduceIte, Nat.reduceEqDiff, Nat.reduceAdd, Nat.reduceMul, Nat.reduceSub, Nat.reduceLeDiff, Nat.reduceLT, Nat.reduceBEq, reduceCtorEq] at hl0 hi0 ld0
    cases x6 <;> rcases Classical.propComplete (1 < x3) with z1 | z1 <;> simp only [go_sem, reduceIte, Nat.reduceEqDiff, Nat.reduceAdd, Nat.reduceMul, Nat.reduceSub, Nat.reduceLeDiff, Nat.reduceLT, Nat.reduceBEq, reduceCtorEq, g4, g5, hl0, hi0, ld0, hs0, q0, z1] <;> simp only [go_sem, reduceIte, Nat.reduceEqDiff, Nat.reduceAdd, Nat.reduceMul, Nat.reduceSub, Nat.reduceLeDiff, Nat.reduceLT, Nat.reduceBEq, reduceCtorEq, z1] at hgx
    all_goals (refine W_mono (inner (flat r).length _ _ ?_) ?_)
    case' false.inl.refine_1 | false.inr.refine_1 | true.inl.refine_1 | true.inr.refine_1 =>
      refine hJ0 _ _ H.n v' ?_ ?_ ?_ ?_ hR' ?_ ?_ ?_
      · simp only [go_sem, reduceIte, Nat.reduceEqDiff, Nat.reduceAdd, Nat.reduceMul, Nat.reduceSub, Nat.reduceLeDiff, Nat.reduceLT, Nat.reduceBEq, reduceCtorEq]
      · simp only [go_sem, reduceIte, Nat.reduceEqDiff, Nat.reduceAdd, Nat.reduceMul, Nat.reduceSub, Nat.reduceLeDiff, Nat.reduceLT, Nat.reduceBEq, reduceCtorEq]
      · rw [hgx]; simp only [go_sem, reduceIte, Nat.reduceEqDiff, Nat.reduceAdd, Nat.reduceMul, Nat.reduceSub, Nat.reduceLeDiff, Nat.reduceLT, Nat.reduceBEq, reduceCtorEq]
      · simp only [go_sem, reduceIte, Nat.reduceEqDiff, Nat.reduceAdd, Nat.reduceMul, Nat.reduceSub, Nat.reduceLeDiff, Nat.reduceLT, Nat.reduceBEq, reduceCtorEq]
      · exact (((Keeps.refl H).push _).set _ (.inl (Nat.le_refl _))).set _ (.inl (Nat.le_refl _))
      · simp only [go_sem, reduceIte, Nat.reduceEqDiff, Nat.reduceAdd, Nat.reduceMul, Nat.reduceSub, Nat.reduceLeDiff, Nat.reduceLT, Nat.reduceBEq, reduceCtorEq, g5]
      · exact (hA.fresh _ _ rfl).set _ (by rw [Heap.get_set, if_pos rfl]; simp)
    all_goals (
      rintro e T1 H1 M1 ⟨rfl, rfl, c, x, v1, rest1, t1, done1, b6, bc, bx, b4, bR, bg, b5, bA, bG, bl, b12⟩
      have hdl : done1.length + 1 ≤ 12 := by
        have := congrArg List.length bG
        rw [List.length_append, List.length_cons] at this
        omega
      obtain ⟨t2, H2, ha, hA2, hK2, -⟩ := app_mv bA x (by unfold maxRows; omega)
      have hrow : (done1.map Mv.row).length + 1 ≤ maxRows := by rw [List.length_map]; unfold maxRows; omega
      have bG2 : G = (done1 ++ [x]) ++ greedy (flat rest1) := by rw [bG]; simp
      obtain ⟨u1, u2, u3, u4, u5, u6⟩ := x
      simp only [Mv.row] at bx ha
      simp only [go_sem, reduceIte, Nat.reduceEqDiff, Nat.reduceAdd, Nat.reduceMul, Nat.reduceSub, Nat.reduceLeDiff, Nat.reduceLT, Nat.reduceBEq, reduceCtorEq, b6, bx, b5, b4, appO, ha]
      exact ⟨_, bl, v1, rest1, t2, _, rfl, bR.keep hK2, bg, rfl, hA2, bG2, rfl, b12⟩)
end Go.Sim
