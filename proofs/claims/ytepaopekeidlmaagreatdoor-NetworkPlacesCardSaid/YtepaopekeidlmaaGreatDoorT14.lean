/-
The parts NetL4, NetL5, NetP0, NetP1, NetP2, NetP3, NetP4, NetP5, NetP6, NetP7, NetR1, NetR2 of one proof, joined: each begins with a remark that says what it shows.
-/
import Derived.Test.YtepaopekeidlmaaGreatDoorT13
set_option linter.unusedSimpArgs false
set_option linter.unusedVariables false

/-
Pieces, places and metres.
-/
namespace Go.Sim
open Go Go.Proofs
set_option maxRecDepth 100000
set_option maxHeartbeats 1000000

noncomputable def p35 : List AV → Option AV := primOf (α := Int × Int × Int) (fun x => [i64 x.1, i64 x.2.1, i64 x.2.2]) (fun _ => True) (fun x => i64 (rangeI x.1 x.2.1 x.2.2))
theorem pok35 : ∀ args v, p35 args = some v → ∀ lo H, CallOk NC lo 35 args H v H := by
  intro args v h
  obtain ⟨x, rfl, hp, rfl⟩ := primOf_inv h
  clear h
  revert x
  intro x; exact c35 x.1 x.2.1 x.2.2
theorem pe35 (x : Int × Int × Int) (hp : (fun _ => True) x) : p35 ((fun x => [i64 x.1, i64 x.2.1, i64 x.2.2]) x) = some ((fun x => i64 (rangeI x.1 x.2.1 x.2.2)) x) := primOf_enc (by intro x y h; (obtain ⟨a, b, c⟩ := x; obtain ⟨d, e, f⟩ := y; simp at h; obtain ⟨rfl, rfl, rfl⟩ := h; rfl)) x hp
theorem e35 (n a b : Int) : p35 [.int .i64 n, .int .i64 a, .int .i64 b] = some (.int .i64 (rangeI n a b)) := pe35 (n, a, b) trivial
noncomputable def p115 : List AV → Option AV := primOf (α := Int × Int × Int) (fun x => [i64 x.1, i64 x.2.1, i64 x.2.2]) (fun _ => True) (fun x => i64 (rangeI x.1 x.2.1 x.2.2))
theorem pok115 : ∀ args v, p115 args = some v → ∀ lo H, CallOk NC lo 115 args H v H := by
  intro args v h
  obtain ⟨x, rfl, hp, rfl⟩ := primOf_inv h
  clear h
  revert x
  intro x; exact c115 x.1 x.2.1 x.2.2
theorem pe115 (x : Int × Int × Int) (hp : (fun _ => True) x) : p115 ((fun x => [i64 x.1, i64 x.2.1, i64 x.2.2]) x) = some ((fun x => i64 (rangeI x.1 x.2.1 x.2.2)) x) := primOf_enc (by intro x y h; (obtain ⟨a, b, c⟩ := x; obtain ⟨d, e, f⟩ := y; simp at h; obtain ⟨rfl, rfl, rfl⟩ := h; rfl)) x hp
theorem e115 (n a b : Int) : p115 [.int .i64 n, .int .i64 a, .int .i64 b] = some (.int .i64 (rangeI n a b)) := pe115 (n, a, b) trivial
noncomputable def p36 : List AV → Option AV := primOf (α := List Nat) (fun x => [.str x]) (fun _ => True) (fun x => i64 (whenI (!nameB x) 8))
theorem pok36 : ∀ args v, p36 args = some v → ∀ lo H, CallOk NC lo 36 args H v H := by
  intro args v h
  obtain ⟨x, rfl, hp, rfl⟩ := primOf_inv h
  clear h
  revert x
  intro x; exact c36 x
theorem pe36 (x : List Nat) (hp : (fun _ => True) x) : p36 ((fun x => [.str x]) x) = some ((fun x => i64 (whenI (!nameB x) 8)) x) := primOf_enc (by intro x y h; simpa using h) x hp
theorem e36 (s : List Nat) : p36 [.str s] = some (.int .i64 (whenI (!nameB s) 8)) := pe36 s trivial
noncomputable def p120 : List AV → Option AV := primOf (α := List Nat) (fun x => [.str x]) (fun x => x.length ≤ maxRows) (fun x => i64 (whenI (!nameB x) 8))
theorem pok120 : ∀ args v, p120 args = some v → ∀ lo H, CallOk NC lo 120 args H v H := by
  intro args v h
  obtain ⟨x, rfl, hp, rfl⟩ := primOf_inv h
  clear h
  revert x
  intro x hx; exact c120 x hx
theorem pe120 (x : List Nat) (hp : (fun x => x.length ≤ maxRows) x) : p120 ((fun x => [.str x]) x) = some ((fun x => i64 (whenI (!nameB x) 8)) x) := primOf_enc (by intro x y h; simpa using h) x hp
theorem e120 (s : List Nat) (hs : s.length ≤ maxRows) : p120 [.str s] = some (.int .i64 (whenI (!nameB s) 8)) := pe120 s hs
noncomputable def p106 : List AV → Option AV := primOf (α := Net × List Nat × Int) (fun x => [.agg x.1.cells, .str x.2.1, i64 x.2.2]) (fun x => x.1.fits) (fun x => i64 (hasI x.1.lines x.2.1 x.2.2))
theorem pok106 : ∀ args v, p106 args = some v → ∀ lo H, CallOk NC lo 106 args H v H := by
  intro args v h
  obtain ⟨x, rfl, hp, rfl⟩ := primOf_inv h
  clear h
  revert x
  intro x hx; exact c106 x.1 x.2.1 x.2.2 hx
theorem pe106 (x : Net × List Nat × Int) (hp : (fun x => x.1.fits) x) : p106 ((fun x => [.agg x.1.cells, .str x.2.1, i64 x.2.2]) x) = some ((fun x => i64 (hasI x.1.lines x.2.1 x.2.2)) x) := primOf_enc (by intro x y h; (obtain ⟨a, b, c⟩ := x; obtain ⟨d, e, f⟩ := y; simp only [List.cons.injEq, AV.agg.injEq, AV.str.injEq, AV.int.injEq, true_and, and_true] at h; obtain ⟨h1, rfl, rfl⟩ := h; rw [Net.cells_inj _ _ h1])) x hp

noncomputable def PPC : FuncId → Option (List AV → Option AV) := addPrim 106 p106 (addPrim 120 p120 (addPrim 36 p36 (addPrim 115 p115 (addPrim 35 p35 (PPB)))))
theorem primsC : PrimsOk NC PPC := primsOk_add (primsOk_add (primsOk_add (primsOk_add (primsOk_add (primsB) (by kernel_rfl) (by kernel_rfl) pok35) (by kernel_rfl) (by kernel_rfl) pok115) (by kernel_rfl) (by kernel_rfl) pok36) (by kernel_rfl) (by kernel_rfl) pok120) (by kernel_rfl) (by kernel_rfl) pok106
theorem enC_48 {rec : Rec} {lo : Nat} {args : List AV} {H : Heap} {K : AV → Heap → Prop} : VO (aenter (NC.withPrims PPC) rec lo 48 args H) K = AO (p48 args) fun v => K v H := enter_prim (by rfl) (by kernel_rfl)
theorem enC_121 {rec : Rec} {lo : Nat} {args : List AV} {H : Heap} {K : AV → Heap → Prop} : VO (aenter (NC.withPrims PPC) rec lo 121 args H) K = AO (p121 args) fun v => K v H := enter_prim (by rfl) (by kernel_rfl)
theorem enC_34 {rec : Rec} {lo : Nat} {args : List AV} {H : Heap} {K : AV → Heap → Prop} : VO (aenter (NC.withPrims PPC) rec lo 34 args H) K = AO (p34 args) fun v => K v H := enter_prim (by rfl) (by kernel_rfl)
theorem enC_111 {rec : Rec} {lo : Nat} {args : List AV} {H : Heap} {K : AV → Heap → Prop} : VO (aenter (NC.withPrims PPC) rec lo 111 args H) K = AO (p111 args) fun v => K v H := enter_prim (by rfl) (by kernel_rfl)
theorem enC_26 {rec : Rec} {lo : Nat} {args : List AV} {H : Heap} {K : AV → Heap → Prop} : VO (aenter (NC.withPrims PPC) rec lo 26 args H) K = AO (p26 args) fun v => K v H := enter_prim (by rfl) (by kernel_rfl)
theorem enC_178 {rec : Rec} {lo : Nat} {args : List AV} {H : Heap} {K : AV → Heap → Prop} : VO (aenter (NC.withPrims PPC) rec lo 178 args H) K = AO (p178 args) fun v => K v H := enter_prim (by rfl) (by kernel_rfl)
theorem enC_109 {rec : Rec} {lo : Nat} {args : List AV} {H : Heap} {K : AV → Heap → Prop} : VO (aenter (NC.withPrims PPC) rec lo 109 args H) K = AO (p109 args) fun v => K v H := enter_prim (by rfl) (by kernel_rfl)
theorem enC_108 {rec : Rec} {lo : Nat} {args : List AV} {H : Heap} {K : AV → Heap → Prop} : VO (aenter (NC.withPrims PPC) rec lo 108 args H) K = AO (p108 args) fun v => K v H := enter_prim (by rfl) (by kernel_rfl)
theorem enC_27 {rec : Rec} {lo : Nat} {args : List AV} {H : Heap} {K : AV → Heap → Prop} : VO (aenter (NC.withPrims PPC) rec lo 27 args H) K = AO (p27 args) fun v => K v H := enter_prim (by rfl) (by kernel_rfl)
theorem enC_97 {rec : Rec} {lo : Nat} {args : List AV} {H : Heap} {K : AV → Heap → Prop} : VO (aenter (NC.withPrims PPC) rec lo 97 args H) K = AO (p97 args) fun v => K v H := enter_prim (by rfl) (by kernel_rfl)
theorem enC_122 {rec : Rec} {lo : Nat} {args : List AV} {H : Heap} {K : AV → Heap → Prop} : VO (aenter (NC.withPrims PPC) rec lo 122 args H) K = AO (p122 args) fun v => K v H := enter_prim (by rfl) (by kernel_rfl)
theorem enC_182 {rec : Rec} {lo : Nat} {args : List AV} {H : Heap} {K : AV → Heap → Prop} : VO (aenter (NC.withPrims PPC) rec lo 182 args H) K = AO (p182 args) fun v => K v H := enter_prim (by rfl) (by kernel_rfl)
theorem enC_35 {rec : Rec} {lo : Nat} {args : List AV} {H : Heap} {K : AV → Heap → Prop} : VO (aenter (NC.withPrims PPC) rec lo 35 args H) K = AO (p35 args) fun v => K v H := enter_prim (by rfl) (by kernel_rfl)
theorem enC_115 {rec : Rec} {lo : Nat} {args : List AV} {H : Heap} {K : AV → Heap → Prop} : VO (aenter (NC.withPrims PPC) rec lo 115 args H) K = AO (p115 args) fun v => K v H := enter_prim (by rfl) (by kernel_rfl)
theorem enC_36 {rec : Rec} {lo : Nat} {args : List AV} {H : Heap} {K : AV → Heap → Prop} : VO (aenter (NC.withPrims PPC) rec lo 36 args H) K = AO (p36 args) fun v => K v H := enter_prim (by rfl) (by kernel_rfl)
theorem enC_120 {rec : Rec} {lo : Nat} {args : List AV} {H : Heap} {K : AV → Heap → Prop} : VO (aenter (NC.withPrims PPC) rec lo 120 args H) K = AO (p120 args) fun v => K v H := enter_prim (by rfl) (by kernel_rfl)
theorem enC_106 {rec : Rec} {lo : Nat} {args : List AV} {H : Heap} {K : AV → Heap → Prop} : VO (aenter (NC.withPrims PPC) rec lo 106 args H) K = AO (p106 args) fun v => K v H := enter_prim (by rfl) (by kernel_rfl)
attribute [go_sem ↓] enC_48 enC_121 enC_34 enC_111 enC_26 enC_178 enC_109 enC_108 enC_27 enC_97 enC_122 enC_182
attribute [go_sem ↓] enC_35 enC_115 enC_36 enC_120 enC_106


/-! ### The reference -/

def metresI (ls : List Ln) (s : List Nat) (fr till : Int) : Int := match findL ls s with
  | none => 10
  | some i => match ls[i]? with
    | some l => whenI (decide (fr < 0) || !decide (fr < till) || decide (sumW l.ps 0 < till)) 14
    | none => 0

theorem c126 (n : Net) (s : List Nat) (fr till : Int) (hn : n.fits) : ∀ lo H, CallOk NC lo 126 [.agg n.cells, .str s, .agg [i64 fr, i64 till]] H (i64 (metresI n.lines s fr till)) H := by
  refine contract saneNC primsC (fn := Tryz.f126) (by kernel_rfl) Tryz.func126 rfl rfl (by rfl) (by rfl) ?_
  have e27 := pe27 (n, s) hn.1
  cases hf : findL n.lines s with
  | none =>
    simp only [findI, hf] at e27
    simp only [Net.cells] at e27
    simp only [go_sem, reduceIte, Nat.reduceEqDiff, Nat.reduceAdd, Nat.reduceMul, Nat.reduceSub, Nat.reduceLeDiff, Nat.reduceLT, Nat.reduceBEq, reduceCtorEq, Net.cells, e27, neg_one]
    simp [metresI, hf]
  | some i =>
    obtain ⟨l, hl, hlt, hmem⟩ := findL_at hf
    simp only [findI, hf] at e27
    simp only [Net.cells] at e27
    have e26 := pe26 l (hn.2 l hmem)
    simp only [Ln.row] at e26
    have hr := map_at (f := Ln.row) hl
    simp only [Ln.row] at hr
    rcases Classical.propComplete (fr < 0) with h1 | h1 <;> rcases Classical.propComplete (fr < till) with h2 | h2 <;> rcases Classical.propComplete (sumW l.ps 0 < till) with h3 | h3 <;> simp only [go_sem, reduceIte, Nat.reduceEqDiff, Nat.reduceAdd, Nat.reduceMul, Nat.reduceSub, Nat.reduceLeDiff, Nat.reduceLT, Nat.reduceBEq, reduceCtorEq, Net.cells, e27, neg_cast, List.length_map, hlt, hr, e26, h1, h2, h3, e48] <;> simp [metresI, hf, hl, h1, h2, h3]

def lineI (ls : List Ln) (s : List Nat) : Int := whenI (findL ls s).isNone 10

theorem c23 (n : Net) (s : List Nat) (hn : n.fits) : ∀ lo H, CallOk NC lo 23 [.agg n.cells, .str s] H (i64 (lineI n.lines s)) H := by
  refine contract saneNC primsC (fn := Tryz.f23) (by kernel_rfl) Tryz.func23 rfl rfl (by rfl) (by rfl) ?_
  have e27 := pe27 (n, s) hn.1
  simp only [Net.cells, findI] at e27
  cases hf : findL n.lines s with
  | none =>
    simp only [hf] at e27
    simp only [go_sem, reduceIte, Nat.reduceEqDiff, Nat.reduceAdd, Nat.reduceMul, Nat.reduceSub, Nat.reduceLeDiff, Nat.reduceLT, Nat.reduceBEq, reduceCtorEq, Net.cells, e27, neg_one, e48]
    simp [lineI, hf]
  | some i =>
    simp only [hf] at e27
    simp only [go_sem, reduceIte, Nat.reduceEqDiff, Nat.reduceAdd, Nat.reduceMul, Nat.reduceSub, Nat.reduceLeDiff, Nat.reduceLT, Nat.reduceBEq, reduceCtorEq, Net.cells, e27, neg_cast, e48]
    simp [lineI, hf]

theorem c24 (n : Net) (s : List Nat) (m : Int) (hn : n.fits) : ∀ lo H, CallOk NC lo 24 [.agg n.cells, .agg [.str s, i64 m]] H (i64 (hasI n.lines s m)) H := by
  refine contract saneNC primsC (fn := Tryz.f24) (by kernel_rfl) Tryz.func24 rfl rfl (by rfl) (by rfl) ?_
  have e106 := pe106 (n, s, m) hn
  simp only [Net.cells, i64] at e106
  simp only [go_sem, reduceIte, Nat.reduceEqDiff, Nat.reduceAdd, Nat.reduceMul, Nat.reduceSub, Nat.reduceLeDiff, Nat.reduceLT, Nat.reduceBEq, reduceCtorEq, Net.cells, e106]

/-- A piece's error, by the reference. -/
def pieceR (p : Pc) : Int :=
  let e := firstI [rangeI p.len 1 100000, rangeI p.post 0 9999999]
  if e = 0 then whenI (decide (postI p (wrapq .i64 (Int.sub p.len 1)) < 0) || decide (9999999 < postI p (wrapq .i64 (Int.sub p.len 1)))) 4 else e

theorem c179 (p : Pc) : ∀ lo H, CallOk NC lo 179 [.agg p.row] H (i64 (pieceR p)) H := by
  refine contract saneNC primsC (fn := Tryz.f179) (by kernel_rfl) Tryz.func179 rfl rfl (by rfl) (by rfl) ?_
  obtain ⟨l, q, b⟩ := p
  generalize hE : firstI [rangeI l 1 100000, rangeI q 0 9999999] = E
  generalize hF : postI ⟨l, q, b⟩ (wrapq .i64 (Int.sub l 1)) = F
  rcases Classical.propComplete (E = 0) with h0 | h0 <;> rcases Classical.propComplete (F < 0) with h1 | h1 <;> rcases Classical.propComplete (9999999 < F) with h2 | h2 <;> simp only [go_sem, reduceIte, Nat.reduceEqDiff, Nat.reduceAdd, Nat.reduceMul, Nat.reduceSub, Nat.reduceLeDiff, Nat.reduceLT, Nat.reduceBEq, reduceCtorEq, Pc.row, e35, e34_2, e109, e48, hE, hF, h0, h1, h2, AV.strip0] <;> simp [pieceR, hE, hF, h0, h1, h2]

/-! ### The program -/

def lastI (p : Pc) : Int := wrapq .i64 (Int.add p.post (wrapq .i64 (Int.mul (stepI p.back) (wrapq .i64 (Int.sub p.len 1)))))

theorem c226 (p : Pc) : ∀ lo H, CallOk NC lo 226 [.agg p.row] H (i64 (lastI p)) H := by
  refine contract saneNC primsC (fn := Tryz.f226) (by kernel_rfl) Tryz.func226 rfl rfl (by rfl) (by rfl) ?_
  obtain ⟨l, q, b⟩ := p
  simp only [go_sem, reduceIte, Nat.reduceEqDiff, Nat.reduceAdd, Nat.reduceMul, Nat.reduceSub, Nat.reduceLeDiff, Nat.reduceLT, Nat.reduceBEq, reduceCtorEq, Pc.row, e178]
  rfl

def metreI (p : Pc) (post : Int) : Int := wrapq .i64 (Int.mul (wrapq .i64 (Int.sub post p.post)) (stepI p.back))
def metreB (p : Pc) (post : Int) : Bool := !decide (metreI p post < 0) && decide (metreI p post < p.len)

theorem c134 (p : Pc) (post : Int) : ∀ lo H, CallOk NC lo 134 [.agg p.row, i64 post] H (.tup [i64 (metreI p post), .bool (metreB p post)]) H := by
  refine contract saneNC primsC (fn := Tryz.f134) (by kernel_rfl) Tryz.func134 rfl rfl (by rfl) (by rfl) ?_
  obtain ⟨l, q, b⟩ := p
  generalize hE : wrapq .i64 (Int.mul (wrapq .i64 (Int.sub post q)) (stepI b)) = E
  rcases Classical.propComplete (E < 0) with h1 | h1 <;> rcases Classical.propComplete (E < l) with h2 | h2 <;> simp only [go_sem, reduceIte, Nat.reduceEqDiff, Nat.reduceAdd, Nat.reduceMul, Nat.reduceSub, Nat.reduceLeDiff, Nat.reduceLT, Nat.reduceBEq, reduceCtorEq, Pc.row, e178, hE, h1, h2] <;> simp only [metreI, metreB, hE, h1, h2] <;> simp

end Go.Sim

/-
The reference: CheckNetwork.
-/
namespace Go.Sim
open Go Go.Proofs
set_option maxRecDepth 100000
set_option maxHeartbeats 2000000

noncomputable def p179 : List AV → Option AV := primOf (α := Pc) (fun x => [.agg x.row]) (fun _ => True) (fun x => i64 (pieceR x))
theorem pok179 : ∀ args v, p179 args = some v → ∀ lo H, CallOk NC lo 179 args H v H := by
  intro args v h
  obtain ⟨x, rfl, hp, rfl⟩ := primOf_inv h
  clear h
  revert x
  intro x; exact c179 x
theorem pe179 (x : Pc) (hp : (fun _ => True) x) : p179 ((fun x => [.agg x.row]) x) = some ((fun x => i64 (pieceR x)) x) := primOf_enc (by intro x y h; exact pc1_inj x y h) x hp
theorem e179 (l q : Int) (b : Bool) : p179 [.agg [.int .i64 l, .int .i64 q, .bool b]] = some (.int .i64 (pieceR ⟨l, q, b⟩)) := pe179 ⟨l, q, b⟩ trivial
noncomputable def p126 : List AV → Option AV := primOf (α := Net × List Nat × Int × Int) (fun x => [.agg x.1.cells, .str x.2.1, .agg [i64 x.2.2.1, i64 x.2.2.2]]) (fun x => x.1.fits) (fun x => i64 (metresI x.1.lines x.2.1 x.2.2.1 x.2.2.2))
theorem pok126 : ∀ args v, p126 args = some v → ∀ lo H, CallOk NC lo 126 args H v H := by
  intro args v h
  obtain ⟨x, rfl, hp, rfl⟩ := primOf_inv h
  clear h
  revert x
  intro x hx; exact c126 x.1 x.2.1 x.2.2.1 x.2.2.2 hx
theorem pe126 (x : Net × List Nat × Int × Int) (hp : (fun x => x.1.fits) x) : p126 ((fun x => [.agg x.1.cells, .str x.2.1, .agg [i64 x.2.2.1, i64 x.2.2.2]]) x) = some ((fun x => i64 (metresI x.1.lines x.2.1 x.2.2.1 x.2.2.2)) x) := primOf_enc (by intro x y h; (obtain ⟨a, b, c, d⟩ := x; obtain ⟨a', b', c', d'⟩ := y; simp only [List.cons.injEq, AV.agg.injEq, AV.str.injEq, AV.int.injEq, true_and, and_true] at h; obtain ⟨h1, rfl, rfl, rfl⟩ := h; rw [Net.cells_inj _ _ h1])) x hp

noncomputable def PPD : FuncId → Option (List AV → Option AV) := addPrim 126 p126 (addPrim 179 p179 (PPC))
theorem primsD : PrimsOk NC PPD := primsOk_add (primsOk_add (primsC) (by kernel_rfl) (by kernel_rfl) pok179) (by kernel_rfl) (by kernel_rfl) pok126
theorem enD_48 {rec : Rec} {lo : Nat} {args : List AV} {H : Heap} {K : AV → Heap → Prop} : VO (aenter (NC.withPrims PPD) rec lo 48 args H) K = AO (p48 args) fun v => K v H := enter_prim (by rfl) (by kernel_rfl)
theorem enD_121 {rec : Rec} {lo : Nat} {args : List AV} {H : Heap} {K : AV → Heap → Prop} : VO (aenter (NC.withPrims PPD) rec lo 121 args H) K = AO (p121 args) fun v => K v H := enter_prim (by rfl) (by kernel_rfl)
theorem enD_34 {rec : Rec} {lo : Nat} {args : List AV} {H : Heap} {K : AV → Heap → Prop} : VO (aenter (NC.withPrims PPD) rec lo 34 args H) K = AO (p34 args) fun v => K v H := enter_prim (by rfl) (by kernel_rfl)
theorem enD_111 {rec : Rec} {lo : Nat} {args : List AV} {H : Heap} {K : AV → Heap → Prop} : VO (aenter (NC.withPrims PPD) rec lo 111 args H) K = AO (p111 args) fun v => K v H := enter_prim (by rfl) (by kernel_rfl)
theorem enD_26 {rec : Rec} {lo : Nat} {args : List AV} {H : Heap} {K : AV → Heap → Prop} : VO (aenter (NC.withPrims PPD) rec lo 26 args H) K = AO (p26 args) fun v => K v H := enter_prim (by rfl) (by kernel_rfl)
theorem enD_178 {rec : Rec} {lo : Nat} {args : List AV} {H : Heap} {K : AV → Heap → Prop} : VO (aenter (NC.withPrims PPD) rec lo 178 args H) K = AO (p178 args) fun v => K v H := enter_prim (by rfl) (by kernel_rfl)
theorem enD_109 {rec : Rec} {lo : Nat} {args : List AV} {H : Heap} {K : AV → Heap → Prop} : VO (aenter (NC.withPrims PPD) rec lo 109 args H) K = AO (p109 args) fun v => K v H := enter_prim (by rfl) (by kernel_rfl)
theorem enD_108 {rec : Rec} {lo : Nat} {args : List AV} {H : Heap} {K : AV → Heap → Prop} : VO (aenter (NC.withPrims PPD) rec lo 108 args H) K = AO (p108 args) fun v => K v H := enter_prim (by rfl) (by kernel_rfl)
theorem enD_27 {rec : Rec} {lo : Nat} {args : List AV} {H : Heap} {K : AV → Heap → Prop} : VO (aenter (NC.withPrims PPD) rec lo 27 args H) K = AO (p27 args) fun v => K v H := enter_prim (by rfl) (by kernel_rfl)
theorem enD_97 {rec : Rec} {lo : Nat} {args : List AV} {H : Heap} {K : AV → Heap → Prop} : VO (aenter (NC.withPrims PPD) rec lo 97 args H) K = AO (p97 args) fun v => K v H := enter_prim (by rfl) (by kernel_rfl)
theorem enD_122 {rec : Rec} {lo : Nat} {args : List AV} {H : Heap} {K : AV → Heap → Prop} : VO (aenter (NC.withPrims PPD) rec lo 122 args H) K = AO (p122 args) fun v => K v H := enter_prim (by rfl) (by kernel_rfl)
theorem enD_182 {rec : Rec} {lo : Nat} {args : List AV} {H : Heap} {K : AV → Heap → Prop} : VO (aenter (NC.withPrims PPD) rec lo 182 args H) K = AO (p182 args) fun v => K v H := enter_prim (by rfl) (by kernel_rfl)
theorem enD_35 {rec : Rec} {lo : Nat} {args : List AV} {H : Heap} {K : AV → Heap → Prop} : VO (aenter (NC.withPrims PPD) rec lo 35 args H) K = AO (p35 args) fun v => K v H := enter_prim (by rfl) (by kernel_rfl)
theorem enD_115 {rec : Rec} {lo : Nat} {args : List AV} {H : Heap} {K : AV → Heap → Prop} : VO (aenter (NC.withPrims PPD) rec lo 115 args H) K = AO (p115 args) fun v => K v H := enter_prim (by rfl) (by kernel_rfl)
theorem enD_36 {rec : Rec} {lo : Nat} {args : List AV} {H : Heap} {K : AV → Heap → Prop} : VO (aenter (NC.withPrims PPD) rec lo 36 args H) K = AO (p36 args) fun v => K v H := enter_prim (by rfl) (by kernel_rfl)
theorem enD_120 {rec : Rec} {lo : Nat} {args : List AV} {H : Heap} {K : AV → Heap → Prop} : VO (aenter (NC.withPrims PPD) rec lo 120 args H) K = AO (p120 args) fun v => K v H := enter_prim (by rfl) (by kernel_rfl)
theorem enD_106 {rec : Rec} {lo : Nat} {args : List AV} {H : Heap} {K : AV → Heap → Prop} : VO (aenter (NC.withPrims PPD) rec lo 106 args H) K = AO (p106 args) fun v => K v H := enter_prim (by rfl) (by kernel_rfl)
theorem enD_179 {rec : Rec} {lo : Nat} {args : List AV} {H : Heap} {K : AV → Heap → Prop} : VO (aenter (NC.withPrims PPD) rec lo 179 args H) K = AO (p179 args) fun v => K v H := enter_prim (by rfl) (by kernel_rfl)
theorem enD_126 {rec : Rec} {lo : Nat} {args : List AV} {H : Heap} {K : AV → Heap → Prop} : VO (aenter (NC.withPrims PPD) rec lo 126 args H) K = AO (p126 args) fun v => K v H := enter_prim (by rfl) (by kernel_rfl)
attribute [go_sem ↓] enD_48 enD_121 enD_34 enD_111 enD_26 enD_178 enD_109 enD_108 enD_27 enD_97 enD_122 enD_182
attribute [go_sem ↓] enD_35 enD_115 enD_36 enD_120 enD_106 enD_179 enD_126


theorem errs_at {f : Nat → Int} {n k : Nat} (h : k < n) : ((List.range n).map f)[k]? = some (f k) := by simp [h]

/-- A line's error, by the reference. -/
def lineR (n : Net) (i : Nat) : Int := match n.lines[i]? with
  | none => 0
  | some l =>
    let e := firstI [whenI (!nameB l.name) 8, whenI (decide (findI n.lines l.name < i)) 9, whenI (decide ((l.ps.length : Int) = 0)) 12, whenI (decide ((8 : Int) < l.ps.length)) 5]
    if e = 0 then firstI (l.ps.map pieceR) else e

theorem c103 (n : Net) (i : Nat) (hn : n.fits) (hi : i < n.lines.length) : ∀ lo H, CallOk NC lo 103 [.agg n.cells, i64 i] H (i64 (lineR n i)) H := by
  refine contract saneNC primsD (fn := Tryz.f103) (by kernel_rfl) Tryz.func103 rfl rfl (by rfl) (by rfl) ?_
  obtain ⟨l, hl⟩ : ∃ l, n.lines[i]? = some l := ⟨n.lines[i], by simp⟩
  have hfit : l.ps.length ≤ maxRows := hn.2 l (List.mem_of_getElem? hl)
  have e27 := pe27 (n, l.name) hn.1
  simp only [Net.cells, i64] at e27
  have hr := map_at (f := Ln.row) hl
  simp only [Ln.row] at hr
  generalize hE : firstI [whenI (!nameB l.name) 8, whenI (decide (findI n.lines l.name < i)) 9, whenI (decide ((l.ps.length : Int) = 0)) 12, whenI (decide ((8 : Int) < l.ps.length)) 5] = E
  have hsp : lineR n i = if E = 0 then firstI (l.ps.map pieceR) else E := by
    unfold lineR
    simp only [hl, hE]
  rcases Classical.propComplete (E = 0) with h0 | h0
  · simp only [go_sem, reduceIte, Nat.reduceEqDiff, Nat.reduceAdd, Nat.reduceMul, Nat.reduceSub, Nat.reduceLeDiff, Nat.reduceLT, Nat.reduceBEq, reduceCtorEq, Net.cells, List.length_map, hi, hr, e36, e27, e48, e34_4, hE, h0]
    refine W_for (fun k T H M => M = [] ∧ getT T 5 = .ptr 1 0 ∧ H.get 1 = .cells [.str l.name, .ps .unk (l.ps.map Pc.row)] 56 ∧ getT T 7 = i64 k ∧ firstI (l.ps.map pieceR) = firstI ((l.ps.map pieceR).drop k)) l.ps.length ?_ ?_ ?_
    · simp only [go_sem, reduceIte, Nat.reduceEqDiff, Nat.reduceAdd, Nat.reduceMul, Nat.reduceSub, Nat.reduceLeDiff, Nat.reduceLT, Nat.reduceBEq, reduceCtorEq]
    · rintro k T H M hk ⟨rfl, g5, gH, g7, hf⟩
      obtain ⟨p, hp⟩ : ∃ p, l.ps[k]? = some p := ⟨l.ps[k], by simp⟩
      have hpr := map_at (f := Pc.row) hp
      have hw := wrap_succ hk hfit
      have hfd := firstI_drop (map_at (f := pieceR) hp)
      obtain ⟨pl, pq, pb⟩ := p
      generalize hF : pieceR ⟨pl, pq, pb⟩ = F at hfd
      simp only [Pc.row] at hpr
      rcases Classical.propComplete (F = 0) with h1 | h1
      · simp only [go_sem, reduceIte, Nat.reduceEqDiff, Nat.reduceAdd, Nat.reduceMul, Nat.reduceSub, Nat.reduceLeDiff, Nat.reduceLT, Nat.reduceBEq, reduceCtorEq, g5, gH, g7, List.length_map, hk, hpr, hw, e179, hF, h1]
        simp [hf, hfd, h1]
      · simp only [go_sem, reduceIte, Nat.reduceEqDiff, Nat.reduceAdd, Nat.reduceMul, Nat.reduceSub, Nat.reduceLeDiff, Nat.reduceLT, Nat.reduceBEq, reduceCtorEq, g5, gH, g7, List.length_map, hk, hpr, hw, e179, hF, h1]
        simp [hsp, h0, hf, hfd, h1]
    · rintro T H M ⟨rfl, g5, gH, g7, hf⟩
      simp only [go_sem, reduceIte, Nat.reduceEqDiff, Nat.reduceAdd, Nat.reduceMul, Nat.reduceSub, Nat.reduceLeDiff, Nat.reduceLT, Nat.reduceBEq, reduceCtorEq, g5, gH, g7, List.length_map, Nat.lt_irrefl]
      rw [List.drop_eq_nil_of_le (by simp)] at hf
      simp [hsp, h0, hf, firstI]
  · simp only [go_sem, reduceIte, Nat.reduceEqDiff, Nat.reduceAdd, Nat.reduceMul, Nat.reduceSub, Nat.reduceLeDiff, Nat.reduceLT, Nat.reduceBEq, reduceCtorEq, Net.cells, List.length_map, hi, hr, e36, e27, e48, e34_4, hE, h0]
    simp [hsp, h0]

def dupB {α : Type} (nm : α → List Nat) (l : List α) (i : Nat) (s : List Nat) : Bool := (l.take i).any fun x => beqL (nm x) s

theorem dupB_true {α : Type} {nm : α → List Nat} {l : List α} {i k : Nat} {s : List Nat} {x : α} (hk : k < i) (h : l[k]? = some x) (hb : beqL (nm x) s = true) : dupB nm l i s = true := by
  unfold dupB
  rw [List.any_eq_true]
  exact ⟨x, List.mem_of_getElem? (i := k) (by rw [List.getElem?_take_of_lt hk]; exact h), hb⟩
theorem dupB_false {α : Type} {nm : α → List Nat} {l : List α} {i : Nat} {s : List Nat} (h : ∀ (j : Nat) (x : α), j < i → l[j]? = some x → beqL (nm x) s = false) : dupB nm l i s = false := by
  unfold dupB
  rw [List.any_eq_false]
  intro x hx
  obtain ⟨j, hj⟩ := List.mem_iff_getElem?.1 hx
  rw [List.getElem?_take] at hj
  split at hj
  · rename_i hlt; simp [h j x hlt hj]
  · cases hj

def switchR (n : Net) (i : Nat) : Int := match n.sws[i]? with
  | none => 0
  | some s =>
    let e := whenI (!nameB s.name) 8
    if e = 0 then (if dupB Sw.name n.sws i s.name then 9 else firstI [hasI n.lines s.line s.metre, whenI (decide (findI n.lines s.other < 0)) 10, whenI (beqL s.line s.other) 24]) else e

theorem c104 (n : Net) (i : Nat) (hn : n.fits) (hi : i < n.sws.length) (hs : n.sws.length ≤ maxRows) : ∀ lo H, CallOk NC lo 104 [.agg n.cells, i64 i] H (i64 (switchR n i)) H := by
  refine contract saneNC primsD (fn := Tryz.f104) (by kernel_rfl) Tryz.func104 rfl rfl (by rfl) (by rfl) ?_
  obtain ⟨s, hl⟩ : ∃ s, n.sws[i]? = some s := ⟨n.sws[i], by simp⟩
  have e27 := pe27 (n, s.other) hn.1
  simp only [Net.cells, i64] at e27
  have e106 := pe106 (n, s.line, s.metre) hn
  simp only [Net.cells, i64] at e106
  have hr := map_at (f := Sw.row) hl
  simp only [Sw.row] at hr
  generalize hE : whenI (!nameB s.name) 8 = E
  rcases Classical.propComplete (E = 0) with h0 | h0
  · simp only [go_sem, reduceIte, Nat.reduceEqDiff, Nat.reduceAdd, Nat.reduceMul, Nat.reduceSub, Nat.reduceLeDiff, Nat.reduceLT, Nat.reduceBEq, reduceCtorEq, Net.cells, List.length_map, hi, hr, e36, hE, h0]
    refine W_for (fun k T H M => M = [] ∧ getT T 2 = .ptr 0 0 ∧ getT T 5 = .ptr 1 0 ∧ H.get 0 = .cells n.cells 26 ∧ H.get 1 = .cells s.row 191 ∧ getT T 1 = i64 i ∧ getT T 7 = i64 k ∧ ∀ (j : Nat) (x : Sw), j < k → n.sws[j]? = some x → beqL x.name s.name = false) i ?_ ?_ ?_
    · simp only [go_sem, reduceIte, Nat.reduceEqDiff, Nat.reduceAdd, Nat.reduceMul, Nat.reduceSub, Nat.reduceLeDiff, Nat.reduceLT, Nat.reduceBEq, reduceCtorEq]; exact ⟨rfl, rfl, fun j x hj => by omega⟩
    · rintro k T H M hk ⟨rfl, g2, g5, gH, gH1, g1, g7, hf⟩
      have hk' : k < n.sws.length := by omega
      obtain ⟨x, hx⟩ : ∃ p, n.sws[k]? = some p := ⟨n.sws[k], by simp⟩
      have hxr := map_at (f := Sw.row) hx
      have hw := wrap_succ hk' hs
      simp only [Sw.row] at hxr
      cases hb : beqL x.name s.name with
      | true =>
        simp only [go_sem, reduceIte, Nat.reduceEqDiff, Nat.reduceAdd, Nat.reduceMul, Nat.reduceSub, Nat.reduceLeDiff, Nat.reduceLT, Nat.reduceBEq, reduceCtorEq, g1, g2, g5, gH, gH1, g7, Net.cells, Sw.row, List.length_map, hk, hk', hxr, hw, hb]
        simp [switchR, hl, hE, h0, dupB_true hk hx hb]
      | false =>
        simp only [go_sem, reduceIte, Nat.reduceEqDiff, Nat.reduceAdd, Nat.reduceMul, Nat.reduceSub, Nat.reduceLeDiff, Nat.reduceLT, Nat.reduceBEq, reduceCtorEq, g1, g2, g5, gH, gH1, g7, Net.cells, Sw.row, List.length_map, hk, hk', hxr, hw, hb]
        intro j y hj hy
        by_cases e : j = k
        · subst e; rw [hx] at hy; cases hy; exact hb
        · exact hf j y (by omega) hy
    · rintro T H M ⟨rfl, g2, g5, gH, gH1, g1, g7, hf⟩
      have hd := dupB_false hf
      simp only [go_sem, reduceIte, Nat.reduceEqDiff, Nat.reduceAdd, Nat.reduceMul, Nat.reduceSub, Nat.reduceLeDiff, Nat.reduceLT, Nat.reduceBEq, reduceCtorEq, g1, g2, g5, gH, gH1, g7, Net.cells, Sw.row, Nat.lt_irrefl, e106, e27, e48, e34_3]
      simp [switchR, hl, hE, h0, hd]
  · simp only [go_sem, reduceIte, Nat.reduceEqDiff, Nat.reduceAdd, Nat.reduceMul, Nat.reduceSub, Nat.reduceLeDiff, Nat.reduceLT, Nat.reduceBEq, reduceCtorEq, Net.cells, List.length_map, hi, hr, e36, hE, h0]
    simp [switchR, hl, hE, h0]

def structR (n : Net) (i : Nat) : Int := match n.sts[i]? with
  | none => 0
  | some s =>
    let e := whenI (!nameB s.name) 8
    if e = 0 then (if dupB Stc.name n.sts i s.name then 9 else firstI [whenI (!decide (whenI (!nameB s.kind) 8 = 0)) 13, metresI n.lines s.line s.fr s.till]) else e

theorem c105 (n : Net) (i : Nat) (hn : n.fits) (hi : i < n.sts.length) (hs : n.sts.length ≤ maxRows) : ∀ lo H, CallOk NC lo 105 [.agg n.cells, i64 i] H (i64 (structR n i)) H := by
  refine contract saneNC primsD (fn := Tryz.f105) (by kernel_rfl) Tryz.func105 rfl rfl (by rfl) (by rfl) ?_
  obtain ⟨s, hl⟩ : ∃ s, n.sts[i]? = some s := ⟨n.sts[i], by simp⟩
  have e126 := pe126 (n, s.line, s.fr, s.till) hn
  simp only [Net.cells, i64] at e126
  have hr := map_at (f := Stc.row) hl
  simp only [Stc.row] at hr
  generalize hE : whenI (!nameB s.name) 8 = E
  rcases Classical.propComplete (E = 0) with h0 | h0
  · simp only [go_sem, reduceIte, Nat.reduceEqDiff, Nat.reduceAdd, Nat.reduceMul, Nat.reduceSub, Nat.reduceLeDiff, Nat.reduceLT, Nat.reduceBEq, reduceCtorEq, Net.cells, List.length_map, hi, hr, e36, hE, h0]
    refine W_for (fun k T H M => M = [] ∧ getT T 2 = .ptr 0 0 ∧ getT T 5 = .ptr 1 0 ∧ H.get 0 = .cells n.cells 26 ∧ H.get 1 = .cells s.row 193 ∧ getT T 1 = i64 i ∧ getT T 7 = i64 k ∧ ∀ (j : Nat) (x : Stc), j < k → n.sts[j]? = some x → beqL x.name s.name = false) i ?_ ?_ ?_
    · simp only [go_sem, reduceIte, Nat.reduceEqDiff, Nat.reduceAdd, Nat.reduceMul, Nat.reduceSub, Nat.reduceLeDiff, Nat.reduceLT, Nat.reduceBEq, reduceCtorEq]; exact ⟨rfl, rfl, fun j x hj => by omega⟩
    · rintro k T H M hk ⟨rfl, g2, g5, gH, gH1, g1, g7, hf⟩
      have hk' : k < n.sts.length := by omega
      obtain ⟨x, hx⟩ : ∃ p, n.sts[k]? = some p := ⟨n.sts[k], by simp⟩
      have hxr := map_at (f := Stc.row) hx
      have hw := wrap_succ hk' hs
      simp only [Stc.row] at hxr
      cases hb : beqL x.name s.name with
      | true =>
        simp only [go_sem, reduceIte, Nat.reduceEqDiff, Nat.reduceAdd, Nat.reduceMul, Nat.reduceSub, Nat.reduceLeDiff, Nat.reduceLT, Nat.reduceBEq, reduceCtorEq, g1, g2, g5, gH, gH1, g7, Net.cells, Stc.row, List.length_map, hk, hk', hxr, hw, hb]
        simp [structR, hl, hE, h0, dupB_true hk hx hb]
      | false =>
        simp only [go_sem, reduceIte, Nat.reduceEqDiff, Nat.reduceAdd, Nat.reduceMul, Nat.reduceSub, Nat.reduceLeDiff, Nat.reduceLT, Nat.reduceBEq, reduceCtorEq, g1, g2, g5, gH, gH1, g7, Net.cells, Stc.row, List.length_map, hk, hk', hxr, hw, hb]
        intro j y hj hy
        by_cases e : j = k
        · subst e; rw [hx] at hy; cases hy; exact hb
        · exact hf j y (by omega) hy
    · rintro T H M ⟨rfl, g2, g5, gH, gH1, g1, g7, hf⟩
      have hd := dupB_false hf
      simp only [go_sem, reduceIte, Nat.reduceEqDiff, Nat.reduceAdd, Nat.reduceMul, Nat.reduceSub, Nat.reduceLeDiff, Nat.reduceLT, Nat.reduceBEq, reduceCtorEq, g1, g2, g5, gH, gH1, g7, Net.cells, Stc.row, Nat.lt_irrefl, e36, e126, e48, e34_2]
      simp [structR, hl, hE, h0, hd]
  · simp only [go_sem, reduceIte, Nat.reduceEqDiff, Nat.reduceAdd, Nat.reduceMul, Nat.reduceSub, Nat.reduceLeDiff, Nat.reduceLT, Nat.reduceBEq, reduceCtorEq, Net.cells, List.length_map, hi, hr, e36, hE, h0]
    simp [structR, hl, hE, h0]


noncomputable def p103 : List AV → Option AV := primOf (α := Net × Nat) (fun x => [.agg x.1.cells, i64 x.2]) (fun x => x.1.fits ∧ x.2 < x.1.lines.length) (fun x => i64 (lineR x.1 x.2))
theorem pok103 : ∀ args v, p103 args = some v → ∀ lo H, CallOk NC lo 103 args H v H := by
  intro args v h
  obtain ⟨x, rfl, hp, rfl⟩ := primOf_inv h
  clear h
  revert x
  intro x hx; exact c103 x.1 x.2 hx.1 hx.2
theorem pe103 (x : Net × Nat) (hp : (fun x => x.1.fits ∧ x.2 < x.1.lines.length) x) : p103 ((fun x => [.agg x.1.cells, i64 x.2]) x) = some ((fun x => i64 (lineR x.1 x.2)) x) := primOf_enc (by intro x y h; (obtain ⟨a, b⟩ := x; obtain ⟨c, d⟩ := y; simp only [List.cons.injEq, AV.agg.injEq, AV.int.injEq, true_and, and_true] at h; obtain ⟨h1, h2⟩ := h; rw [Net.cells_inj _ _ h1, Int.ofNat.inj h2])) x hp
noncomputable def p104 : List AV → Option AV := primOf (α := Net × Nat) (fun x => [.agg x.1.cells, i64 x.2]) (fun x => x.1.fits ∧ x.2 < x.1.sws.length ∧ x.1.sws.length ≤ maxRows) (fun x => i64 (switchR x.1 x.2))
theorem pok104 : ∀ args v, p104 args = some v → ∀ lo H, CallOk NC lo 104 args H v H := by
  intro args v h
  obtain ⟨x, rfl, hp, rfl⟩ := primOf_inv h
  clear h
  revert x
  intro x hx; exact c104 x.1 x.2 hx.1 hx.2.1 hx.2.2
theorem pe104 (x : Net × Nat) (hp : (fun x => x.1.fits ∧ x.2 < x.1.sws.length ∧ x.1.sws.length ≤ maxRows) x) : p104 ((fun x => [.agg x.1.cells, i64 x.2]) x) = some ((fun x => i64 (switchR x.1 x.2)) x) := primOf_enc (by intro x y h; (obtain ⟨a, b⟩ := x; obtain ⟨c, d⟩ := y; simp only [List.cons.injEq, AV.agg.injEq, AV.int.injEq, true_and, and_true] at h; obtain ⟨h1, h2⟩ := h; rw [Net.cells_inj _ _ h1, Int.ofNat.inj h2])) x hp
noncomputable def p105 : List AV → Option AV := primOf (α := Net × Nat) (fun x => [.agg x.1.cells, i64 x.2]) (fun x => x.1.fits ∧ x.2 < x.1.sts.length ∧ x.1.sts.length ≤ maxRows) (fun x => i64 (structR x.1 x.2))
theorem pok105 : ∀ args v, p105 args = some v → ∀ lo H, CallOk NC lo 105 args H v H := by
  intro args v h
  obtain ⟨x, rfl, hp, rfl⟩ := primOf_inv h
  clear h
  revert x
  intro x hx; exact c105 x.1 x.2 hx.1 hx.2.1 hx.2.2
theorem pe105 (x : Net × Nat) (hp : (fun x => x.1.fits ∧ x.2 < x.1.sts.length ∧ x.1.sts.length ≤ maxRows) x) : p105 ((fun x => [.agg x.1.cells, i64 x.2]) x) = some ((fun x => i64 (structR x.1 x.2)) x) := primOf_enc (by intro x y h; (obtain ⟨a, b⟩ := x; obtain ⟨c, d⟩ := y; simp only [List.cons.injEq, AV.agg.injEq, AV.int.injEq, true_and, and_true] at h; obtain ⟨h1, h2⟩ := h; rw [Net.cells_inj _ _ h1, Int.ofNat.inj h2])) x hp
noncomputable def PPE : FuncId → Option (List AV → Option AV) := addPrim 105 p105 (addPrim 104 p104 (addPrim 103 p103 (PPD)))
theorem primsE : PrimsOk NC PPE := primsOk_add (primsOk_add (primsOk_add (primsD) (by kernel_rfl) (by kernel_rfl) pok103) (by kernel_rfl) (by kernel_rfl) pok104) (by kernel_rfl) (by kernel_rfl) pok105
theorem enE_48 {rec : Rec} {lo : Nat} {args : List AV} {H : Heap} {K : AV → Heap → Prop} : VO (aenter (NC.withPrims PPE) rec lo 48 args H) K = AO (p48 args) fun v => K v H := enter_prim (by rfl) (by kernel_rfl)
theorem enE_121 {rec : Rec} {lo : Nat} {args : List AV} {H : Heap} {K : AV → Heap → Prop} : VO (aenter (NC.withPrims PPE) rec lo 121 args H) K = AO (p121 args) fun v => K v H := enter_prim (by rfl) (by kernel_rfl)
theorem enE_34 {rec : Rec} {lo : Nat} {args : List AV} {H : Heap} {K : AV → Heap → Prop} : VO (aenter (NC.withPrims PPE) rec lo 34 args H) K = AO (p34 args) fun v => K v H := enter_prim (by rfl) (by kernel_rfl)
theorem enE_111 {rec : Rec} {lo : Nat} {args : List AV} {H : Heap} {K : AV → Heap → Prop} : VO (aenter (NC.withPrims PPE) rec lo 111 args H) K = AO (p111 args) fun v => K v H := enter_prim (by rfl) (by kernel_rfl)
theorem enE_26 {rec : Rec} {lo : Nat} {args : List AV} {H : Heap} {K : AV → Heap → Prop} : VO (aenter (NC.withPrims PPE) rec lo 26 args H) K = AO (p26 args) fun v => K v H := enter_prim (by rfl) (by kernel_rfl)
theorem enE_178 {rec : Rec} {lo : Nat} {args : List AV} {H : Heap} {K : AV → Heap → Prop} : VO (aenter (NC.withPrims PPE) rec lo 178 args H) K = AO (p178 args) fun v => K v H := enter_prim (by rfl) (by kernel_rfl)
theorem enE_109 {rec : Rec} {lo : Nat} {args : List AV} {H : Heap} {K : AV → Heap → Prop} : VO (aenter (NC.withPrims PPE) rec lo 109 args H) K = AO (p109 args) fun v => K v H := enter_prim (by rfl) (by kernel_rfl)
theorem enE_108 {rec : Rec} {lo : Nat} {args : List AV} {H : Heap} {K : AV → Heap → Prop} : VO (aenter (NC.withPrims PPE) rec lo 108 args H) K = AO (p108 args) fun v => K v H := enter_prim (by rfl) (by kernel_rfl)
theorem enE_27 {rec : Rec} {lo : Nat} {args : List AV} {H : Heap} {K : AV → Heap → Prop} : VO (aenter (NC.withPrims PPE) rec lo 27 args H) K = AO (p27 args) fun v => K v H := enter_prim (by rfl) (by kernel_rfl)
theorem enE_97 {rec : Rec} {lo : Nat} {args : List AV} {H : Heap} {K : AV → Heap → Prop} : VO (aenter (NC.withPrims PPE) rec lo 97 args H) K = AO (p97 args) fun v => K v H := enter_prim (by rfl) (by kernel_rfl)
theorem enE_122 {rec : Rec} {lo : Nat} {args : List AV} {H : Heap} {K : AV → Heap → Prop} : VO (aenter (NC.withPrims PPE) rec lo 122 args H) K = AO (p122 args) fun v => K v H := enter_prim (by rfl) (by kernel_rfl)
theorem enE_182 {rec : Rec} {lo : Nat} {args : List AV} {H : Heap} {K : AV → Heap → Prop} : VO (aenter (NC.withPrims PPE) rec lo 182 args H) K = AO (p182 args) fun v => K v H := enter_prim (by rfl) (by kernel_rfl)
theorem enE_35 {rec : Rec} {lo : Nat} {args : List AV} {H : Heap} {K : AV → Heap → Prop} : VO (aenter (NC.withPrims PPE) rec lo 35 args H) K = AO (p35 args) fun v => K v H := enter_prim (by rfl) (by kernel_rfl)
theorem enE_115 {rec : Rec} {lo : Nat} {args : List AV} {H : Heap} {K : AV → Heap → Prop} : VO (aenter (NC.withPrims PPE) rec lo 115 args H) K = AO (p115 args) fun v => K v H := enter_prim (by rfl) (by kernel_rfl)
theorem enE_36 {rec : Rec} {lo : Nat} {args : List AV} {H : Heap} {K : AV → Heap → Prop} : VO (aenter (NC.withPrims PPE) rec lo 36 args H) K = AO (p36 args) fun v => K v H := enter_prim (by rfl) (by kernel_rfl)
theorem enE_120 {rec : Rec} {lo : Nat} {args : List AV} {H : Heap} {K : AV → Heap → Prop} : VO (aenter (NC.withPrims PPE) rec lo 120 args H) K = AO (p120 args) fun v => K v H := enter_prim (by rfl) (by kernel_rfl)
theorem enE_106 {rec : Rec} {lo : Nat} {args : List AV} {H : Heap} {K : AV → Heap → Prop} : VO (aenter (NC.withPrims PPE) rec lo 106 args H) K = AO (p106 args) fun v => K v H := enter_prim (by rfl) (by kernel_rfl)
theorem enE_179 {rec : Rec} {lo : Nat} {args : List AV} {H : Heap} {K : AV → Heap → Prop} : VO (aenter (NC.withPrims PPE) rec lo 179 args H) K = AO (p179 args) fun v => K v H := enter_prim (by rfl) (by kernel_rfl)
theorem enE_126 {rec : Rec} {lo : Nat} {args : List AV} {H : Heap} {K : AV → Heap → Prop} : VO (aenter (NC.withPrims PPE) rec lo 126 args H) K = AO (p126 args) fun v => K v H := enter_prim (by rfl) (by kernel_rfl)
theorem enE_103 {rec : Rec} {lo : Nat} {args : List AV} {H : Heap} {K : AV → Heap → Prop} : VO (aenter (NC.withPrims PPE) rec lo 103 args H) K = AO (p103 args) fun v => K v H := enter_prim (by rfl) (by kernel_rfl)
theorem enE_104 {rec : Rec} {lo : Nat} {args : List AV} {H : Heap} {K : AV → Heap → Prop} : VO (aenter (NC.withPrims PPE) rec lo 104 args H) K = AO (p104 args) fun v => K v H := enter_prim (by rfl) (by kernel_rfl)
theorem enE_105 {rec : Rec} {lo : Nat} {args : List AV} {H : Heap} {K : AV → Heap → Prop} : VO (aenter (NC.withPrims PPE) rec lo 105 args H) K = AO (p105 args) fun v => K v H := enter_prim (by rfl) (by kernel_rfl)
attribute [go_sem ↓] enE_48 enE_121 enE_34 enE_111 enE_26 enE_178 enE_109 enE_108 enE_27 enE_97 enE_122 enE_182
attribute [go_sem ↓] enE_35 enE_115 enE_36 enE_120 enE_106 enE_179 enE_126 enE_103 enE_104 enE_105


def allR (f : Nat → Int) (n : Nat) : Int := firstI ((List.range n).map f)

theorem allR_step {f : Nat → Int} {n k : Nat} (h : k < n) : firstI (((List.range n).map f).drop k) = if f k = 0 then firstI (((List.range n).map f).drop (k + 1)) else f k := firstI_drop (errs_at h)
theorem allR_end (f : Nat → Int) (n : Nat) : firstI (((List.range n).map f).drop n) = 0 := by
  rw [List.drop_eq_nil_of_le (by simp)]; rfl

/-- A network's error, by the reference. -/
def netR (n : Net) : Int :=
  if (8 : Int) < n.lines.length then 5 else
  if allR (lineR n) n.lines.length = 0 then
    if (8 : Int) < n.sws.length then 5 else
    if allR (switchR n) n.sws.length = 0 then
      if (16 : Int) < n.sts.length then 5 else allR (structR n) n.sts.length
    else allR (switchR n) n.sws.length
  else allR (lineR n) n.lines.length

theorem c22 (n : Net) (hn : n.fits) (h1 : n.sws.length ≤ maxRows) (h2 : n.sts.length ≤ maxRows) : ∀ lo H, CallOk NC lo 22 [.agg n.cells] H (i64 (netR n)) H := by
  refine contract saneNC primsE (fn := Tryz.f22) (by kernel_rfl) Tryz.func22 rfl rfl (by rfl) (by rfl) ?_
  have e103 : ∀ k, k < n.lines.length → p103 [.agg [.ps .unk (n.lines.map Ln.row), .ps .unk (n.sws.map Sw.row), .ps .unk (n.sts.map Stc.row)], .int .i64 (k : Nat)] = some (.int .i64 (lineR n k)) := fun k hk => pe103 (n, k) ⟨hn, hk⟩
  have e104 : ∀ k, k < n.sws.length → p104 [.agg [.ps .unk (n.lines.map Ln.row), .ps .unk (n.sws.map Sw.row), .ps .unk (n.sts.map Stc.row)], .int .i64 (k : Nat)] = some (.int .i64 (switchR n k)) := fun k hk => pe104 (n, k) ⟨hn, hk, h1⟩
  have e105 : ∀ k, k < n.sts.length → p105 [.agg [.ps .unk (n.lines.map Ln.row), .ps .unk (n.sws.map Sw.row), .ps .unk (n.sts.map Stc.row)], .int .i64 (k : Nat)] = some (.int .i64 (structR n k)) := fun k hk => pe105 (n, k) ⟨hn, hk, h2⟩
  rcases Classical.propComplete ((8 : Int) < n.lines.length) with q1 | q1
  · simp only [go_sem, reduceIte, Nat.reduceEqDiff, Nat.reduceAdd, Nat.reduceMul, Nat.reduceSub, Nat.reduceLeDiff, Nat.reduceLT, Nat.reduceBEq, reduceCtorEq, Net.cells, List.length_map, q1]
    simp [netR, q1]
  simp only [go_sem, reduceIte, Nat.reduceEqDiff, Nat.reduceAdd, Nat.reduceMul, Nat.reduceSub, Nat.reduceLeDiff, Nat.reduceLT, Nat.reduceBEq, reduceCtorEq, Net.cells, List.length_map, q1]
  refine W_for (fun k T H M => M = [] ∧ getT T 1 = .ptr 0 0 ∧ H.get 0 = .cells n.cells 26 ∧ getT T 3 = i64 k ∧ allR (lineR n) n.lines.length = firstI (((List.range n.lines.length).map (lineR n)).drop k)) n.lines.length ?_ ?_ ?_
  · simp only [go_sem, reduceIte, Nat.reduceEqDiff, Nat.reduceAdd, Nat.reduceMul, Nat.reduceSub, Nat.reduceLeDiff, Nat.reduceLT, Nat.reduceBEq, reduceCtorEq]; exact ⟨rfl, rfl⟩
  · rintro k T H M hk ⟨rfl, g1, gH, g3, hf⟩
    have hw := wrap_succ hk hn.1
    have hfd := allR_step (f := lineR n) hk
    rcases Classical.propComplete (lineR n k = 0) with z | z
    · simp only [go_sem, reduceIte, Nat.reduceEqDiff, Nat.reduceAdd, Nat.reduceMul, Nat.reduceSub, Nat.reduceLeDiff, Nat.reduceLT, Nat.reduceBEq, reduceCtorEq, g1, gH, g3, Net.cells, List.length_map, hk, e103 k hk, hw, z]
      simp [hf, hfd, z]
    · simp only [go_sem, reduceIte, Nat.reduceEqDiff, Nat.reduceAdd, Nat.reduceMul, Nat.reduceSub, Nat.reduceLeDiff, Nat.reduceLT, Nat.reduceBEq, reduceCtorEq, g1, gH, g3, Net.cells, List.length_map, hk, e103 k hk, hw, z]
      simp [netR, q1, hf, hfd, z]
  rintro T H M ⟨rfl, g1, gH, g3, hf⟩
  rw [allR_end] at hf
  rcases Classical.propComplete ((8 : Int) < n.sws.length) with q2 | q2
  · simp only [go_sem, reduceIte, Nat.reduceEqDiff, Nat.reduceAdd, Nat.reduceMul, Nat.reduceSub, Nat.reduceLeDiff, Nat.reduceLT, Nat.reduceBEq, reduceCtorEq, g1, gH, g3, Net.cells, List.length_map, Nat.lt_irrefl, q2]
    simp [netR, q1, hf, q2]
  simp only [go_sem, reduceIte, Nat.reduceEqDiff, Nat.reduceAdd, Nat.reduceMul, Nat.reduceSub, Nat.reduceLeDiff, Nat.reduceLT, Nat.reduceBEq, reduceCtorEq, g1, gH, g3, Net.cells, List.length_map, Nat.lt_irrefl, q2]
  refine W_for (fun k T H M => M = [] ∧ getT T 1 = .ptr 0 0 ∧ H.get 0 = .cells n.cells 26 ∧ getT T 5 = i64 k ∧ allR (switchR n) n.sws.length = firstI (((List.range n.sws.length).map (switchR n)).drop k)) n.sws.length ?_ ?_ ?_
  · simp only [go_sem, reduceIte, Nat.reduceEqDiff, Nat.reduceAdd, Nat.reduceMul, Nat.reduceSub, Nat.reduceLeDiff, Nat.reduceLT, Nat.reduceBEq, reduceCtorEq, g1, gH, Net.cells]; rfl
  · rintro k T H M hk ⟨rfl, g1, gH, g3, hf2⟩
    have hw := wrap_succ hk h1
    have hfd := allR_step (f := switchR n) hk
    rcases Classical.propComplete (switchR n k = 0) with z | z
    · simp only [go_sem, reduceIte, Nat.reduceEqDiff, Nat.reduceAdd, Nat.reduceMul, Nat.reduceSub, Nat.reduceLeDiff, Nat.reduceLT, Nat.reduceBEq, reduceCtorEq, g1, gH, g3, Net.cells, List.length_map, hk, e104 k hk, hw, z]
      simp [hf2, hfd, z]
    · simp only [go_sem, reduceIte, Nat.reduceEqDiff, Nat.reduceAdd, Nat.reduceMul, Nat.reduceSub, Nat.reduceLeDiff, Nat.reduceLT, Nat.reduceBEq, reduceCtorEq, g1, gH, g3, Net.cells, List.length_map, hk, e104 k hk, hw, z]
      simp [netR, q1, hf, q2, hf2, hfd, z]
  rintro T H M ⟨rfl, g1, gH, g3, hf2⟩
  rw [allR_end] at hf2
  rcases Classical.propComplete ((16 : Int) < n.sts.length) with q3 | q3
  · simp only [go_sem, reduceIte, Nat.reduceEqDiff, Nat.reduceAdd, Nat.reduceMul, Nat.reduceSub, Nat.reduceLeDiff, Nat.reduceLT, Nat.reduceBEq, reduceCtorEq, g1, gH, g3, Net.cells, List.length_map, Nat.lt_irrefl, q3]
    simp [netR, q1, hf, q2, hf2, q3]
  simp only [go_sem, reduceIte, Nat.reduceEqDiff, Nat.reduceAdd, Nat.reduceMul, Nat.reduceSub, Nat.reduceLeDiff, Nat.reduceLT, Nat.reduceBEq, reduceCtorEq, g1, gH, g3, Net.cells, List.length_map, Nat.lt_irrefl, q3]
  refine W_for (fun k T H M => M = [] ∧ getT T 1 = .ptr 0 0 ∧ H.get 0 = .cells n.cells 26 ∧ getT T 7 = i64 k ∧ allR (structR n) n.sts.length = firstI (((List.range n.sts.length).map (structR n)).drop k)) n.sts.length ?_ ?_ ?_
  · simp only [go_sem, reduceIte, Nat.reduceEqDiff, Nat.reduceAdd, Nat.reduceMul, Nat.reduceSub, Nat.reduceLeDiff, Nat.reduceLT, Nat.reduceBEq, reduceCtorEq, g1, gH, Net.cells]; rfl
  · rintro k T H M hk ⟨rfl, g1, gH, g3, hf3⟩
    have hw := wrap_succ hk h2
    have hfd := allR_step (f := structR n) hk
    rcases Classical.propComplete (structR n k = 0) with z | z
    · simp only [go_sem, reduceIte, Nat.reduceEqDiff, Nat.reduceAdd, Nat.reduceMul, Nat.reduceSub, Nat.reduceLeDiff, Nat.reduceLT, Nat.reduceBEq, reduceCtorEq, g1, gH, g3, Net.cells, List.length_map, hk, e105 k hk, hw, z]
      simp [hf3, hfd, z]
    · simp only [go_sem, reduceIte, Nat.reduceEqDiff, Nat.reduceAdd, Nat.reduceMul, Nat.reduceSub, Nat.reduceLeDiff, Nat.reduceLT, Nat.reduceBEq, reduceCtorEq, g1, gH, g3, Net.cells, List.length_map, hk, e105 k hk, hw, z]
      simp [netR, q1, hf, q2, hf2, q3, hf3, hfd, z]
  rintro T H M ⟨rfl, g1, gH, g3, hf3⟩
  rw [allR_end] at hf3
  simp only [go_sem, reduceIte, Nat.reduceEqDiff, Nat.reduceAdd, Nat.reduceMul, Nat.reduceSub, Nat.reduceLeDiff, Nat.reduceLT, Nat.reduceBEq, reduceCtorEq, g1, gH, g3, Net.cells, List.length_map, Nat.lt_irrefl]
  simp [netR, q1, hf, q2, hf2, q3, hf3]

end Go.Sim

/-
The program: the pieces of a line.
-/
namespace Go.Sim
open Go Go.Proofs
set_option maxRecDepth 100000
set_option maxHeartbeats 2000000

/-- Where a piece begins. -/
def begI (l : Ln) (k : Nat) : Int := sumW (l.ps.take k) 0

theorem sumW_append (a b : List Pc) (s : Int) : sumW (a ++ b) s = sumW b (sumW a s) := by
  induction a generalizing s with
  | nil => rfl
  | cons x r ih => simp only [List.cons_append, sumW, ih]

theorem begI_succ {l : Ln} {k : Nat} {p : Pc} (h : l.ps[k]? = some p) : begI l (k + 1) = wrapq .i64 (Int.add (begI l k) p.len) := by
  unfold begI
  have : l.ps.take (k + 1) = l.ps.take k ++ [p] := by rw [List.take_add_one, h]; rfl
  rw [this, sumW_append]; rfl

theorem begI_all (l : Ln) : begI l l.ps.length = sumW l.ps 0 := by unfold begI; rw [List.take_length]

variable {P : FuncId → Option (List AV → Option AV)}

/-- The walk over the pieces of a line: 'J k': what holds ahead of piece k; 'E': what holds where a round has stopped it. -/
theorem pieces_run {lo y c base : Nat} {l : Ln} {H : Heap} (hl : l.ps.length ≤ maxRows) (hlo : lo ≤ base) (J : Nat → Heap → Prop) (E : Heap → Prop)
    (hJ0 : J 0 H) (hb0 : base ≤ H.n) (hJc : ∀ k H, J k H → H.get c = .cells l.row 196)
    (hJp : ∀ k H b, J k H → base ≤ H.n → J k (H.push b)) (hJs : ∀ k H b j, J k H → base ≤ j → J k (H.set j b))
    (hy : ∀ k p H, l.ps[k]? = some p → J k H → base ≤ H.n → ∃ v H', R (NC.withPrims P) (.yield lo y [i64 (begI l k), .agg p.row] H) = some (.ofVal (.bool v) H') ∧ (if v then J (k + 1) H' else E H') ∧ H.n ≤ H'.n ∧ ∀ j, base ≤ j → j < H.n → H'.get j = H.get j) :
    ∃ v H', R (NC.withPrims P) (.call lo 225 [.yld y, .ptr c 0] H) = some (.ofVal v H') ∧ (J l.ps.length H' ∨ E H') := by
  refine R_of_body (C := NC.withPrims P) (fn := Tryz.f225) (Q := fun _ H' => J l.ps.length H' ∨ E H') (by kernel_rfl) Tryz.func225 rfl rfl ?_
  have hc0 := hJc 0 H hJ0
  simp only [Ln.row] at hc0
  simp only [go_sem, reduceIte, Nat.reduceEqDiff, Nat.reduceAdd, Nat.reduceMul, Nat.reduceSub, Nat.reduceLeDiff, Nat.reduceLT, Nat.reduceBEq, reduceCtorEq, hc0]
  refine W_for (fun k T' H' M' => M' = [] ∧ getT T' 0 = .yld y ∧ getT T' 7 = .ps .unk (l.ps.map Pc.row) ∧ getT T' 8 = i64 (l.ps.length : Nat) ∧ getT T' 9 = i64 k ∧ getT T' 3 = i64 (begI l k) ∧ J k H' ∧ base ≤ H'.n) l.ps.length ?_ ?_ ?_
  · simp only [go_sem, reduceIte, Nat.reduceEqDiff, Nat.reduceAdd, Nat.reduceMul, Nat.reduceSub, Nat.reduceLeDiff, Nat.reduceLT, Nat.reduceBEq, reduceCtorEq, List.length_map]; exact ⟨rfl, hJ0, hb0⟩
  · rintro k T' H' M' hk ⟨rfl, g0, g7, g8, g9, g3, hJ, hb⟩
    obtain ⟨p, hp⟩ : ∃ p, l.ps[k]? = some p := ⟨l.ps[k], by simp⟩
    have hpr := map_at (f := Pc.row) hp
    have hw := wrap_succ hk hl
    have hbs := begI_succ hp
    have hlo' : lo ≤ H'.n := Nat.le_trans hlo hb
    obtain ⟨v, H2, hr, h1, h2, h3⟩ := hy k p ((H'.push (.cells [i64 0, i64 0, .bool false] 200)).set H'.n (.cells p.row 200)) hp (hJs _ _ _ _ (hJp _ _ _ hJ hb) hb) (by simp only [Heap.n_set, Heap.n_push]; omega)
    have h4 := h3 H'.n hb (by simp)
    rw [Heap.get_set, if_pos rfl] at h4
    obtain ⟨pl, pq, pb⟩ := p
    simp only [Pc.row] at hpr h4 hr
    cases v with
    | true =>
      simp only [go_sem, reduceIte, Nat.reduceEqDiff, Nat.reduceAdd, Nat.reduceMul, Nat.reduceSub, Nat.reduceLeDiff, Nat.reduceLT, Nat.reduceBEq, reduceCtorEq, g0, g7, g8, g9, g3, List.length_map, hk, hpr, hw, hlo', op_callY (l := y), hr, ofVal_v, ofVal_H, h4]
      simp only [Heap.n_set, Heap.n_push] at h2
      exact ⟨by rw [hbs], h1, by omega⟩
    | false =>
      simp only [go_sem, reduceIte, Nat.reduceEqDiff, Nat.reduceAdd, Nat.reduceMul, Nat.reduceSub, Nat.reduceLeDiff, Nat.reduceLT, Nat.reduceBEq, reduceCtorEq, g0, g7, g8, g9, g3, List.length_map, hk, hpr, hw, hlo', op_callY (l := y), hr, ofVal_v, ofVal_H, h4]
      exact .inr h1
  · rintro T' H' M' ⟨rfl, g0, g7, g8, g9, g3, hJ, hb⟩
    simp only [go_sem, reduceIte, Nat.reduceEqDiff, Nat.reduceAdd, Nat.reduceMul, Nat.reduceSub, Nat.reduceLeDiff, Nat.reduceLT, Nat.reduceBEq, reduceCtorEq, g0, g7, g8, g9, g3, List.length_map, Nat.lt_irrefl]
    exact .inl hJ


/-- A range over the pieces of a line. 'B k': the blocks there are, ahead of piece k. -/
theorem W_piecesG {lo : Nat} {fid : FuncId} {g : Operand} {params : Array Tmp} {pa pb : Tmp} (hpar : params.toList = [pa, pb]) {assign body : Code} {T : TT AV} {H : Heap} {M : List Nat} {Q : AExit → TT AV → Heap → List Nat → Prop}
    {l : Ln} {c : Nat} (hl : l.ps.length ≤ maxRows) (hlo : lo ≤ H.n) (hg : evalO (NC.withPrims P) T g = some (.fn 225 [] [.ptr c 0])) (hc : c < H.n)
    (G : Nat → Prop) (hG : G 0) (B : Nat → Nat → ABlk) (E : AExit → Heap → Prop) (hB0 : ∀ i, i < H.n → H.get i = B 0 i) (hBc : ∀ k, B k c = .cells l.row 196)
    (round : ∀ k p Hk m, l.ps[k]? = some p → Hk.n = m + (H.n + 2) → (∀ i, i < H.n → Hk.get i = B k i) → G k →
      W (NC.withPrims P) lo fid true assign (setT (setT T pa (i64 (begI l k))) pb (.agg p.row)) Hk [] fun e T1 H1 M1 => e = .nrm ∧ (∀ j, H.n ≤ j → j < Hk.n → H1.get j = Hk.get j) ∧
        ∀ r, W (NC.withPrims P) lo fid true body T1 (H1.set (H.n + 1) r) M1 fun e T3 H3 _ => H3.get (H.n + 1) = r ∧ Hk.n ≤ H3.n ∧ (∀ j, H.n ≤ j → j < Hk.n → j ≠ H.n + 1 → H3.get j = Hk.get j) ∧
          next e ((∀ i, i < H.n → H3.get i = B (k + 1) i) ∧ G (k + 1)) (E e H3))
    (fin : ∀ H4, (∀ i, i < H.n → H4.get i = B l.ps.length i) → G l.ps.length → H4.get H.n = .defr → Q .nrm T H4 (H.n :: M))
    (stop : ∀ e H3 H4, e ≠ .nrm → E e H3 → (∀ i, i ≠ H.n + 1 → H4.get i = H3.get i) → H3.get H.n = .defr → Q e T H4 (H.n :: M)) :
    W (NC.withPrims P) lo fid false (.rangeFunc g params assign body) T H M Q := by
  refine W_rangeFunc hg ?_
  let r0 : ALoop := ⟨fid, T, params.toList, assign, body, .ready, none, H.n⟩
  let J : Nat → Heap → Prop := fun k H' => ((∀ i, i < H.n → H'.get i = B k i) ∧ G k) ∧ H'.get H.n = .defr ∧ H'.get (H.n + 1) = .loop r0 ∧ H.n + 2 ≤ H'.n
  let EE : Heap → Prop := fun H' => ∃ e H3, e ≠ .nrm ∧ E e H3 ∧ H3.get H.n = .defr ∧ H' = H3.set (H.n + 1) (.loop { r0 with state := .done, pending := some e })
  have hrun : ∃ v H', R (NC.withPrims P) (.call lo 225 [.yld (H.n + 1), .ptr c 0] ((H.push .defr).push (.loop r0))) = some (.ofVal v H') ∧ (J l.ps.length H' ∨ EE H') := by
    refine pieces_run (P := P) (lo := lo) (y := H.n + 1) (c := c) (base := H.n + 2) (l := l) (H := (H.push .defr).push (.loop r0)) hl (by omega) J EE ?_ ?_ ?_ ?_ ?_ ?_
    · refine ⟨⟨fun i hi => ?_, hG⟩, ?_, ?_, by simp⟩
      · rw [Heap.get_push, if_neg (by simp; omega), Heap.get_push, if_neg (by omega)]; exact hB0 i hi
      · rw [Heap.get_push, if_neg (by simp), Heap.get_push, if_pos rfl]
      · rw [Heap.get_push, if_pos (by simp)]
    · simp
    · rintro k H' ⟨⟨h1, _⟩, _⟩
      rw [h1 c hc]; exact hBc k
    · rintro k H' b ⟨⟨h1, hg1⟩, h2, h3, h4⟩ _
      exact ⟨⟨fun i hi => by rw [Heap.get_push, if_neg (by omega)]; exact h1 i hi, hg1⟩, by rw [Heap.get_push, if_neg (by omega)]; exact h2, by rw [Heap.get_push, if_neg (by omega)]; exact h3, by simp; omega⟩
    · rintro k H' b j ⟨⟨h1, hg1⟩, h2, h3, h4⟩ hj
      exact ⟨⟨fun i hi => by rw [Heap.get_set, if_neg (by omega)]; exact h1 i hi, hg1⟩, by rw [Heap.get_set, if_neg (by omega)]; exact h2, by rw [Heap.get_set, if_neg (by omega)]; exact h3, by simp; omega⟩
    · rintro k p Hk hp ⟨⟨h1, hg1⟩, h2, h3, h4⟩ _
      have hrd := round k p Hk (Hk.n - (H.n + 2)) hp (by omega) h1 hg1
      have hW : W (NC.withPrims P) lo fid true assign (setParams params.toList [i64 (begI l k), .agg p.row] T) Hk [] fun e T1 H1 M1 => e = .nrm ∧ H1.get (H.n + 1) = .loop r0 ∧
          W (NC.withPrims P) lo fid true body T1 (H1.set (H.n + 1) (.loop { r0 with state := .busy })) M1 fun e T2 H2 M2 => H2.get (H.n + 1) = .loop { r0 with state := .busy } ∧
            next e (((if true then J (k + 1) (H2.set (H.n + 1) (.loop { r0 with state := .ready, pending := none })) else EE (H2.set (H.n + 1) (.loop { r0 with state := .ready, pending := none }))) ∧ Hk.n ≤ (H2.set (H.n + 1) (.loop { r0 with state := .ready, pending := none })).n ∧ ∀ j, H.n + 2 ≤ j → j < Hk.n → (H2.set (H.n + 1) (.loop { r0 with state := .ready, pending := none })).get j = Hk.get j))
              (((if false = true then J (k + 1) (H2.set (H.n + 1) (.loop { r0 with state := .done, pending := some e })) else EE (H2.set (H.n + 1) (.loop { r0 with state := .done, pending := some e }))) ∧ Hk.n ≤ (H2.set (H.n + 1) (.loop { r0 with state := .done, pending := some e })).n ∧ ∀ j, H.n + 2 ≤ j → j < Hk.n → (H2.set (H.n + 1) (.loop { r0 with state := .done, pending := some e })).get j = Hk.get j)) := by
        rw [hpar]
        refine W_mono hrd fun e T1 H1 M1 ⟨he, hk1, hb⟩ => ⟨he, ?_, W_mono (hb _) fun e T3 H3 M3 ⟨q1, q2, q3, q4⟩ => ⟨q1, ?_⟩⟩
        · rw [hk1 _ (by omega) (by omega)]; exact h3
        · have hd : H3.get H.n = .defr := by rw [q3 _ (Nat.le_refl _) (by omega) (by omega)]; exact h2
          have keep : ∀ b j, H.n + 2 ≤ j → j < Hk.n → (H3.set (H.n + 1) b).get j = Hk.get j := fun b j hj hj2 => by
            rw [Heap.get_set, if_neg (by omega)]; exact q3 j (by omega) hj2 (by omega)
          cases e with
          | nrm =>
            refine ⟨⟨⟨fun i hi => ?_, q4.2⟩, ?_, ?_, by simp; omega⟩, by simpa using q2, keep _⟩
            · rw [Heap.get_set, if_neg (by omega)]; exact q4.1 i hi
            · rw [Heap.get_set, if_neg (by omega)]; exact hd
            · rw [Heap.get_set, if_pos rfl]
          | ext i => exact ⟨⟨_, _, by simp, q4, hd, rfl⟩, by simpa using q2, keep _⟩
          | gto i => exact ⟨⟨_, _, by simp, q4, hd, rfl⟩, by simpa using q2, keep _⟩
          | ret => exact ⟨⟨_, _, by simp, q4, hd, rfl⟩, by simpa using q2, keep _⟩
      obtain ⟨v, H', e1, e2, e3, e4⟩ := R_yield (C := NC.withPrims P) (r0 := r0) h3 rfl (by show params.toList.length = 2; rw [hpar]; rfl) (by omega : lo ≤ H.n + 1) (Y := fun v H' => (if v then J (k + 1) H' else EE H') ∧ Hk.n ≤ H'.n ∧ ∀ j, H.n + 2 ≤ j → j < Hk.n → H'.get j = Hk.get j) hW
      exact ⟨v, H', e1, e2, e3, e4⟩
  obtain ⟨v, H', hr, hJ⟩ := hrun
  refine ⟨v, H', hr, ?_⟩
  rcases hJ with ⟨⟨h1, hg1⟩, h2, h3, h4⟩ | ⟨e, H3, he, h1, h2, rfl⟩
  · refine ⟨r0, h3, by simp [r0], ?_⟩
    exact fin _ (fun i hi => by rw [Heap.get_set, if_neg (by omega)]; exact h1 i hi) hg1 (by rw [Heap.get_set, if_neg (by omega)]; exact h2)
  · refine ⟨_, by rw [Heap.get_set, if_pos rfl], by simp, ?_⟩
    exact stop e H3 _ he h1 (fun i hi => by rw [Heap.get_set, if_neg hi, Heap.get_set, if_neg hi]) h2

/-- A range over the pieces of a line. 'B k': the blocks there are, ahead of piece k. -/
theorem W_pieces {lo : Nat} {fid : FuncId} {g : Operand} {params : Array Tmp} {pa pb : Tmp} (hpar : params.toList = [pa, pb]) {assign body : Code} {T : TT AV} {H : Heap} {M : List Nat} {Q : AExit → TT AV → Heap → List Nat → Prop}
    {l : Ln} {c : Nat} (hl : l.ps.length ≤ maxRows) (hlo : lo ≤ H.n) (hg : evalO (NC.withPrims P) T g = some (.fn 225 [] [.ptr c 0])) (hc : c < H.n)
    (B : Nat → Nat → ABlk) (E : AExit → Heap → Prop) (hB0 : ∀ i, i < H.n → H.get i = B 0 i) (hBc : ∀ k, B k c = .cells l.row 196)
    (round : ∀ k p Hk m, l.ps[k]? = some p → Hk.n = m + (H.n + 2) → (∀ i, i < H.n → Hk.get i = B k i) →
      W (NC.withPrims P) lo fid true assign (setT (setT T pa (i64 (begI l k))) pb (.agg p.row)) Hk [] fun e T1 H1 M1 => e = .nrm ∧ (∀ j, H.n ≤ j → j < Hk.n → H1.get j = Hk.get j) ∧
        ∀ r, W (NC.withPrims P) lo fid true body T1 (H1.set (H.n + 1) r) M1 fun e T3 H3 _ => H3.get (H.n + 1) = r ∧ Hk.n ≤ H3.n ∧ (∀ j, H.n ≤ j → j < Hk.n → j ≠ H.n + 1 → H3.get j = Hk.get j) ∧
          next e (∀ i, i < H.n → H3.get i = B (k + 1) i) (E e H3))
    (fin : ∀ H4, (∀ i, i < H.n → H4.get i = B l.ps.length i) → H4.get H.n = .defr → Q .nrm T H4 (H.n :: M))
    (stop : ∀ e H3 H4, e ≠ .nrm → E e H3 → (∀ i, i ≠ H.n + 1 → H4.get i = H3.get i) → H3.get H.n = .defr → Q e T H4 (H.n :: M)) :
    W (NC.withPrims P) lo fid false (.rangeFunc g params assign body) T H M Q := by
  refine W_piecesG hpar hl hlo hg hc (fun _ => True) trivial B E hB0 hBc ?_ (fun H4 h _ => fin H4 h) stop
  intro k p Hk m hp hm hB _
  refine W_mono (round k p Hk m hp hm hB) fun e T1 H1 M1 ⟨a, b, c⟩ => ⟨a, b, fun r => W_mono (c r) fun e T3 H3 M3 ⟨x1, x2, x3, x4⟩ => ⟨x1, x2, x3, ?_⟩⟩
  cases e with
  | nrm => exact ⟨x4, trivial⟩
  | _ => exact x4

end Go.Sim

/-
The program: lengths.
-/
namespace Go.Sim
open Go Go.Proofs
set_option maxRecDepth 100000
set_option maxHeartbeats 2000000

variable {P : FuncId → Option (List AV → Option AV)}

theorem r176 (lo : Nat) (l : Ln) (H : Heap) : R (NC.withPrims P) (.call lo 176 [.agg l.row] H) = some (.ofVal (.fn 225 [] [.ptr H.n 0]) (H.push (.cells l.row 196))) := by
  obtain ⟨v, H', h1, h2, h3⟩ := R_of_body (C := NC.withPrims P) (f := 176) (lo := lo) (args := [.agg l.row]) (H := H) (fn := Tryz.f176) (Q := fun v H' => v = .fn 225 [] [.ptr H.n 0] ∧ H' = H.push (.cells l.row 196)) (by kernel_rfl) Tryz.func176 rfl rfl (by
    obtain ⟨nm, ps⟩ := l
    simp only [go_sem, reduceIte, Nat.reduceEqDiff, Nat.reduceAdd, Nat.reduceMul, Nat.reduceSub, Nat.reduceLeDiff, Nat.reduceLT, Nat.reduceBEq, reduceCtorEq, Ln.row, evalO_nilf])
  rw [h1, h2, h3]

theorem en176 {f : Nat} (hf : f = 176) (hP : P 176 = none) {lo : Nat} {args : List AV} {H : Heap} {K : AV → Heap → Prop} : VO (aenter (NC.withPrims P) (R (NC.withPrims P)) lo f args H) K = AO (R (NC.withPrims P) (.call H.n 176 args H)) fun o => K o.val o.s.H := by
  subst hf
  refine enter_fresh rfl ?_ (by kernel_rfl) (by kernel_rfl) (by kernel_rfl)
  show (match NC.prim 176 with | some p => some p | none => P 176) = none
  rw [hP]; kernel_rfl

theorem c99 (l : Ln) (hl : l.ps.length ≤ maxRows) : ∀ lo H, CallOk NC lo 99 [.agg l.row] H (i64 (sumW l.ps 0)) H := by
  refine contract saneNC primsE (fn := Tryz.f99) (by kernel_rfl) Tryz.func99 rfl rfl (by rfl) (by rfl) ?_
  have r := fun lo H => r176 (P := PPE) lo l H
  simp only [Ln.row] at r
  simp only [go_sem, reduceIte, Nat.reduceEqDiff, Nat.reduceAdd, Nat.reduceMul, Nat.reduceSub, Nat.reduceLeDiff, Nat.reduceLT, Nat.reduceBEq, reduceCtorEq, Ln.row, en176 rfl (show PPE 176 = none from rfl), r, ofVal_v, ofVal_H]
  refine W_pieces (l := l) (c := 2) rfl hl (Nat.zero_le _) (by simp only [go_sem, reduceIte, Nat.reduceEqDiff, Nat.reduceAdd, Nat.reduceMul, Nat.reduceSub, Nat.reduceLeDiff, Nat.reduceLT, Nat.reduceBEq, reduceCtorEq]) (by simp only [go_sem, reduceIte, Nat.reduceEqDiff, Nat.reduceAdd, Nat.reduceMul, Nat.reduceSub, Nat.reduceLeDiff, Nat.reduceLT, Nat.reduceBEq, reduceCtorEq]) (fun k i => match i with | 0 => .cells l.row 196 | 1 => .cells [i64 (begI l k)] 3 | 2 => .cells l.row 196 | _ => .dead) (fun _ _ => False) ?_ (fun k => rfl) ?_ ?_ ?_
  · intro i hi
    simp only [go_sem, reduceIte, Nat.reduceEqDiff, Nat.reduceAdd, Nat.reduceMul, Nat.reduceSub, Nat.reduceLeDiff, Nat.reduceLT, Nat.reduceBEq, reduceCtorEq] at hi
    match i, hi with
    | 0, _ => simp only [go_sem, reduceIte, Nat.reduceEqDiff, Nat.reduceAdd, Nat.reduceMul, Nat.reduceSub, Nat.reduceLeDiff, Nat.reduceLT, Nat.reduceBEq, reduceCtorEq]; rfl
    | 1, _ => simp only [go_sem, reduceIte, Nat.reduceEqDiff, Nat.reduceAdd, Nat.reduceMul, Nat.reduceSub, Nat.reduceLeDiff, Nat.reduceLT, Nat.reduceBEq, reduceCtorEq]; rfl
    | 2, _ => simp only [go_sem, reduceIte, Nat.reduceEqDiff, Nat.reduceAdd, Nat.reduceMul, Nat.reduceSub, Nat.reduceLeDiff, Nat.reduceLT, Nat.reduceBEq, reduceCtorEq]; rfl
    | i + 3, hi => omega
  · intro k p Hk m hp hn hB
    simp only [go_sem, reduceIte, Nat.reduceEqDiff, Nat.reduceAdd, Nat.reduceMul, Nat.reduceSub, Nat.reduceLeDiff, Nat.reduceLT, Nat.reduceBEq, reduceCtorEq] at hn hB
    have h1 := hB 1 (by omega)
    have hbs := begI_succ hp
    obtain ⟨pl, pq, pb⟩ := p
    simp only at h1
    simp only [go_sem, reduceIte, Nat.reduceEqDiff, Nat.reduceAdd, Nat.reduceMul, Nat.reduceSub, Nat.reduceLeDiff, Nat.reduceLT, Nat.reduceBEq, reduceCtorEq, Pc.row, hn]
    refine ⟨fun j _ hj => by rw [if_neg (by omega), if_neg (by omega)], fun r => ?_⟩
    simp only [go_sem, reduceIte, Nat.reduceEqDiff, Nat.reduceAdd, Nat.reduceMul, Nat.reduceSub, Nat.reduceLeDiff, Nat.reduceLT, Nat.reduceBEq, reduceCtorEq, hn, h1]
    refine ⟨by omega, fun j h3 hj h4 => by rw [if_neg (by omega), if_neg (by omega), if_neg (by omega), if_neg (by omega)], fun i hi => ?_⟩
    match i, hi with
    | 0, _ => simp [hB 0 (by omega)]
    | 1, _ => simp [hbs]
    | 2, _ => simp [hB 2 (by omega)]
    | i + 3, hi => omega
  · intro H4 hB hd
    simp only [go_sem, reduceIte, Nat.reduceEqDiff, Nat.reduceAdd, Nat.reduceMul, Nat.reduceSub, Nat.reduceLeDiff, Nat.reduceLT, Nat.reduceBEq, reduceCtorEq] at hB hd
    have h1 := hB 1 (by omega)
    simp only [go_sem, reduceIte, Nat.reduceEqDiff, Nat.reduceAdd, Nat.reduceMul, Nat.reduceSub, Nat.reduceLeDiff, Nat.reduceLT, Nat.reduceBEq, reduceCtorEq, h1, hd, shutMarks_cons, begI_all]
  · intro e H3 H4 _ h
    exact h.elim

end Go.Sim

/-
The program: lines, pieces.
-/
namespace Go.Sim
open Go Go.Proofs
set_option maxRecDepth 100000
set_option maxHeartbeats 2000000

noncomputable def p99 : List AV → Option AV := primOf (α := Ln) (fun x => [.agg x.row]) (fun x => x.ps.length ≤ maxRows) (fun x => i64 (sumW x.ps 0))
theorem pok99 : ∀ args v, p99 args = some v → ∀ lo H, CallOk NC lo 99 args H v H := by
  intro args v h
  obtain ⟨x, rfl, hp, rfl⟩ := primOf_inv h
  clear h
  revert x
  intro x hx; exact c99 x hx
theorem pe99 (x : Ln) (hp : (fun x => x.ps.length ≤ maxRows) x) : p99 ((fun x => [.agg x.row]) x) = some ((fun x => i64 (sumW x.ps 0)) x) := primOf_enc (by intro x y h; exact row1_inj x y h) x hp
noncomputable def p226 : List AV → Option AV := primOf (α := Pc) (fun x => [.agg x.row]) (fun _ => True) (fun x => i64 (lastI x))
theorem pok226 : ∀ args v, p226 args = some v → ∀ lo H, CallOk NC lo 226 args H v H := by
  intro args v h
  obtain ⟨x, rfl, hp, rfl⟩ := primOf_inv h
  clear h
  revert x
  intro x; exact c226 x
theorem pe226 (x : Pc) (hp : (fun _ => True) x) : p226 ((fun x => [.agg x.row]) x) = some ((fun x => i64 (lastI x)) x) := primOf_enc (by intro x y h; exact pc1_inj x y h) x hp
theorem e226 (l q : Int) (b : Bool) : p226 [.agg [.int .i64 l, .int .i64 q, .bool b]] = some (.int .i64 (lastI ⟨l, q, b⟩)) := pe226 ⟨l, q, b⟩ trivial
noncomputable def p134 : List AV → Option AV := primOf (α := Pc × Int) (fun x => [.agg x.1.row, i64 x.2]) (fun _ => True) (fun x => .tup [i64 (metreI x.1 x.2), .bool (metreB x.1 x.2)])
theorem pok134 : ∀ args v, p134 args = some v → ∀ lo H, CallOk NC lo 134 args H v H := by
  intro args v h
  obtain ⟨x, rfl, hp, rfl⟩ := primOf_inv h
  clear h
  revert x
  intro x; exact c134 x.1 x.2
theorem pe134 (x : Pc × Int) (hp : (fun _ => True) x) : p134 ((fun x => [.agg x.1.row, i64 x.2]) x) = some ((fun x => .tup [i64 (metreI x.1 x.2), .bool (metreB x.1 x.2)]) x) := primOf_enc (by intro x y h; (obtain ⟨a, b⟩ := x; obtain ⟨c, d⟩ := y; simp only [List.cons.injEq, AV.agg.injEq, AV.int.injEq, true_and, and_true] at h; obtain ⟨h1, rfl⟩ := h; rw [Pc.row_inj _ _ h1])) x hp

noncomputable def PPF : FuncId → Option (List AV → Option AV) := addPrim 134 p134 (addPrim 226 p226 (addPrim 99 p99 (PPE)))
theorem primsF : PrimsOk NC PPF := primsOk_add (primsOk_add (primsOk_add (primsE) (by kernel_rfl) (by kernel_rfl) pok99) (by kernel_rfl) (by kernel_rfl) pok226) (by kernel_rfl) (by kernel_rfl) pok134
theorem enF_48 {rec : Rec} {lo : Nat} {args : List AV} {H : Heap} {K : AV → Heap → Prop} : VO (aenter (NC.withPrims PPF) rec lo 48 args H) K = AO (p48 args) fun v => K v H := enter_prim (by rfl) (by kernel_rfl)
theorem enF_121 {rec : Rec} {lo : Nat} {args : List AV} {H : Heap} {K : AV → Heap → Prop} : VO (aenter (NC.withPrims PPF) rec lo 121 args H) K = AO (p121 args) fun v => K v H := enter_prim (by rfl) (by kernel_rfl)
theorem enF_34 {rec : Rec} {lo : Nat} {args : List AV} {H : Heap} {K : AV → Heap → Prop} : VO (aenter (NC.withPrims PPF) rec lo 34 args H) K = AO (p34 args) fun v => K v H := enter_prim (by rfl) (by kernel_rfl)
theorem enF_111 {rec : Rec} {lo : Nat} {args : List AV} {H : Heap} {K : AV → Heap → Prop} : VO (aenter (NC.withPrims PPF) rec lo 111 args H) K = AO (p111 args) fun v => K v H := enter_prim (by rfl) (by kernel_rfl)
theorem enF_26 {rec : Rec} {lo : Nat} {args : List AV} {H : Heap} {K : AV → Heap → Prop} : VO (aenter (NC.withPrims PPF) rec lo 26 args H) K = AO (p26 args) fun v => K v H := enter_prim (by rfl) (by kernel_rfl)
theorem enF_178 {rec : Rec} {lo : Nat} {args : List AV} {H : Heap} {K : AV → Heap → Prop} : VO (aenter (NC.withPrims PPF) rec lo 178 args H) K = AO (p178 args) fun v => K v H := enter_prim (by rfl) (by kernel_rfl)
theorem enF_109 {rec : Rec} {lo : Nat} {args : List AV} {H : Heap} {K : AV → Heap → Prop} : VO (aenter (NC.withPrims PPF) rec lo 109 args H) K = AO (p109 args) fun v => K v H := enter_prim (by rfl) (by kernel_rfl)
theorem enF_108 {rec : Rec} {lo : Nat} {args : List AV} {H : Heap} {K : AV → Heap → Prop} : VO (aenter (NC.withPrims PPF) rec lo 108 args H) K = AO (p108 args) fun v => K v H := enter_prim (by rfl) (by kernel_rfl)
theorem enF_27 {rec : Rec} {lo : Nat} {args : List AV} {H : Heap} {K : AV → Heap → Prop} : VO (aenter (NC.withPrims PPF) rec lo 27 args H) K = AO (p27 args) fun v => K v H := enter_prim (by rfl) (by kernel_rfl)
theorem enF_97 {rec : Rec} {lo : Nat} {args : List AV} {H : Heap} {K : AV → Heap → Prop} : VO (aenter (NC.withPrims PPF) rec lo 97 args H) K = AO (p97 args) fun v => K v H := enter_prim (by rfl) (by kernel_rfl)
theorem enF_122 {rec : Rec} {lo : Nat} {args : List AV} {H : Heap} {K : AV → Heap → Prop} : VO (aenter (NC.withPrims PPF) rec lo 122 args H) K = AO (p122 args) fun v => K v H := enter_prim (by rfl) (by kernel_rfl)
theorem enF_182 {rec : Rec} {lo : Nat} {args : List AV} {H : Heap} {K : AV → Heap → Prop} : VO (aenter (NC.withPrims PPF) rec lo 182 args H) K = AO (p182 args) fun v => K v H := enter_prim (by rfl) (by kernel_rfl)
theorem enF_35 {rec : Rec} {lo : Nat} {args : List AV} {H : Heap} {K : AV → Heap → Prop} : VO (aenter (NC.withPrims PPF) rec lo 35 args H) K = AO (p35 args) fun v => K v H := enter_prim (by rfl) (by kernel_rfl)
theorem enF_115 {rec : Rec} {lo : Nat} {args : List AV} {H : Heap} {K : AV → Heap → Prop} : VO (aenter (NC.withPrims PPF) rec lo 115 args H) K = AO (p115 args) fun v => K v H := enter_prim (by rfl) (by kernel_rfl)
theorem enF_36 {rec : Rec} {lo : Nat} {args : List AV} {H : Heap} {K : AV → Heap → Prop} : VO (aenter (NC.withPrims PPF) rec lo 36 args H) K = AO (p36 args) fun v => K v H := enter_prim (by rfl) (by kernel_rfl)
theorem enF_120 {rec : Rec} {lo : Nat} {args : List AV} {H : Heap} {K : AV → Heap → Prop} : VO (aenter (NC.withPrims PPF) rec lo 120 args H) K = AO (p120 args) fun v => K v H := enter_prim (by rfl) (by kernel_rfl)
theorem enF_106 {rec : Rec} {lo : Nat} {args : List AV} {H : Heap} {K : AV → Heap → Prop} : VO (aenter (NC.withPrims PPF) rec lo 106 args H) K = AO (p106 args) fun v => K v H := enter_prim (by rfl) (by kernel_rfl)
theorem enF_179 {rec : Rec} {lo : Nat} {args : List AV} {H : Heap} {K : AV → Heap → Prop} : VO (aenter (NC.withPrims PPF) rec lo 179 args H) K = AO (p179 args) fun v => K v H := enter_prim (by rfl) (by kernel_rfl)
theorem enF_126 {rec : Rec} {lo : Nat} {args : List AV} {H : Heap} {K : AV → Heap → Prop} : VO (aenter (NC.withPrims PPF) rec lo 126 args H) K = AO (p126 args) fun v => K v H := enter_prim (by rfl) (by kernel_rfl)
theorem enF_103 {rec : Rec} {lo : Nat} {args : List AV} {H : Heap} {K : AV → Heap → Prop} : VO (aenter (NC.withPrims PPF) rec lo 103 args H) K = AO (p103 args) fun v => K v H := enter_prim (by rfl) (by kernel_rfl)
theorem enF_104 {rec : Rec} {lo : Nat} {args : List AV} {H : Heap} {K : AV → Heap → Prop} : VO (aenter (NC.withPrims PPF) rec lo 104 args H) K = AO (p104 args) fun v => K v H := enter_prim (by rfl) (by kernel_rfl)
theorem enF_105 {rec : Rec} {lo : Nat} {args : List AV} {H : Heap} {K : AV → Heap → Prop} : VO (aenter (NC.withPrims PPF) rec lo 105 args H) K = AO (p105 args) fun v => K v H := enter_prim (by rfl) (by kernel_rfl)
theorem enF_99 {rec : Rec} {lo : Nat} {args : List AV} {H : Heap} {K : AV → Heap → Prop} : VO (aenter (NC.withPrims PPF) rec lo 99 args H) K = AO (p99 args) fun v => K v H := enter_prim (by rfl) (by kernel_rfl)
theorem enF_226 {rec : Rec} {lo : Nat} {args : List AV} {H : Heap} {K : AV → Heap → Prop} : VO (aenter (NC.withPrims PPF) rec lo 226 args H) K = AO (p226 args) fun v => K v H := enter_prim (by rfl) (by kernel_rfl)
theorem enF_134 {rec : Rec} {lo : Nat} {args : List AV} {H : Heap} {K : AV → Heap → Prop} : VO (aenter (NC.withPrims PPF) rec lo 134 args H) K = AO (p134 args) fun v => K v H := enter_prim (by rfl) (by kernel_rfl)
attribute [go_sem ↓] enF_48 enF_121 enF_34 enF_111 enF_26 enF_178 enF_109 enF_108 enF_27 enF_97 enF_122 enF_182
attribute [go_sem ↓] enF_35 enF_115 enF_36 enF_120 enF_106 enF_179 enF_126 enF_103 enF_104 enF_105 enF_99 enF_226
attribute [go_sem ↓] enF_134


def hasB (l : Ln) (m : Int) : Bool := !decide (m < 0) && decide (m < sumW l.ps 0)

theorem c177 (l : Ln) (m : Int) (hl : l.ps.length ≤ maxRows) : ∀ lo H, CallOk NC lo 177 [.agg l.row, i64 m] H (.bool (hasB l m)) H := by
  refine contract saneNC primsF (fn := Tryz.f177) (by kernel_rfl) Tryz.func177 rfl rfl (by rfl) (by rfl) ?_
  have e99 := pe99 l hl
  simp only [Ln.row] at e99
  rcases Classical.propComplete (m < 0) with h1 | h1 <;> rcases Classical.propComplete (m < sumW l.ps 0) with h2 | h2 <;> simp only [go_sem, reduceIte, Nat.reduceEqDiff, Nat.reduceAdd, Nat.reduceMul, Nat.reduceSub, Nat.reduceLeDiff, Nat.reduceLT, Nat.reduceBEq, reduceCtorEq, Ln.row, e99, h1, h2] <;> simp [hasB, h1, h2]

/-- A piece's error, by the program. -/
def pieceP (p : Pc) : Int := firstI [rangeI p.len 1 100000, rangeI p.post 0 9999999, whenI (decide (lastI p < 0) || decide (9999999 < lastI p)) 4]

theorem c180 (p : Pc) : ∀ lo H, CallOk NC lo 180 [.agg p.row] H (i64 (pieceP p)) H := by
  refine contract saneNC primsF (fn := Tryz.f180) (by kernel_rfl) Tryz.func180 rfl rfl (by rfl) (by rfl) ?_
  obtain ⟨l, q, b⟩ := p
  generalize hE : lastI ⟨l, q, b⟩ = E
  rcases Classical.propComplete (E < 0) with h1 | h1 <;> rcases Classical.propComplete (9999999 < E) with h2 | h2 <;> simp only [go_sem, reduceIte, Nat.reduceEqDiff, Nat.reduceAdd, Nat.reduceMul, Nat.reduceSub, Nat.reduceLeDiff, Nat.reduceLT, Nat.reduceBEq, reduceCtorEq, Pc.row, e115, e226, e121, e111_3, hE, h1, h2] <;> simp only [pieceP, hE, h1, h2, decide_true, decide_false, Bool.or_true, Bool.true_or, Bool.or_false]

/-! ### The line with a name -/

variable {P : FuncId → Option (List AV → Option AV)}

theorem r175 (lo : Nat) (l : Ln) (s : List Nat) (c : Nat) (H : Heap) (hc : c < H.n) (hs : H.get c = .cells [.str s] 9) : R (NC.withPrims P) (.call lo 175 [.agg l.row, .ptr c 0] H) = some (.ofVal (.bool (beqL l.name s)) (H.push (.cells l.row 196))) := by
  have hne : (c = H.n) = False := by simp; omega
  obtain ⟨v, H', h1, h2, h3⟩ := R_of_body (C := NC.withPrims P) (f := 175) (lo := lo) (args := [.agg l.row, .ptr c 0]) (H := H) (fn := Tryz.f175) (Q := fun v H' => v = .bool (beqL l.name s) ∧ H' = H.push (.cells l.row 196)) (by kernel_rfl) Tryz.func175 rfl rfl (by
    obtain ⟨nm, ps⟩ := l
    simp only [go_sem, reduceIte, Nat.reduceEqDiff, Nat.reduceAdd, Nat.reduceMul, Nat.reduceSub, Nat.reduceLeDiff, Nat.reduceLT, Nat.reduceBEq, reduceCtorEq, Ln.row, hs, hne])
  rw [h1, h2, h3]

theorem en175 (hP : P 175 = none) {lo : Nat} {args : List AV} {H : Heap} {K : AV → Heap → Prop} : VO (aenter (NC.withPrims P) (R (NC.withPrims P)) lo 175 args H) K = AO (R (NC.withPrims P) (.call H.n 175 args H)) fun o => o.val.strip.pure = true ∧ K o.val.strip H := by
  refine enter_pure rfl ?_ (by kernel_rfl) (by kernel_rfl) (by kernel_rfl)
  show (match NC.prim 175 with | some p => some p | none => P 175) = none
  rw [hP]; kernel_rfl
theorem en174 (hP : P 174 = none) {lo : Nat} {args : List AV} {H : Heap} {K : AV → Heap → Prop} : VO (aenter (NC.withPrims P) (R (NC.withPrims P)) lo 174 args H) K = AO (R (NC.withPrims P) (.call H.n 174 args H)) fun o => o.val.strip.pure = true ∧ K o.val.strip H := by
  refine enter_pure rfl ?_ (by kernel_rfl) (by kernel_rfl) (by kernel_rfl)
  show (match NC.prim 174 with | some p => some p | none => P 174) = none
  rw [hP]; kernel_rfl

theorem r174 (hP : P 175 = none) (lo : Nat) (ls : List Ln) (s : List Nat) (c : Nat) (H : Heap) (hl : ls.length ≤ maxRows) (hc : c < H.n) (hs : H.get c = .cells [.str s] 9) :
    ∃ H', R (NC.withPrims P) (.call lo 174 [.ps .unk (ls.map Ln.row), .fn 175 [] [.ptr c 0]] H) = some (.ofVal (i64 (findI ls s)) H') := by
  obtain ⟨v, H', h1, h2⟩ := R_of_body (C := NC.withPrims P) (f := 174) (lo := lo) (args := [.ps .unk (ls.map Ln.row), .fn 175 [] [.ptr c 0]]) (H := H) (fn := Tryz.f174) (Q := fun v H' => v = i64 (findI ls s)) (by kernel_rfl) Tryz.func174 rfl rfl (by
    simp only [go_sem, reduceIte, Nat.reduceEqDiff, Nat.reduceAdd, Nat.reduceMul, Nat.reduceSub, Nat.reduceLeDiff, Nat.reduceLT, Nat.reduceBEq, reduceCtorEq]
    refine W_for (fun k T H' M => M = [] ∧ getT T 0 = .ps .unk (ls.map Ln.row) ∧ getT T 1 = .fn 175 [] [.ptr c 0] ∧ getT T 7 = i64 (ls.length : Nat) ∧ getT T 8 = i64 k ∧ c < H'.n ∧ H'.get c = .cells [.str s] 9 ∧ ∀ (j : Nat) (l : Ln), j < k → ls[j]? = some l → beqL l.name s = false) ls.length ?_ ?_ ?_
    · simp only [go_sem, reduceIte, Nat.reduceEqDiff, Nat.reduceAdd, Nat.reduceMul, Nat.reduceSub, Nat.reduceLeDiff, Nat.reduceLT, Nat.reduceBEq, reduceCtorEq, List.length_map]; exact ⟨hc, hs, fun j l hj => by omega⟩
    · rintro k T H' M hk ⟨rfl, g0, g1, g7, g8, gc, gs, hf⟩
      obtain ⟨l, hp⟩ : ∃ p, ls[k]? = some p := ⟨ls[k], by simp⟩
      have hr := map_at (f := Ln.row) hp
      have hw := wrap_succ hk hl
      have hcall := fun lo => r175 (P := P) lo l s c H' gc gs
      simp only [Ln.row] at hr hcall
      cases hb : beqL l.name s with
      | true =>
        simp only [hb] at hcall
        simp only [go_sem, reduceIte, Nat.reduceEqDiff, Nat.reduceAdd, Nat.reduceMul, Nat.reduceSub, Nat.reduceLeDiff, Nat.reduceLT, Nat.reduceBEq, reduceCtorEq, g0, g1, g7, g8, List.length_map, hk, hr, hw, op_callV (f := 175) (first := []) (caps := [.ptr c 0]), en175 hP, hcall, ofVal_v, ofVal_H]
        simp [findI, findL_drop hf hp hb]
      | false =>
        simp only [hb] at hcall
        simp only [go_sem, reduceIte, Nat.reduceEqDiff, Nat.reduceAdd, Nat.reduceMul, Nat.reduceSub, Nat.reduceLeDiff, Nat.reduceLT, Nat.reduceBEq, reduceCtorEq, g0, g1, g7, g8, List.length_map, hk, hr, hw, op_callV (f := 175) (first := []) (caps := [.ptr c 0]), en175 hP, hcall, ofVal_v, ofVal_H]
        refine ⟨gc, gs, fun j l' hj hl' => ?_⟩
        by_cases e : j = k
        · subst e; rw [hp] at hl'; cases hl'; exact hb
        · exact hf j l' (by omega) hl'
    · rintro T H' M ⟨rfl, g0, g1, g7, g8, gc, gs, hf⟩
      simp only [go_sem, reduceIte, Nat.reduceEqDiff, Nat.reduceAdd, Nat.reduceMul, Nat.reduceSub, Nat.reduceLeDiff, Nat.reduceLT, Nat.reduceBEq, reduceCtorEq, g0, g1, g7, g8, List.length_map, Nat.lt_irrefl]
      simp [findI, findL_none hf])
  exact ⟨H', by rw [h1, h2]⟩

def lnOf (ls : List Ln) (s : List Nat) : Ln := match findL ls s with
  | some i => ls.getD i ⟨[], []⟩
  | none => ⟨[], []⟩
def lnB (ls : List Ln) (s : List Nat) : Bool := (findL ls s).isSome

theorem c98 (n : Net) (s : List Nat) (hn : n.lines.length ≤ maxRows) : ∀ lo H, CallOk NC lo 98 [.agg n.cells, .str s] H (.tup [.agg (lnOf n.lines s).row, .bool (lnB n.lines s)]) H := by
  refine contract saneNC primsF (fn := Tryz.f98) (by kernel_rfl) Tryz.func98 rfl rfl (by rfl) (by rfl) ?_
  obtain ⟨H', hr⟩ := r174 (P := PPF) rfl 3 n.lines s 1 (((Heap.empty.push (.cells [.ps .unk (n.lines.map Ln.row), .ps .unk (n.sws.map Sw.row), .ps .unk (n.sts.map Stc.row)] 40)).push (.cells [.str s] 9)).push (.cells [.str [], .ps .nil []] 196)) hn (by simp only [go_sem, reduceIte, Nat.reduceEqDiff, Nat.reduceAdd, Nat.reduceMul, Nat.reduceSub, Nat.reduceLeDiff, Nat.reduceLT, Nat.reduceBEq, reduceCtorEq]) (by simp only [go_sem, reduceIte, Nat.reduceEqDiff, Nat.reduceAdd, Nat.reduceMul, Nat.reduceSub, Nat.reduceLeDiff, Nat.reduceLT, Nat.reduceBEq, reduceCtorEq])
  cases hf : findL n.lines s with
  | none =>
    simp only [findI, hf] at hr
    simp only [go_sem, reduceIte, Nat.reduceEqDiff, Nat.reduceAdd, Nat.reduceMul, Nat.reduceSub, Nat.reduceLeDiff, Nat.reduceLT, Nat.reduceBEq, reduceCtorEq, Net.cells, en174 (show PPF 174 = none from rfl), hr, ofVal_v, neg_one]
    simp [lnOf, lnB, hf, Ln.row]
  | some i =>
    obtain ⟨l, hl, hlt, hmem⟩ := findL_at hf
    simp only [findI, hf] at hr
    have hrow := map_at (f := Ln.row) hl
    simp only [Ln.row] at hrow
    simp only [go_sem, reduceIte, Nat.reduceEqDiff, Nat.reduceAdd, Nat.reduceMul, Nat.reduceSub, Nat.reduceLeDiff, Nat.reduceLT, Nat.reduceBEq, reduceCtorEq, Net.cells, en174 (show PPF 174 = none from rfl), hr, ofVal_v, neg_cast, List.length_map, hlt, hrow]
    simp [lnOf, lnB, hf, Ln.row, hl]

end Go.Sim

/-
The program: CheckNetwork.
-/
namespace Go.Sim
open Go Go.Proofs
set_option maxRecDepth 100000
set_option maxHeartbeats 4000000

noncomputable def p177 : List AV → Option AV := primOf (α := Ln × Int) (fun x => [.agg x.1.row, i64 x.2]) (fun x => x.1.ps.length ≤ maxRows) (fun x => .bool (hasB x.1 x.2))
theorem pok177 : ∀ args v, p177 args = some v → ∀ lo H, CallOk NC lo 177 args H v H := by
  intro args v h
  obtain ⟨x, rfl, hp, rfl⟩ := primOf_inv h
  clear h
  revert x
  intro x hx; exact c177 x.1 x.2 hx
theorem pe177 (x : Ln × Int) (hp : (fun x => x.1.ps.length ≤ maxRows) x) : p177 ((fun x => [.agg x.1.row, i64 x.2]) x) = some ((fun x => .bool (hasB x.1 x.2)) x) := primOf_enc (by intro x y h; (obtain ⟨a, b⟩ := x; obtain ⟨c, d⟩ := y; simp only [List.cons.injEq, AV.agg.injEq, AV.int.injEq, true_and, and_true] at h; obtain ⟨h1, rfl⟩ := h; rw [Ln.row_inj _ _ h1])) x hp
noncomputable def p180 : List AV → Option AV := primOf (α := Pc) (fun x => [.agg x.row]) (fun _ => True) (fun x => i64 (pieceP x))
theorem pok180 : ∀ args v, p180 args = some v → ∀ lo H, CallOk NC lo 180 args H v H := by
  intro args v h
  obtain ⟨x, rfl, hp, rfl⟩ := primOf_inv h
  clear h
  revert x
  intro x; exact c180 x
theorem pe180 (x : Pc) (hp : (fun _ => True) x) : p180 ((fun x => [.agg x.row]) x) = some ((fun x => i64 (pieceP x)) x) := primOf_enc (by intro x y h; exact pc1_inj x y h) x hp
theorem e180 (l q : Int) (b : Bool) : p180 [.agg [.int .i64 l, .int .i64 q, .bool b]] = some (.int .i64 (pieceP ⟨l, q, b⟩)) := pe180 ⟨l, q, b⟩ trivial
noncomputable def p98 : List AV → Option AV := primOf (α := Net × List Nat) (fun x => [.agg x.1.cells, .str x.2]) (fun x => x.1.lines.length ≤ maxRows) (fun x => .tup [.agg (lnOf x.1.lines x.2).row, .bool (lnB x.1.lines x.2)])
theorem pok98 : ∀ args v, p98 args = some v → ∀ lo H, CallOk NC lo 98 args H v H := by
  intro args v h
  obtain ⟨x, rfl, hp, rfl⟩ := primOf_inv h
  clear h
  revert x
  intro x hx; exact c98 x.1 x.2 hx
theorem pe98 (x : Net × List Nat) (hp : (fun x => x.1.lines.length ≤ maxRows) x) : p98 ((fun x => [.agg x.1.cells, .str x.2]) x) = some ((fun x => .tup [.agg (lnOf x.1.lines x.2).row, .bool (lnB x.1.lines x.2)]) x) := primOf_enc (by intro x y h; (obtain ⟨a, b⟩ := x; obtain ⟨c, d⟩ := y; simp only [List.cons.injEq, AV.agg.injEq, AV.str.injEq, true_and, and_true] at h; obtain ⟨h1, rfl⟩ := h; rw [Net.cells_inj _ _ h1])) x hp

noncomputable def PPG : FuncId → Option (List AV → Option AV) := addPrim 98 p98 (addPrim 180 p180 (addPrim 177 p177 (PPF)))
theorem primsG : PrimsOk NC PPG := primsOk_add (primsOk_add (primsOk_add (primsF) (by kernel_rfl) (by kernel_rfl) pok177) (by kernel_rfl) (by kernel_rfl) pok180) (by kernel_rfl) (by kernel_rfl) pok98
theorem enG_48 {rec : Rec} {lo : Nat} {args : List AV} {H : Heap} {K : AV → Heap → Prop} : VO (aenter (NC.withPrims PPG) rec lo 48 args H) K = AO (p48 args) fun v => K v H := enter_prim (by rfl) (by kernel_rfl)
theorem enG_121 {rec : Rec} {lo : Nat} {args : List AV} {H : Heap} {K : AV → Heap → Prop} : VO (aenter (NC.withPrims PPG) rec lo 121 args H) K = AO (p121 args) fun v => K v H := enter_prim (by rfl) (by kernel_rfl)
theorem enG_34 {rec : Rec} {lo : Nat} {args : List AV} {H : Heap} {K : AV → Heap → Prop} : VO (aenter (NC.withPrims PPG) rec lo 34 args H) K = AO (p34 args) fun v => K v H := enter_prim (by rfl) (by kernel_rfl)
theorem enG_111 {rec : Rec} {lo : Nat} {args : List AV} {H : Heap} {K : AV → Heap → Prop} : VO (aenter (NC.withPrims PPG) rec lo 111 args H) K = AO (p111 args) fun v => K v H := enter_prim (by rfl) (by kernel_rfl)
theorem enG_26 {rec : Rec} {lo : Nat} {args : List AV} {H : Heap} {K : AV → Heap → Prop} : VO (aenter (NC.withPrims PPG) rec lo 26 args H) K = AO (p26 args) fun v => K v H := enter_prim (by rfl) (by kernel_rfl)
theorem enG_178 {rec : Rec} {lo : Nat} {args : List AV} {H : Heap} {K : AV → Heap → Prop} : VO (aenter (NC.withPrims PPG) rec lo 178 args H) K = AO (p178 args) fun v => K v H := enter_prim (by rfl) (by kernel_rfl)
theorem enG_109 {rec : Rec} {lo : Nat} {args : List AV} {H : Heap} {K : AV → Heap → Prop} : VO (aenter (NC.withPrims PPG) rec lo 109 args H) K = AO (p109 args) fun v => K v H := enter_prim (by rfl) (by kernel_rfl)
theorem enG_108 {rec : Rec} {lo : Nat} {args : List AV} {H : Heap} {K : AV → Heap → Prop} : VO (aenter (NC.withPrims PPG) rec lo 108 args H) K = AO (p108 args) fun v => K v H := enter_prim (by rfl) (by kernel_rfl)
theorem enG_27 {rec : Rec} {lo : Nat} {args : List AV} {H : Heap} {K : AV → Heap → Prop} : VO (aenter (NC.withPrims PPG) rec lo 27 args H) K = AO (p27 args) fun v => K v H := enter_prim (by rfl) (by kernel_rfl)
theorem enG_97 {rec : Rec} {lo : Nat} {args : List AV} {H : Heap} {K : AV → Heap → Prop} : VO (aenter (NC.withPrims PPG) rec lo 97 args H) K = AO (p97 args) fun v => K v H := enter_prim (by rfl) (by kernel_rfl)
theorem enG_122 {rec : Rec} {lo : Nat} {args : List AV} {H : Heap} {K : AV → Heap → Prop} : VO (aenter (NC.withPrims PPG) rec lo 122 args H) K = AO (p122 args) fun v => K v H := enter_prim (by rfl) (by kernel_rfl)
theorem enG_182 {rec : Rec} {lo : Nat} {args : List AV} {H : Heap} {K : AV → Heap → Prop} : VO (aenter (NC.withPrims PPG) rec lo 182 args H) K = AO (p182 args) fun v => K v H := enter_prim (by rfl) (by kernel_rfl)
theorem enG_35 {rec : Rec} {lo : Nat} {args : List AV} {H : Heap} {K : AV → Heap → Prop} : VO (aenter (NC.withPrims PPG) rec lo 35 args H) K = AO (p35 args) fun v => K v H := enter_prim (by rfl) (by kernel_rfl)
theorem enG_115 {rec : Rec} {lo : Nat} {args : List AV} {H : Heap} {K : AV → Heap → Prop} : VO (aenter (NC.withPrims PPG) rec lo 115 args H) K = AO (p115 args) fun v => K v H := enter_prim (by rfl) (by kernel_rfl)
theorem enG_36 {rec : Rec} {lo : Nat} {args : List AV} {H : Heap} {K : AV → Heap → Prop} : VO (aenter (NC.withPrims PPG) rec lo 36 args H) K = AO (p36 args) fun v => K v H := enter_prim (by rfl) (by kernel_rfl)
theorem enG_120 {rec : Rec} {lo : Nat} {args : List AV} {H : Heap} {K : AV → Heap → Prop} : VO (aenter (NC.withPrims PPG) rec lo 120 args H) K = AO (p120 args) fun v => K v H := enter_prim (by rfl) (by kernel_rfl)
theorem enG_106 {rec : Rec} {lo : Nat} {args : List AV} {H : Heap} {K : AV → Heap → Prop} : VO (aenter (NC.withPrims PPG) rec lo 106 args H) K = AO (p106 args) fun v => K v H := enter_prim (by rfl) (by kernel_rfl)
theorem enG_179 {rec : Rec} {lo : Nat} {args : List AV} {H : Heap} {K : AV → Heap → Prop} : VO (aenter (NC.withPrims PPG) rec lo 179 args H) K = AO (p179 args) fun v => K v H := enter_prim (by rfl) (by kernel_rfl)
theorem enG_126 {rec : Rec} {lo : Nat} {args : List AV} {H : Heap} {K : AV → Heap → Prop} : VO (aenter (NC.withPrims PPG) rec lo 126 args H) K = AO (p126 args) fun v => K v H := enter_prim (by rfl) (by kernel_rfl)
theorem enG_103 {rec : Rec} {lo : Nat} {args : List AV} {H : Heap} {K : AV → Heap → Prop} : VO (aenter (NC.withPrims PPG) rec lo 103 args H) K = AO (p103 args) fun v => K v H := enter_prim (by rfl) (by kernel_rfl)
theorem enG_104 {rec : Rec} {lo : Nat} {args : List AV} {H : Heap} {K : AV → Heap → Prop} : VO (aenter (NC.withPrims PPG) rec lo 104 args H) K = AO (p104 args) fun v => K v H := enter_prim (by rfl) (by kernel_rfl)
theorem enG_105 {rec : Rec} {lo : Nat} {args : List AV} {H : Heap} {K : AV → Heap → Prop} : VO (aenter (NC.withPrims PPG) rec lo 105 args H) K = AO (p105 args) fun v => K v H := enter_prim (by rfl) (by kernel_rfl)
theorem enG_99 {rec : Rec} {lo : Nat} {args : List AV} {H : Heap} {K : AV → Heap → Prop} : VO (aenter (NC.withPrims PPG) rec lo 99 args H) K = AO (p99 args) fun v => K v H := enter_prim (by rfl) (by kernel_rfl)
theorem enG_226 {rec : Rec} {lo : Nat} {args : List AV} {H : Heap} {K : AV → Heap → Prop} : VO (aenter (NC.withPrims PPG) rec lo 226 args H) K = AO (p226 args) fun v => K v H := enter_prim (by rfl) (by kernel_rfl)
theorem enG_134 {rec : Rec} {lo : Nat} {args : List AV} {H : Heap} {K : AV → Heap → Prop} : VO (aenter (NC.withPrims PPG) rec lo 134 args H) K = AO (p134 args) fun v => K v H := enter_prim (by rfl) (by kernel_rfl)
theorem enG_177 {rec : Rec} {lo : Nat} {args : List AV} {H : Heap} {K : AV → Heap → Prop} : VO (aenter (NC.withPrims PPG) rec lo 177 args H) K = AO (p177 args) fun v => K v H := enter_prim (by rfl) (by kernel_rfl)
theorem enG_180 {rec : Rec} {lo : Nat} {args : List AV} {H : Heap} {K : AV → Heap → Prop} : VO (aenter (NC.withPrims PPG) rec lo 180 args H) K = AO (p180 args) fun v => K v H := enter_prim (by rfl) (by kernel_rfl)
theorem enG_98 {rec : Rec} {lo : Nat} {args : List AV} {H : Heap} {K : AV → Heap → Prop} : VO (aenter (NC.withPrims PPG) rec lo 98 args H) K = AO (p98 args) fun v => K v H := enter_prim (by rfl) (by kernel_rfl)
attribute [go_sem ↓] enG_48 enG_121 enG_34 enG_111 enG_26 enG_178 enG_109 enG_108 enG_27 enG_97 enG_122 enG_182
attribute [go_sem ↓] enG_35 enG_115 enG_36 enG_120 enG_106 enG_179 enG_126 enG_103 enG_104 enG_105 enG_99 enG_226
attribute [go_sem ↓] enG_134 enG_177 enG_180 enG_98


def spanB (l : Ln) (fr till : Int) : Bool := !decide (fr < till) || !hasB l fr || decide (sumW l.ps 0 < till)

theorem c183 (l : Ln) (fr till : Int) (hl : l.ps.length ≤ maxRows) : ∀ lo H, CallOk NC lo 183 [.agg l.row, .agg [i64 fr, i64 till]] H (i64 (whenI (spanB l fr till) 14)) H := by
  refine contract saneNC primsG (fn := Tryz.f183) (by kernel_rfl) Tryz.func183 rfl rfl (by rfl) (by rfl) ?_
  have e99 := pe99 l hl
  have e177 := pe177 (l, fr) hl
  simp only [Ln.row, i64] at e99 e177
  cases h1 : hasB l fr <;> rcases Classical.propComplete (fr < till) with h2 | h2 <;> rcases Classical.propComplete (sumW l.ps 0 < till) with h3 | h3 <;> simp only [h1] at e177 <;> simp only [go_sem, reduceIte, Nat.reduceEqDiff, Nat.reduceAdd, Nat.reduceMul, Nat.reduceSub, Nat.reduceLeDiff, Nat.reduceLT, Nat.reduceBEq, reduceCtorEq, Ln.row, e99, e177, e121, h1, h2, h3] <;> simp [spanB, h1, h2, h3]

/-! ### The errors of a list of pieces -/

theorem intRows_all (es : List Int) : (intRows es).all (fun r => decide (r.length = 1)) = true := by
  rw [List.all_eq_true]
  intro r hr
  obtain ⟨e, _, rfl⟩ := List.mem_map.1 hr
  rfl

theorem rf181 (P : FuncId → Option (List AV → Option AV)) (t : TypeId) : (NC.withPrims P).refApp 181 t = false := by
  show refM.testBit 181 = false
  decide +kernel

theorem c181 (ps : List Pc) (hl : ps.length ≤ maxRows) : ∀ lo H, CallOk NC lo 181 [.ps .unk (ps.map Pc.row), .fn 180 [] []] H (.ps .unk (intRows (ps.map pieceP))) H := by
  refine contract saneNC primsG (fn := Tryz.f181) (by kernel_rfl) Tryz.func181 rfl rfl (by rfl) (by rfl) ?_
  simp only [go_sem, reduceIte, Nat.reduceEqDiff, Nat.reduceAdd, Nat.reduceMul, Nat.reduceSub, Nat.reduceLeDiff, Nat.reduceLT, Nat.reduceBEq, reduceCtorEq]
  refine W_for (fun k T H M => M = [] ∧ getT T 8 = .ps .unk (ps.map Pc.row) ∧ getT T 1 = .fn 180 [] [] ∧ getT T 9 = i64 (ps.length : Nat) ∧ getT T 10 = i64 k ∧ ((k = 0 ∧ getT T 5 = .ps .nil []) ∨ ∃ j, getT T 5 = .ps (.tok j) (intRows ((ps.take k).map pieceP)) ∧ 0 < k ∧ j < H.n ∧ H.get j = .row [] 1 33)) ps.length ?_ ?_ ?_
  · simp only [go_sem, reduceIte, Nat.reduceEqDiff, Nat.reduceAdd, Nat.reduceMul, Nat.reduceSub, Nat.reduceLeDiff, Nat.reduceLT, Nat.reduceBEq, reduceCtorEq, List.length_map]
  · rintro k T H M hk ⟨rfl, g8, g1, g9, g10, hap⟩
    obtain ⟨p, hp⟩ : ∃ p, ps[k]? = some p := ⟨ps[k], by simp⟩
    have hpr := map_at (f := Pc.row) hp
    have hw := wrap_succ hk hl
    have htk : ps.take (k + 1) = ps.take k ++ [p] := by rw [List.take_add_one, hp]; rfl
    obtain ⟨pl, pq, pb⟩ := p
    simp only [Pc.row] at hpr
    rcases hap with ⟨hk0, g5⟩ | ⟨j, g5, hk0, hjn, hj⟩
    · have ha := fun H => app_first (lo := 0) (H := H) (sz := 1) (e := 33) (rx := [[.int .i64 (pieceP ⟨pl, pq, pb⟩)]]) (by simp) (by show 1 ≤ 1073741824; decide) rfl (by decide)
      simp only [go_sem, reduceIte, Nat.reduceEqDiff, Nat.reduceAdd, Nat.reduceMul, Nat.reduceSub, Nat.reduceLeDiff, Nat.reduceLT, Nat.reduceBEq, reduceCtorEq, g8, g1, g9, g10, g5, List.length_map, hk, hpr, hw, op_callV (f := 180) (first := []) (caps := []), e180, appO, isIntT_slice, rowsIn, rf181, ha]
      refine .inr ⟨H.n + 1, ?_, by omega, by omega, by simp⟩
      rw [htk, hk0]; rfl
    · have hj1 : ((H.push (.cells [.int .i64 0, .int .i64 0, .bool false] 200)).set H.n (.cells [.int .i64 pl, .int .i64 pq, .bool pb] 200)).get j = .row [] 1 33 := by
        rw [Heap.get_set, if_neg (by omega), Heap.get_push, if_neg (by omega)]; exact hj
      have ha := app_next (lo := 0) (rows := intRows ((ps.take k).map pieceP)) (rx := [[.int .i64 (pieceP ⟨pl, pq, pb⟩)]]) (e := 33) (sz := 1) (by simp) (by simp [intRows]; omega) rfl (by decide) (intRows_all _) hj1 (Nat.zero_le _) (by simp [intRows]; refine ⟨by omega, ?_⟩; intro e; rw [e] at hk; simp at hk)
      simp only [go_sem, reduceIte, Nat.reduceEqDiff, Nat.reduceAdd, Nat.reduceMul, Nat.reduceSub, Nat.reduceLeDiff, Nat.reduceLT, Nat.reduceBEq, reduceCtorEq, g8, g1, g9, g10, g5, List.length_map, hk, hpr, hw, op_callV (f := 180) (first := []) (caps := []), e180, appO, isIntT_slice, rowsIn, rf181, ha]
      refine .inr ⟨H.n + 1, ?_, by omega, by omega, by simp⟩
      rw [htk]
      simp [intRows]
  · rintro T H M ⟨rfl, g8, g1, g9, g10, hap⟩
    rcases hap with ⟨h0, g5⟩ | ⟨j, g5, hk0, hjn, hj⟩
    · simp only [go_sem, reduceIte, Nat.reduceEqDiff, Nat.reduceAdd, Nat.reduceMul, Nat.reduceSub, Nat.reduceLeDiff, Nat.reduceLT, Nat.reduceBEq, reduceCtorEq, g8, g1, g9, g10, g5, Nat.lt_irrefl]
      rw [List.length_eq_zero_iff.1 h0]; rfl
    · simp only [go_sem, reduceIte, Nat.reduceEqDiff, Nat.reduceAdd, Nat.reduceMul, Nat.reduceSub, Nat.reduceLeDiff, Nat.reduceLT, Nat.reduceBEq, reduceCtorEq, g8, g1, g9, g10, g5, Nat.lt_irrefl, List.take_length]


noncomputable def p181 : List AV → Option AV := primOf (α := List Pc) (fun x => [.ps .unk (x.map Pc.row), .fn 180 [] []]) (fun x => x.length ≤ maxRows) (fun x => .ps .unk (intRows (x.map pieceP)))
theorem pok181 : ∀ args v, p181 args = some v → ∀ lo H, CallOk NC lo 181 args H v H := by
  intro args v h
  obtain ⟨x, rfl, hp, rfl⟩ := primOf_inv h
  clear h
  revert x
  intro x hx; exact c181 x hx
theorem pe181 (x : List Pc) (hp : (fun x => x.length ≤ maxRows) x) : p181 ((fun x => [.ps .unk (x.map Pc.row), .fn 180 [] []]) x) = some ((fun x => .ps .unk (intRows (x.map pieceP))) x) := primOf_enc (by intro x y h; (simp only [List.cons.injEq, AV.ps.injEq, and_true, true_and] at h; exact map_inj Pc.row_inj h)) x hp
noncomputable def p183 : List AV → Option AV := primOf (α := Ln × Int × Int) (fun x => [.agg x.1.row, .agg [i64 x.2.1, i64 x.2.2]]) (fun x => x.1.ps.length ≤ maxRows) (fun x => i64 (whenI (spanB x.1 x.2.1 x.2.2) 14))
theorem pok183 : ∀ args v, p183 args = some v → ∀ lo H, CallOk NC lo 183 args H v H := by
  intro args v h
  obtain ⟨x, rfl, hp, rfl⟩ := primOf_inv h
  clear h
  revert x
  intro x hx; exact c183 x.1 x.2.1 x.2.2 hx
theorem pe183 (x : Ln × Int × Int) (hp : (fun x => x.1.ps.length ≤ maxRows) x) : p183 ((fun x => [.agg x.1.row, .agg [i64 x.2.1, i64 x.2.2]]) x) = some ((fun x => i64 (whenI (spanB x.1 x.2.1 x.2.2) 14)) x) := primOf_enc (by intro x y h; (obtain ⟨a, b, c⟩ := x; obtain ⟨d, e, f⟩ := y; simp only [List.cons.injEq, AV.agg.injEq, AV.int.injEq, true_and, and_true] at h; obtain ⟨h1, rfl, rfl⟩ := h; rw [Ln.row_inj _ _ h1])) x hp

noncomputable def PPH : FuncId → Option (List AV → Option AV) := addPrim 183 p183 (addPrim 181 p181 (PPG))
theorem primsH : PrimsOk NC PPH := primsOk_add (primsOk_add (primsG) (by kernel_rfl) (by kernel_rfl) pok181) (by kernel_rfl) (by kernel_rfl) pok183
theorem enH_48 {rec : Rec} {lo : Nat} {args : List AV} {H : Heap} {K : AV → Heap → Prop} : VO (aenter (NC.withPrims PPH) rec lo 48 args H) K = AO (p48 args) fun v => K v H := enter_prim (by rfl) (by kernel_rfl)
theorem enH_121 {rec : Rec} {lo : Nat} {args : List AV} {H : Heap} {K : AV → Heap → Prop} : VO (aenter (NC.withPrims PPH) rec lo 121 args H) K = AO (p121 args) fun v => K v H := enter_prim (by rfl) (by kernel_rfl)
theorem enH_34 {rec : Rec} {lo : Nat} {args : List AV} {H : Heap} {K : AV → Heap → Prop} : VO (aenter (NC.withPrims PPH) rec lo 34 args H) K = AO (p34 args) fun v => K v H := enter_prim (by rfl) (by kernel_rfl)
theorem enH_111 {rec : Rec} {lo : Nat} {args : List AV} {H : Heap} {K : AV → Heap → Prop} : VO (aenter (NC.withPrims PPH) rec lo 111 args H) K = AO (p111 args) fun v => K v H := enter_prim (by rfl) (by kernel_rfl)
theorem enH_26 {rec : Rec} {lo : Nat} {args : List AV} {H : Heap} {K : AV → Heap → Prop} : VO (aenter (NC.withPrims PPH) rec lo 26 args H) K = AO (p26 args) fun v => K v H := enter_prim (by rfl) (by kernel_rfl)
theorem enH_178 {rec : Rec} {lo : Nat} {args : List AV} {H : Heap} {K : AV → Heap → Prop} : VO (aenter (NC.withPrims PPH) rec lo 178 args H) K = AO (p178 args) fun v => K v H := enter_prim (by rfl) (by kernel_rfl)
theorem enH_109 {rec : Rec} {lo : Nat} {args : List AV} {H : Heap} {K : AV → Heap → Prop} : VO (aenter (NC.withPrims PPH) rec lo 109 args H) K = AO (p109 args) fun v => K v H := enter_prim (by rfl) (by kernel_rfl)
theorem enH_108 {rec : Rec} {lo : Nat} {args : List AV} {H : Heap} {K : AV → Heap → Prop} : VO (aenter (NC.withPrims PPH) rec lo 108 args H) K = AO (p108 args) fun v => K v H := enter_prim (by rfl) (by kernel_rfl)
theorem enH_27 {rec : Rec} {lo : Nat} {args : List AV} {H : Heap} {K : AV → Heap → Prop} : VO (aenter (NC.withPrims PPH) rec lo 27 args H) K = AO (p27 args) fun v => K v H := enter_prim (by rfl) (by kernel_rfl)
theorem enH_97 {rec : Rec} {lo : Nat} {args : List AV} {H : Heap} {K : AV → Heap → Prop} : VO (aenter (NC.withPrims PPH) rec lo 97 args H) K = AO (p97 args) fun v => K v H := enter_prim (by rfl) (by kernel_rfl)
theorem enH_122 {rec : Rec} {lo : Nat} {args : List AV} {H : Heap} {K : AV → Heap → Prop} : VO (aenter (NC.withPrims PPH) rec lo 122 args H) K = AO (p122 args) fun v => K v H := enter_prim (by rfl) (by kernel_rfl)
theorem enH_182 {rec : Rec} {lo : Nat} {args : List AV} {H : Heap} {K : AV → Heap → Prop} : VO (aenter (NC.withPrims PPH) rec lo 182 args H) K = AO (p182 args) fun v => K v H := enter_prim (by rfl) (by kernel_rfl)
theorem enH_35 {rec : Rec} {lo : Nat} {args : List AV} {H : Heap} {K : AV → Heap → Prop} : VO (aenter (NC.withPrims PPH) rec lo 35 args H) K = AO (p35 args) fun v => K v H := enter_prim (by rfl) (by kernel_rfl)
theorem enH_115 {rec : Rec} {lo : Nat} {args : List AV} {H : Heap} {K : AV → Heap → Prop} : VO (aenter (NC.withPrims PPH) rec lo 115 args H) K = AO (p115 args) fun v => K v H := enter_prim (by rfl) (by kernel_rfl)
theorem enH_36 {rec : Rec} {lo : Nat} {args : List AV} {H : Heap} {K : AV → Heap → Prop} : VO (aenter (NC.withPrims PPH) rec lo 36 args H) K = AO (p36 args) fun v => K v H := enter_prim (by rfl) (by kernel_rfl)
theorem enH_120 {rec : Rec} {lo : Nat} {args : List AV} {H : Heap} {K : AV → Heap → Prop} : VO (aenter (NC.withPrims PPH) rec lo 120 args H) K = AO (p120 args) fun v => K v H := enter_prim (by rfl) (by kernel_rfl)
theorem enH_106 {rec : Rec} {lo : Nat} {args : List AV} {H : Heap} {K : AV → Heap → Prop} : VO (aenter (NC.withPrims PPH) rec lo 106 args H) K = AO (p106 args) fun v => K v H := enter_prim (by rfl) (by kernel_rfl)
theorem enH_179 {rec : Rec} {lo : Nat} {args : List AV} {H : Heap} {K : AV → Heap → Prop} : VO (aenter (NC.withPrims PPH) rec lo 179 args H) K = AO (p179 args) fun v => K v H := enter_prim (by rfl) (by kernel_rfl)
theorem enH_126 {rec : Rec} {lo : Nat} {args : List AV} {H : Heap} {K : AV → Heap → Prop} : VO (aenter (NC.withPrims PPH) rec lo 126 args H) K = AO (p126 args) fun v => K v H := enter_prim (by rfl) (by kernel_rfl)
theorem enH_103 {rec : Rec} {lo : Nat} {args : List AV} {H : Heap} {K : AV → Heap → Prop} : VO (aenter (NC.withPrims PPH) rec lo 103 args H) K = AO (p103 args) fun v => K v H := enter_prim (by rfl) (by kernel_rfl)
theorem enH_104 {rec : Rec} {lo : Nat} {args : List AV} {H : Heap} {K : AV → Heap → Prop} : VO (aenter (NC.withPrims PPH) rec lo 104 args H) K = AO (p104 args) fun v => K v H := enter_prim (by rfl) (by kernel_rfl)
theorem enH_105 {rec : Rec} {lo : Nat} {args : List AV} {H : Heap} {K : AV → Heap → Prop} : VO (aenter (NC.withPrims PPH) rec lo 105 args H) K = AO (p105 args) fun v => K v H := enter_prim (by rfl) (by kernel_rfl)
theorem enH_99 {rec : Rec} {lo : Nat} {args : List AV} {H : Heap} {K : AV → Heap → Prop} : VO (aenter (NC.withPrims PPH) rec lo 99 args H) K = AO (p99 args) fun v => K v H := enter_prim (by rfl) (by kernel_rfl)
theorem enH_226 {rec : Rec} {lo : Nat} {args : List AV} {H : Heap} {K : AV → Heap → Prop} : VO (aenter (NC.withPrims PPH) rec lo 226 args H) K = AO (p226 args) fun v => K v H := enter_prim (by rfl) (by kernel_rfl)
theorem enH_134 {rec : Rec} {lo : Nat} {args : List AV} {H : Heap} {K : AV → Heap → Prop} : VO (aenter (NC.withPrims PPH) rec lo 134 args H) K = AO (p134 args) fun v => K v H := enter_prim (by rfl) (by kernel_rfl)
theorem enH_177 {rec : Rec} {lo : Nat} {args : List AV} {H : Heap} {K : AV → Heap → Prop} : VO (aenter (NC.withPrims PPH) rec lo 177 args H) K = AO (p177 args) fun v => K v H := enter_prim (by rfl) (by kernel_rfl)
theorem enH_180 {rec : Rec} {lo : Nat} {args : List AV} {H : Heap} {K : AV → Heap → Prop} : VO (aenter (NC.withPrims PPH) rec lo 180 args H) K = AO (p180 args) fun v => K v H := enter_prim (by rfl) (by kernel_rfl)
theorem enH_98 {rec : Rec} {lo : Nat} {args : List AV} {H : Heap} {K : AV → Heap → Prop} : VO (aenter (NC.withPrims PPH) rec lo 98 args H) K = AO (p98 args) fun v => K v H := enter_prim (by rfl) (by kernel_rfl)
theorem enH_181 {rec : Rec} {lo : Nat} {args : List AV} {H : Heap} {K : AV → Heap → Prop} : VO (aenter (NC.withPrims PPH) rec lo 181 args H) K = AO (p181 args) fun v => K v H := enter_prim (by rfl) (by kernel_rfl)
theorem enH_183 {rec : Rec} {lo : Nat} {args : List AV} {H : Heap} {K : AV → Heap → Prop} : VO (aenter (NC.withPrims PPH) rec lo 183 args H) K = AO (p183 args) fun v => K v H := enter_prim (by rfl) (by kernel_rfl)
attribute [go_sem ↓] enH_48 enH_121 enH_34 enH_111 enH_26 enH_178 enH_109 enH_108 enH_27 enH_97 enH_122 enH_182
attribute [go_sem ↓] enH_35 enH_115 enH_36 enH_120 enH_106 enH_179 enH_126 enH_103 enH_104 enH_105 enH_99 enH_226
attribute [go_sem ↓] enH_134 enH_177 enH_180 enH_98 enH_181 enH_183


/-! ### The names that are known -/

def nameMap (l : List (List Nat)) : List (AV × AV) := l.map fun s => (.str s, .bool true)

theorem aeq9 (a b : List Nat) : aeqT NC.P 100 9 (.str a) (.str b) = some (beqL a b) := by
  have h : NC.P.underlying 9 = some .string := un_9
  unfold aeqT
  simp only [h]

theorem keyOk9 (s : List Nat) : keyOk NC.P 9 (.str s) = true := by
  unfold keyOk
  rw [aeq9]
  have : beqL s s = true := by
    induction s with
    | nil => rfl
    | cons a r ih => simp [beqL, ih]
  rw [this]
  have h : eqType NC.P 100 9 = true := by kernel_rfl
  rw [h]; rfl

theorem afind9 (s : List Nat) : ∀ (l : List (List Nat)) (i : Nat), (l.any (beqL s) = true → ∃ j k, afind NC.P 9 (.str s) (nameMap l) i = some (some (j, k, .bool true))) ∧ (l.any (beqL s) = false → afind NC.P 9 (.str s) (nameMap l) i = some none)
  | [], i => ⟨fun h => by simp at h, fun _ => rfl⟩
  | a :: r, i => by
    have ih := afind9 s r (i + 1)
    have hu : afind NC.P 9 (.str s) (nameMap (a :: r)) i = match aeqT NC.P 100 9 (.str s) (.str a) with
        | some true => some (some (i, .str a, .bool true))
        | some false => afind NC.P 9 (.str s) (nameMap r) (i + 1)
        | none => none := rfl
    rw [hu, aeq9]
    cases hb : beqL s a with
    | true => exact ⟨fun _ => ⟨_, _, rfl⟩, fun h => by simp [hb] at h⟩
    | false => simp only [List.any_cons, hb, Bool.false_or]; exact ih

/-- Is the name known? -/
theorem look9 {H : Heap} {m : Nat} {l : List (List Nat)} (h : H.get m = .map (nameMap l)) (s : List Nat) : alookup NC.P H 310 (.map m) (.str s) false = some (.bool (l.any (beqL s))) := by
  unfold alookup
  have hu : NC.P.underlying 310 = some (.map 9 4) := un_310
  have hz : zeroOf NC.P 4 = some (.bool false) := ze_4
  simp only [hu, keyOk9, if_true, hz, mapEntries, h]
  obtain ⟨h1, h2⟩ := afind9 s l 0
  cases hb : l.any (beqL s) with
  | true =>
    obtain ⟨j, k, e⟩ := h1 hb
    rw [e]; rfl
  | false => rw [h2 hb]; rfl

/-- A name more. -/
theorem upd9 {lo : Nat} {H : Heap} {m : Nat} {l : List (List Nat)} (h : H.get m = .map (nameMap l)) (hlo : lo ≤ m) (s : List Nat) (hs : l.any (beqL s) = false) : amapUpdate NC.P lo H 310 (.map m) (.str s) (.bool true) = some (H.set m (.map (nameMap (l ++ [s])))) := by
  unfold amapUpdate
  have hu : NC.P.underlying 310 = some (.map 9 4) := un_310
  obtain ⟨_, h2⟩ := afind9 s l 0
  simp only [hu, keyOk9, hlo, decide_true, Bool.and_self, if_true, h, h2 hs]
  simp [nameMap, AV.strip]

end Go.Sim

/-
The program: CheckNetwork, its parts.
-/
namespace Go.Sim
open Go Go.Proofs
set_option maxRecDepth 100000
set_option maxHeartbeats 8000000

theorem first4 (a b c d : Int) : firstI [a, b, c, d] = 0 → a = 0 ∧ b = 0 ∧ c = 0 ∧ d = 0 := by
  simp only [firstI]; split <;> (try split) <;> (try split) <;> (try split) <;> simp_all

def dupP (l : List (List Nat)) (s : List Nat) : Bool := l.any (beqL s)

/-- A line's error, by the program. -/
def lineP (ls : List Ln) (i : Nat) : Int := match ls[i]? with
  | none => 0
  | some l =>
    let e := firstI [whenI (!nameB l.name) 8, whenI (dupP ((ls.take i).map Ln.name) l.name) 9, whenI (decide ((l.ps.length : Int) = 0)) 12, whenI (decide ((8 : Int) < l.ps.length)) 5]
    if e = 0 then firstI (l.ps.map pieceP) else e

def linesP (ls : List Ln) : Int := if (8 : Int) < ls.length then 5 else allR (lineP ls) ls.length

theorem c110 (ls : List Ln) (hl : ls.length ≤ maxRows) (hn : ∀ l ∈ ls, l.name.length ≤ maxRows ∧ l.ps.length ≤ maxRows) : ∀ lo H, CallOk NC lo 110 [.ps .unk (ls.map Ln.row)] H (i64 (linesP ls)) H := by
  refine contract saneNC primsH (fn := Tryz.f110) (by kernel_rfl) Tryz.func110 rfl rfl (by rfl) (by rfl) ?_
  rcases Classical.propComplete ((8 : Int) < ls.length) with q1 | q1
  · simp only [go_sem, reduceIte, Nat.reduceEqDiff, Nat.reduceAdd, Nat.reduceMul, Nat.reduceSub, Nat.reduceLeDiff, Nat.reduceLT, Nat.reduceBEq, reduceCtorEq, List.length_map, q1]
    simp [linesP, q1]
  simp only [go_sem, reduceIte, Nat.reduceEqDiff, Nat.reduceAdd, Nat.reduceMul, Nat.reduceSub, Nat.reduceLeDiff, Nat.reduceLT, Nat.reduceBEq, reduceCtorEq, List.length_map, q1]
  refine W_for (fun k T H M => M = [] ∧ getT T 13 = .ps .unk (ls.map Ln.row) ∧ getT T 14 = i64 (ls.length : Nat) ∧ getT T 15 = i64 k ∧ getT T 3 = .map 0 ∧ getT T 4 = .fn 180 [] [] ∧ H.get 0 = .map (nameMap ((ls.take k).map Ln.name)) ∧ 0 < H.n ∧ allR (lineP ls) ls.length = firstI (((List.range ls.length).map (lineP ls)).drop k)) ls.length ?_ ?_ ?_
  · simp only [go_sem, reduceIte, Nat.reduceEqDiff, Nat.reduceAdd, Nat.reduceMul, Nat.reduceSub, Nat.reduceLeDiff, Nat.reduceLT, Nat.reduceBEq, reduceCtorEq, List.length_map]; exact ⟨rfl, rfl⟩
  · rintro k T H M hk ⟨rfl, g13, g14, g15, g3, g4, gH, hn0, hf⟩
    obtain ⟨l, hp⟩ : ∃ p, ls[k]? = some p := ⟨ls[k], by simp⟩
    have hmem := List.mem_of_getElem? hp
    have hr := map_at (f := Ln.row) hp
    have hw := wrap_succ hk hl
    have hfd := allR_step (f := lineP ls) hk
    have htk : (ls.take (k + 1)).map Ln.name = (ls.take k).map Ln.name ++ [l.name] := by rw [List.take_add_one, hp]; simp
    simp only [Ln.row] at hr
    have e120' := e120 l.name (hn l hmem).1
    have e181' := pe181 l.ps (hn l hmem).2
    have e111' := pe111 (l.ps.map pieceP) (by simpa using (hn l hmem).2)
    have h0n : (0 = H.n) = False := by simp; omega
    have h0l : (0 < H.n + 1) = True := by simp
    have hHx : ((H.push (.cells [.str [], .ps .nil []] 196)).set H.n (.cells [.str l.name, .ps .unk (l.ps.map Pc.row)] 196)).get 0 = .map (nameMap ((ls.take k).map Ln.name)) := by
      rw [Heap.get_set, if_neg (by omega), Heap.get_push, if_neg (by omega)]; exact gH
    have hlk := look9 hHx l.name
    generalize hE : firstI [whenI (!nameB l.name) 8, whenI (dupP ((ls.take k).map Ln.name) l.name) 9, whenI (decide ((l.ps.length : Int) = 0)) 12, whenI (decide ((8 : Int) < l.ps.length)) 5] = E
    have hsp : lineP ls k = if E = 0 then firstI (l.ps.map pieceP) else E := by
      unfold lineP
      simp only [hp, hE]
    unfold dupP at hE
    rcases Classical.propComplete (E = 0) with z | z
    · have hdup : ((ls.take k).map Ln.name).any (beqL l.name) = false := by
        have := (first4 _ _ _ _ (hE.trans (of_eq_true z))).2.1
        cases hd : ((ls.take k).map Ln.name).any (beqL l.name) with
        | false => rfl
        | true => rw [hd] at this; simp [whenI] at this
      have hup := upd9 hHx (Nat.zero_le 0) l.name hdup
      rcases Classical.propComplete (firstI (l.ps.map pieceP) = 0) with z2 | z2
      · simp only [go_sem, reduceIte, Nat.reduceEqDiff, Nat.reduceAdd, Nat.reduceMul, Nat.reduceSub, Nat.reduceLeDiff, Nat.reduceLT, Nat.reduceBEq, reduceCtorEq, g13, g14, g15, g3, g4, List.length_map, hk, hr, hw, h0l, e120', hlk, e121, e111_4, hE, z, e181', e111', z2, hup]
        rw [htk]
        refine ⟨rfl, ?_⟩
        simp [hf, hfd, hsp, z, z2]
      · simp only [go_sem, reduceIte, Nat.reduceEqDiff, Nat.reduceAdd, Nat.reduceMul, Nat.reduceSub, Nat.reduceLeDiff, Nat.reduceLT, Nat.reduceBEq, reduceCtorEq, g13, g14, g15, g3, g4, List.length_map, hk, hr, hw, h0l, e120', hlk, e121, e111_4, hE, z, e181', e111', z2]
        simp [linesP, q1, hf, hfd, hsp, z, z2]
    · simp only [go_sem, reduceIte, Nat.reduceEqDiff, Nat.reduceAdd, Nat.reduceMul, Nat.reduceSub, Nat.reduceLeDiff, Nat.reduceLT, Nat.reduceBEq, reduceCtorEq, g13, g14, g15, g3, g4, List.length_map, hk, hr, hw, h0l, e120', hlk, e121, e111_4, hE, z]
      simp [linesP, q1, hf, hfd, hsp, z]
  · rintro T H M ⟨rfl, g13, g14, g15, g3, g4, gH, hn0, hf⟩
    rw [allR_end] at hf
    simp only [go_sem, reduceIte, Nat.reduceEqDiff, Nat.reduceAdd, Nat.reduceMul, Nat.reduceSub, Nat.reduceLeDiff, Nat.reduceLT, Nat.reduceBEq, reduceCtorEq, g13, g14, g15, List.length_map, Nat.lt_irrefl]
    simp [linesP, q1, hf]


/-! ### Switches -/

theorem lnOf_fits {ls : List Ln} {s : List Nat} (h : ∀ l ∈ ls, l.ps.length ≤ maxRows) : (lnOf ls s).ps.length ≤ maxRows := by
  unfold lnOf
  cases hf : findL ls s with
  | none => simp
  | some i =>
    obtain ⟨l, hl, _, hm⟩ := findL_at hf
    simp only [List.getD_eq_getElem?_getD, hl, Option.getD_some]
    exact h l hm

theorem first6 (a b c d e f : Int) : firstI [a, b, c, d, e, f] = 0 → b = 0 := by
  simp only [firstI]; split <;> (try split) <;> simp_all
theorem first5 (a b c d e : Int) : firstI [a, b, c, d, e] = 0 → b = 0 := by
  simp only [firstI]; split <;> (try split) <;> simp_all

def switchP (n : Net) (i : Nat) : Int := match n.sws[i]? with
  | none => 0
  | some s => firstI [whenI (!nameB s.name) 8, whenI (dupP ((n.sws.take i).map Sw.name) s.name) 9, whenI (!lnB n.lines s.line) 10, whenI (!hasB (lnOf n.lines s.line) s.metre) 14, whenI (!lnB n.lines s.other) 10, whenI (beqL s.line s.other) 24]

def switchesP (n : Net) : Int := if (8 : Int) < n.sws.length then 5 else allR (switchP n) n.sws.length

theorem c112 (n : Net) (hl : n.lines.length ≤ maxRows) (hps : ∀ l ∈ n.lines, l.ps.length ≤ maxRows) (hs : n.sws.length ≤ maxRows) (hn : ∀ s ∈ n.sws, s.name.length ≤ maxRows) : ∀ lo H, CallOk NC lo 112 [.agg n.cells] H (i64 (switchesP n)) H := by
  refine contract saneNC primsH (fn := Tryz.f112) (by kernel_rfl) Tryz.func112 rfl rfl (by rfl) (by rfl) ?_
  rcases Classical.propComplete ((8 : Int) < n.sws.length) with q1 | q1
  · simp only [go_sem, reduceIte, Nat.reduceEqDiff, Nat.reduceAdd, Nat.reduceMul, Nat.reduceSub, Nat.reduceLeDiff, Nat.reduceLT, Nat.reduceBEq, reduceCtorEq, Net.cells, List.length_map, q1]
    simp [switchesP, q1]
  simp only [go_sem, reduceIte, Nat.reduceEqDiff, Nat.reduceAdd, Nat.reduceMul, Nat.reduceSub, Nat.reduceLeDiff, Nat.reduceLT, Nat.reduceBEq, reduceCtorEq, Net.cells, List.length_map, q1]
  refine W_for (fun k T H M => M = [] ∧ getT T 1 = .ptr 0 0 ∧ H.get 0 = .cells n.cells 40 ∧ getT T 17 = .ps .unk (n.sws.map Sw.row) ∧ getT T 18 = i64 (n.sws.length : Nat) ∧ getT T 19 = i64 k ∧ getT T 3 = .map 1 ∧ H.get 1 = .map (nameMap ((n.sws.take k).map Sw.name)) ∧ 1 < H.n ∧ allR (switchP n) n.sws.length = firstI (((List.range n.sws.length).map (switchP n)).drop k)) n.sws.length ?_ ?_ ?_
  · simp only [go_sem, reduceIte, Nat.reduceEqDiff, Nat.reduceAdd, Nat.reduceMul, Nat.reduceSub, Nat.reduceLeDiff, Nat.reduceLT, Nat.reduceBEq, reduceCtorEq, List.length_map, Net.cells]; exact ⟨rfl, rfl⟩
  · rintro k T H M hk ⟨rfl, g1, gH0, g17, g18, g19, g3, gH, hn0, hf⟩
    obtain ⟨s, hp⟩ : ∃ p, n.sws[k]? = some p := ⟨n.sws[k], by simp⟩
    have hmem := List.mem_of_getElem? hp
    have hr := map_at (f := Sw.row) hp
    have hw := wrap_succ hk hs
    have hfd := allR_step (f := switchP n) hk
    have htk : (n.sws.take (k + 1)).map Sw.name = (n.sws.take k).map Sw.name ++ [s.name] := by rw [List.take_add_one, hp]; simp
    simp only [Sw.row] at hr
    have e120' := e120 s.name (hn s hmem)
    have e98a := pe98 (n, s.line) hl
    have e98b := pe98 (n, s.other) hl
    have e177' := pe177 (lnOf n.lines s.line, s.metre) (lnOf_fits hps)
    simp only [Net.cells, Ln.row, i64] at e98a e98b e177'
    have b0 : (0 = H.n) = False := by simp; omega
    have b1 : (1 = H.n) = False := by simp; omega
    have b00 : (0 = H.n + 1) = False := by simp
    have b01 : (0 = H.n + 1 + 1) = False := by simp
    have b10 : (1 = H.n + 1) = False := by simp; omega
    have b11 : (1 = H.n + 1 + 1) = False := by simp
    have b2 : (H.n = H.n + 1) = False := by simp
    have b3 : (H.n = H.n + 1 + 1) = False := by simp; omega
    have b4 : (H.n + 1 = H.n + 1 + 1) = False := by simp
    have b5 : (1 < H.n + 1 + 1 + 1) = True := by simp
    generalize hE : firstI [whenI (!nameB s.name) 8, whenI (dupP ((n.sws.take k).map Sw.name) s.name) 9, whenI (!lnB n.lines s.line) 10, whenI (!hasB (lnOf n.lines s.line) s.metre) 14, whenI (!lnB n.lines s.other) 10, whenI (beqL s.line s.other) 24] = E
    have hsp : switchP n k = E := by
      unfold switchP
      simp only [hp, hE]
    unfold dupP at hE
    have hlk : ∀ H2 : Heap, H2.get 1 = .map (nameMap ((n.sws.take k).map Sw.name)) → alookup NC.P H2 310 (.map 1) (.str s.name) false = some (.bool (((n.sws.take k).map Sw.name).any (beqL s.name))) := fun H2 h2 => look9 h2 s.name
    rcases Classical.propComplete (E = 0) with z | z
    · have hdup : ((n.sws.take k).map Sw.name).any (beqL s.name) = false := by
        have := first6 _ _ _ _ _ _ (hE.trans (of_eq_true z))
        cases hd : ((n.sws.take k).map Sw.name).any (beqL s.name) with
        | false => rfl
        | true => rw [hd] at this; simp [whenI] at this
      have hup : ∀ H2 : Heap, H2.get 1 = .map (nameMap ((n.sws.take k).map Sw.name)) → amapUpdate NC.P 0 H2 310 (.map 1) (.str s.name) (.bool true) = some (H2.set 1 (.map (nameMap ((n.sws.take k).map Sw.name ++ [s.name])))) := fun H2 h2 => upd9 h2 (Nat.zero_le 1) s.name hdup
      simp only [go_sem, reduceIte, Nat.reduceEqDiff, Nat.reduceAdd, Nat.reduceMul, Nat.reduceSub, Nat.reduceLeDiff, Nat.reduceLT, Nat.reduceBEq, reduceCtorEq, g1, gH0, g17, g18, g19, g3, gH, Net.cells, Ln.row, List.length_map, hk, hr, hw, b0, b1, b00, b01, b10, b11, b2, b3, b4, b5, e120', e98a, e98b, e177', hlk, e121, e111_6, hE, z, hup]
      rw [htk]
      refine ⟨rfl, ?_⟩
      simp [hf, hfd, hsp, z]
    · simp only [go_sem, reduceIte, Nat.reduceEqDiff, Nat.reduceAdd, Nat.reduceMul, Nat.reduceSub, Nat.reduceLeDiff, Nat.reduceLT, Nat.reduceBEq, reduceCtorEq, g1, gH0, g17, g18, g19, g3, gH, Net.cells, Ln.row, List.length_map, hk, hr, hw, b0, b1, b00, b01, b10, b11, b2, b3, b4, b5, e120', e98a, e98b, e177', hlk, e121, e111_6, hE, z]
      simp [switchesP, q1, hf, hfd, hsp, z]
  · rintro T H M ⟨rfl, g1, gH0, g17, g18, g19, g3, gH, hn0, hf⟩
    rw [allR_end] at hf
    simp only [go_sem, reduceIte, Nat.reduceEqDiff, Nat.reduceAdd, Nat.reduceMul, Nat.reduceSub, Nat.reduceLeDiff, Nat.reduceLT, Nat.reduceBEq, reduceCtorEq, g17, g18, g19, List.length_map, Nat.lt_irrefl]
    simp [switchesP, q1, hf]


/-! ### Structures -/

def structP (n : Net) (i : Nat) : Int := match n.sts[i]? with
  | none => 0
  | some s => firstI [whenI (!nameB s.name) 8, whenI (dupP ((n.sts.take i).map Stc.name) s.name) 9, whenI (!nameB s.kind) 13, whenI (!lnB n.lines s.line) 10, whenI (spanB (lnOf n.lines s.line) s.fr s.till) 14]

def structsP (n : Net) : Int := if (16 : Int) < n.sts.length then 5 else allR (structP n) n.sts.length

theorem c113 (n : Net) (hl : n.lines.length ≤ maxRows) (hps : ∀ l ∈ n.lines, l.ps.length ≤ maxRows) (hs : n.sts.length ≤ maxRows) (hn : ∀ s ∈ n.sts, s.name.length ≤ maxRows ∧ s.kind.length ≤ maxRows) : ∀ lo H, CallOk NC lo 113 [.agg n.cells] H (i64 (structsP n)) H := by
  refine contract saneNC primsH (fn := Tryz.f113) (by kernel_rfl) Tryz.func113 rfl rfl (by rfl) (by rfl) ?_
  rcases Classical.propComplete ((16 : Int) < n.sts.length) with q1 | q1
  · simp only [go_sem, reduceIte, Nat.reduceEqDiff, Nat.reduceAdd, Nat.reduceMul, Nat.reduceSub, Nat.reduceLeDiff, Nat.reduceLT, Nat.reduceBEq, reduceCtorEq, Net.cells, List.length_map, q1]
    simp [structsP, q1]
  simp only [go_sem, reduceIte, Nat.reduceEqDiff, Nat.reduceAdd, Nat.reduceMul, Nat.reduceSub, Nat.reduceLeDiff, Nat.reduceLT, Nat.reduceBEq, reduceCtorEq, Net.cells, List.length_map, q1]
  refine W_for (fun k T H M => M = [] ∧ getT T 1 = .ptr 0 0 ∧ H.get 0 = .cells n.cells 40 ∧ getT T 15 = .ps .unk (n.sts.map Stc.row) ∧ getT T 16 = i64 (n.sts.length : Nat) ∧ getT T 17 = i64 k ∧ getT T 3 = .map 1 ∧ H.get 1 = .map (nameMap ((n.sts.take k).map Stc.name)) ∧ 1 < H.n ∧ allR (structP n) n.sts.length = firstI (((List.range n.sts.length).map (structP n)).drop k)) n.sts.length ?_ ?_ ?_
  · simp only [go_sem, reduceIte, Nat.reduceEqDiff, Nat.reduceAdd, Nat.reduceMul, Nat.reduceSub, Nat.reduceLeDiff, Nat.reduceLT, Nat.reduceBEq, reduceCtorEq, List.length_map, Net.cells]; exact ⟨rfl, rfl⟩
  · rintro k T H M hk ⟨rfl, g1, gH0, g17, g18, g19, g3, gH, hn0, hf⟩
    obtain ⟨s, hp⟩ : ∃ p, n.sts[k]? = some p := ⟨n.sts[k], by simp⟩
    have hmem := List.mem_of_getElem? hp
    have hr := map_at (f := Stc.row) hp
    have hw := wrap_succ hk hs
    have hfd := allR_step (f := structP n) hk
    have htk : (n.sts.take (k + 1)).map Stc.name = (n.sts.take k).map Stc.name ++ [s.name] := by rw [List.take_add_one, hp]; simp
    simp only [Stc.row] at hr
    have e120' := e120 s.name (hn s hmem).1
    have e182' := e182 s.kind (hn s hmem).2
    have e98a := pe98 (n, s.line) hl
    have e183' := pe183 (lnOf n.lines s.line, s.fr, s.till) (lnOf_fits hps)
    simp only [Net.cells, Ln.row, i64] at e98a e183'
    have b0 : (0 = H.n) = False := by simp; omega
    have b1 : (1 = H.n) = False := by simp; omega
    have b00 : (0 = H.n + 1) = False := by simp
    have b10 : (1 = H.n + 1) = False := by simp; omega
    have b2 : (H.n = H.n + 1) = False := by simp
    have b5 : (1 < H.n + 1 + 1) = True := by simp
    generalize hE : firstI [whenI (!nameB s.name) 8, whenI (dupP ((n.sts.take k).map Stc.name) s.name) 9, whenI (!nameB s.kind) 13, whenI (!lnB n.lines s.line) 10, whenI (spanB (lnOf n.lines s.line) s.fr s.till) 14] = E
    have hsp : structP n k = E := by
      unfold structP
      simp only [hp, hE]
    unfold dupP at hE
    have hlk : ∀ H2 : Heap, H2.get 1 = .map (nameMap ((n.sts.take k).map Stc.name)) → alookup NC.P H2 310 (.map 1) (.str s.name) false = some (.bool (((n.sts.take k).map Stc.name).any (beqL s.name))) := fun H2 h2 => look9 h2 s.name
    rcases Classical.propComplete (E = 0) with z | z
    · have hdup : ((n.sts.take k).map Stc.name).any (beqL s.name) = false := by
        have := first5 _ _ _ _ _ (hE.trans (of_eq_true z))
        cases hd : ((n.sts.take k).map Stc.name).any (beqL s.name) with
        | false => rfl
        | true => rw [hd] at this; simp [whenI] at this
      have hup : ∀ H2 : Heap, H2.get 1 = .map (nameMap ((n.sts.take k).map Stc.name)) → amapUpdate NC.P 0 H2 310 (.map 1) (.str s.name) (.bool true) = some (H2.set 1 (.map (nameMap ((n.sts.take k).map Stc.name ++ [s.name])))) := fun H2 h2 => upd9 h2 (Nat.zero_le 1) s.name hdup
      simp only [go_sem, reduceIte, Nat.reduceEqDiff, Nat.reduceAdd, Nat.reduceMul, Nat.reduceSub, Nat.reduceLeDiff, Nat.reduceLT, Nat.reduceBEq, reduceCtorEq, g1, gH0, g17, g18, g19, g3, gH, Net.cells, Ln.row, List.length_map, hk, hr, hw, b0, b1, b00, b10, b2, b5, e120', e182', e98a, e183', hlk, e121, e111_5, hE, z, hup]
      rw [htk]
      refine ⟨rfl, ?_⟩
      simp [hf, hfd, hsp, z]
    · simp only [go_sem, reduceIte, Nat.reduceEqDiff, Nat.reduceAdd, Nat.reduceMul, Nat.reduceSub, Nat.reduceLeDiff, Nat.reduceLT, Nat.reduceBEq, reduceCtorEq, g1, gH0, g17, g18, g19, g3, gH, Net.cells, Ln.row, List.length_map, hk, hr, hw, b0, b1, b00, b10, b2, b5, e120', e182', e98a, e183', hlk, e121, e111_5, hE, z]
      simp [structsP, q1, hf, hfd, hsp, z]
  · rintro T H M ⟨rfl, g1, gH0, g17, g18, g19, g3, gH, hn0, hf⟩
    rw [allR_end] at hf
    simp only [go_sem, reduceIte, Nat.reduceEqDiff, Nat.reduceAdd, Nat.reduceMul, Nat.reduceSub, Nat.reduceLeDiff, Nat.reduceLT, Nat.reduceBEq, reduceCtorEq, g17, g18, g19, List.length_map, Nat.lt_irrefl]
    simp [structsP, q1, hf]

end Go.Sim

/-
The program: CheckNetwork, Length, Addressed, Placed.
-/
namespace Go.Sim
open Go Go.Proofs
set_option maxRecDepth 100000
set_option maxHeartbeats 8000000

/-- Sizes that the machine can hold. -/
structure Net.Ok (n : Net) : Prop where
  lines : n.lines.length ≤ maxRows
  line : ∀ l ∈ n.lines, l.name.length ≤ maxRows ∧ l.ps.length ≤ maxRows
  sws : n.sws.length ≤ maxRows
  sw : ∀ s ∈ n.sws, s.name.length ≤ maxRows
  sts : n.sts.length ≤ maxRows
  st : ∀ s ∈ n.sts, s.name.length ≤ maxRows ∧ s.kind.length ≤ maxRows

theorem Net.Ok.fits {n : Net} (h : n.Ok) : n.fits := ⟨h.lines, fun l hl => (h.line l hl).2⟩

theorem cells1_inj (x y : Net) (h : [AV.agg x.cells] = [AV.agg y.cells]) : x = y := by
  simp only [List.cons.injEq, AV.agg.injEq, and_true] at h; exact Net.cells_inj _ _ h

noncomputable def p110 : List AV → Option AV := primOf (α := List Ln) (fun x => [.ps .unk (x.map Ln.row)]) (fun x => (x.length ≤ maxRows ∧ ∀ l ∈ x, l.name.length ≤ maxRows ∧ l.ps.length ≤ maxRows)) (fun x => i64 (linesP x))
theorem pok110 : ∀ args v, p110 args = some v → ∀ lo H, CallOk NC lo 110 args H v H := by
  intro args v h
  obtain ⟨x, rfl, hp, rfl⟩ := primOf_inv h
  clear h
  revert x
  intro x hx; exact c110 x hx.1 hx.2
theorem pe110 (x : List Ln) (hp : (fun x => (x.length ≤ maxRows ∧ ∀ l ∈ x, l.name.length ≤ maxRows ∧ l.ps.length ≤ maxRows)) x) : p110 ((fun x => [.ps .unk (x.map Ln.row)]) x) = some ((fun x => i64 (linesP x)) x) := primOf_enc (by intro x y h; (simp only [List.cons.injEq, AV.ps.injEq, and_true, true_and] at h; exact map_inj Ln.row_inj h)) x hp
noncomputable def p112 : List AV → Option AV := primOf (α := Net) (fun x => [.agg x.cells]) (fun x => x.Ok) (fun x => i64 (switchesP x))
theorem pok112 : ∀ args v, p112 args = some v → ∀ lo H, CallOk NC lo 112 args H v H := by
  intro args v h
  obtain ⟨x, rfl, hp, rfl⟩ := primOf_inv h
  clear h
  revert x
  intro x hx; exact c112 x hx.lines (fun l hl => (hx.line l hl).2) hx.sws hx.sw
theorem pe112 (x : Net) (hp : (fun x => x.Ok) x) : p112 ((fun x => [.agg x.cells]) x) = some ((fun x => i64 (switchesP x)) x) := primOf_enc (by intro x y h; exact cells1_inj x y h) x hp
noncomputable def p113 : List AV → Option AV := primOf (α := Net) (fun x => [.agg x.cells]) (fun x => x.Ok) (fun x => i64 (structsP x))
theorem pok113 : ∀ args v, p113 args = some v → ∀ lo H, CallOk NC lo 113 args H v H := by
  intro args v h
  obtain ⟨x, rfl, hp, rfl⟩ := primOf_inv h
  clear h
  revert x
  intro x hx; exact c113 x hx.lines (fun l hl => (hx.line l hl).2) hx.sts hx.st
theorem pe113 (x : Net) (hp : (fun x => x.Ok) x) : p113 ((fun x => [.agg x.cells]) x) = some ((fun x => i64 (structsP x)) x) := primOf_enc (by intro x y h; exact cells1_inj x y h) x hp

noncomputable def PPI : FuncId → Option (List AV → Option AV) := addPrim 113 p113 (addPrim 112 p112 (addPrim 110 p110 (PPH)))
theorem primsI : PrimsOk NC PPI := primsOk_add (primsOk_add (primsOk_add (primsH) (by kernel_rfl) (by kernel_rfl) pok110) (by kernel_rfl) (by kernel_rfl) pok112) (by kernel_rfl) (by kernel_rfl) pok113
theorem enI_48 {rec : Rec} {lo : Nat} {args : List AV} {H : Heap} {K : AV → Heap → Prop} : VO (aenter (NC.withPrims PPI) rec lo 48 args H) K = AO (p48 args) fun v => K v H := enter_prim (by rfl) (by kernel_rfl)
theorem enI_121 {rec : Rec} {lo : Nat} {args : List AV} {H : Heap} {K : AV → Heap → Prop} : VO (aenter (NC.withPrims PPI) rec lo 121 args H) K = AO (p121 args) fun v => K v H := enter_prim (by rfl) (by kernel_rfl)
theorem enI_34 {rec : Rec} {lo : Nat} {args : List AV} {H : Heap} {K : AV → Heap → Prop} : VO (aenter (NC.withPrims PPI) rec lo 34 args H) K = AO (p34 args) fun v => K v H := enter_prim (by rfl) (by kernel_rfl)
theorem enI_111 {rec : Rec} {lo : Nat} {args : List AV} {H : Heap} {K : AV → Heap → Prop} : VO (aenter (NC.withPrims PPI) rec lo 111 args H) K = AO (p111 args) fun v => K v H := enter_prim (by rfl) (by kernel_rfl)
theorem enI_26 {rec : Rec} {lo : Nat} {args : List AV} {H : Heap} {K : AV → Heap → Prop} : VO (aenter (NC.withPrims PPI) rec lo 26 args H) K = AO (p26 args) fun v => K v H := enter_prim (by rfl) (by kernel_rfl)
theorem enI_178 {rec : Rec} {lo : Nat} {args : List AV} {H : Heap} {K : AV → Heap → Prop} : VO (aenter (NC.withPrims PPI) rec lo 178 args H) K = AO (p178 args) fun v => K v H := enter_prim (by rfl) (by kernel_rfl)
theorem enI_109 {rec : Rec} {lo : Nat} {args : List AV} {H : Heap} {K : AV → Heap → Prop} : VO (aenter (NC.withPrims PPI) rec lo 109 args H) K = AO (p109 args) fun v => K v H := enter_prim (by rfl) (by kernel_rfl)
theorem enI_108 {rec : Rec} {lo : Nat} {args : List AV} {H : Heap} {K : AV → Heap → Prop} : VO (aenter (NC.withPrims PPI) rec lo 108 args H) K = AO (p108 args) fun v => K v H := enter_prim (by rfl) (by kernel_rfl)
theorem enI_27 {rec : Rec} {lo : Nat} {args : List AV} {H : Heap} {K : AV → Heap → Prop} : VO (aenter (NC.withPrims PPI) rec lo 27 args H) K = AO (p27 args) fun v => K v H := enter_prim (by rfl) (by kernel_rfl)
theorem enI_97 {rec : Rec} {lo : Nat} {args : List AV} {H : Heap} {K : AV → Heap → Prop} : VO (aenter (NC.withPrims PPI) rec lo 97 args H) K = AO (p97 args) fun v => K v H := enter_prim (by rfl) (by kernel_rfl)
theorem enI_122 {rec : Rec} {lo : Nat} {args : List AV} {H : Heap} {K : AV → Heap → Prop} : VO (aenter (NC.withPrims PPI) rec lo 122 args H) K = AO (p122 args) fun v => K v H := enter_prim (by rfl) (by kernel_rfl)
theorem enI_182 {rec : Rec} {lo : Nat} {args : List AV} {H : Heap} {K : AV → Heap → Prop} : VO (aenter (NC.withPrims PPI) rec lo 182 args H) K = AO (p182 args) fun v => K v H := enter_prim (by rfl) (by kernel_rfl)
theorem enI_35 {rec : Rec} {lo : Nat} {args : List AV} {H : Heap} {K : AV → Heap → Prop} : VO (aenter (NC.withPrims PPI) rec lo 35 args H) K = AO (p35 args) fun v => K v H := enter_prim (by rfl) (by kernel_rfl)
theorem enI_115 {rec : Rec} {lo : Nat} {args : List AV} {H : Heap} {K : AV → Heap → Prop} : VO (aenter (NC.withPrims PPI) rec lo 115 args H) K = AO (p115 args) fun v => K v H := enter_prim (by rfl) (by kernel_rfl)
theorem enI_36 {rec : Rec} {lo : Nat} {args : List AV} {H : Heap} {K : AV → Heap → Prop} : VO (aenter (NC.withPrims PPI) rec lo 36 args H) K = AO (p36 args) fun v => K v H := enter_prim (by rfl) (by kernel_rfl)
theorem enI_120 {rec : Rec} {lo : Nat} {args : List AV} {H : Heap} {K : AV → Heap → Prop} : VO (aenter (NC.withPrims PPI) rec lo 120 args H) K = AO (p120 args) fun v => K v H := enter_prim (by rfl) (by kernel_rfl)
theorem enI_106 {rec : Rec} {lo : Nat} {args : List AV} {H : Heap} {K : AV → Heap → Prop} : VO (aenter (NC.withPrims PPI) rec lo 106 args H) K = AO (p106 args) fun v => K v H := enter_prim (by rfl) (by kernel_rfl)
theorem enI_179 {rec : Rec} {lo : Nat} {args : List AV} {H : Heap} {K : AV → Heap → Prop} : VO (aenter (NC.withPrims PPI) rec lo 179 args H) K = AO (p179 args) fun v => K v H := enter_prim (by rfl) (by kernel_rfl)
theorem enI_126 {rec : Rec} {lo : Nat} {args : List AV} {H : Heap} {K : AV → Heap → Prop} : VO (aenter (NC.withPrims PPI) rec lo 126 args H) K = AO (p126 args) fun v => K v H := enter_prim (by rfl) (by kernel_rfl)
theorem enI_103 {rec : Rec} {lo : Nat} {args : List AV} {H : Heap} {K : AV → Heap → Prop} : VO (aenter (NC.withPrims PPI) rec lo 103 args H) K = AO (p103 args) fun v => K v H := enter_prim (by rfl) (by kernel_rfl)
theorem enI_104 {rec : Rec} {lo : Nat} {args : List AV} {H : Heap} {K : AV → Heap → Prop} : VO (aenter (NC.withPrims PPI) rec lo 104 args H) K = AO (p104 args) fun v => K v H := enter_prim (by rfl) (by kernel_rfl)
theorem enI_105 {rec : Rec} {lo : Nat} {args : List AV} {H : Heap} {K : AV → Heap → Prop} : VO (aenter (NC.withPrims PPI) rec lo 105 args H) K = AO (p105 args) fun v => K v H := enter_prim (by rfl) (by kernel_rfl)
theorem enI_99 {rec : Rec} {lo : Nat} {args : List AV} {H : Heap} {K : AV → Heap → Prop} : VO (aenter (NC.withPrims PPI) rec lo 99 args H) K = AO (p99 args) fun v => K v H := enter_prim (by rfl) (by kernel_rfl)
theorem enI_226 {rec : Rec} {lo : Nat} {args : List AV} {H : Heap} {K : AV → Heap → Prop} : VO (aenter (NC.withPrims PPI) rec lo 226 args H) K = AO (p226 args) fun v => K v H := enter_prim (by rfl) (by kernel_rfl)
theorem enI_134 {rec : Rec} {lo : Nat} {args : List AV} {H : Heap} {K : AV → Heap → Prop} : VO (aenter (NC.withPrims PPI) rec lo 134 args H) K = AO (p134 args) fun v => K v H := enter_prim (by rfl) (by kernel_rfl)
theorem enI_177 {rec : Rec} {lo : Nat} {args : List AV} {H : Heap} {K : AV → Heap → Prop} : VO (aenter (NC.withPrims PPI) rec lo 177 args H) K = AO (p177 args) fun v => K v H := enter_prim (by rfl) (by kernel_rfl)
theorem enI_180 {rec : Rec} {lo : Nat} {args : List AV} {H : Heap} {K : AV → Heap → Prop} : VO (aenter (NC.withPrims PPI) rec lo 180 args H) K = AO (p180 args) fun v => K v H := enter_prim (by rfl) (by kernel_rfl)
theorem enI_98 {rec : Rec} {lo : Nat} {args : List AV} {H : Heap} {K : AV → Heap → Prop} : VO (aenter (NC.withPrims PPI) rec lo 98 args H) K = AO (p98 args) fun v => K v H := enter_prim (by rfl) (by kernel_rfl)
theorem enI_181 {rec : Rec} {lo : Nat} {args : List AV} {H : Heap} {K : AV → Heap → Prop} : VO (aenter (NC.withPrims PPI) rec lo 181 args H) K = AO (p181 args) fun v => K v H := enter_prim (by rfl) (by kernel_rfl)
theorem enI_183 {rec : Rec} {lo : Nat} {args : List AV} {H : Heap} {K : AV → Heap → Prop} : VO (aenter (NC.withPrims PPI) rec lo 183 args H) K = AO (p183 args) fun v => K v H := enter_prim (by rfl) (by kernel_rfl)
theorem enI_110 {rec : Rec} {lo : Nat} {args : List AV} {H : Heap} {K : AV → Heap → Prop} : VO (aenter (NC.withPrims PPI) rec lo 110 args H) K = AO (p110 args) fun v => K v H := enter_prim (by rfl) (by kernel_rfl)
theorem enI_112 {rec : Rec} {lo : Nat} {args : List AV} {H : Heap} {K : AV → Heap → Prop} : VO (aenter (NC.withPrims PPI) rec lo 112 args H) K = AO (p112 args) fun v => K v H := enter_prim (by rfl) (by kernel_rfl)
theorem enI_113 {rec : Rec} {lo : Nat} {args : List AV} {H : Heap} {K : AV → Heap → Prop} : VO (aenter (NC.withPrims PPI) rec lo 113 args H) K = AO (p113 args) fun v => K v H := enter_prim (by rfl) (by kernel_rfl)
attribute [go_sem ↓] enI_48 enI_121 enI_34 enI_111 enI_26 enI_178 enI_109 enI_108 enI_27 enI_97 enI_122 enI_182
attribute [go_sem ↓] enI_35 enI_115 enI_36 enI_120 enI_106 enI_179 enI_126 enI_103 enI_104 enI_105 enI_99 enI_226
attribute [go_sem ↓] enI_134 enI_177 enI_180 enI_98 enI_181 enI_183 enI_110 enI_112 enI_113


def netP (n : Net) : Int := if linesP n.lines = 0 then firstI [switchesP n, structsP n] else linesP n.lines

theorem c29 (n : Net) (hn : n.Ok) : ∀ lo H, CallOk NC lo 29 [.agg n.cells] H (i64 (netP n)) H := by
  refine contract saneNC primsI (fn := Tryz.f29) (by kernel_rfl) Tryz.func29 rfl rfl (by rfl) (by rfl) ?_
  have e110 := pe110 n.lines ⟨hn.lines, hn.line⟩
  have e112 := pe112 n hn
  have e113 := pe113 n hn
  simp only [Net.cells, i64] at e110 e112 e113
  generalize hE : linesP n.lines = E at e110
  rcases Classical.propComplete (E = 0) with z | z
  · simp only [go_sem, reduceIte, Nat.reduceEqDiff, Nat.reduceAdd, Nat.reduceMul, Nat.reduceSub, Nat.reduceLeDiff, Nat.reduceLT, Nat.reduceBEq, reduceCtorEq, Net.cells, e110, e112, e113, e111_2, z]
    simp [netP, hE, z]
  · simp only [go_sem, reduceIte, Nat.reduceEqDiff, Nat.reduceAdd, Nat.reduceMul, Nat.reduceSub, Nat.reduceLeDiff, Nat.reduceLT, Nat.reduceBEq, reduceCtorEq, Net.cells, e110, e112, e113, e111_2, z]
    simp [netP, hE, z]

noncomputable def p29 : List AV → Option AV := primOf (α := Net) (fun x => [.agg x.cells]) (fun x => x.Ok) (fun x => i64 (netP x))
theorem pok29 : ∀ args v, p29 args = some v → ∀ lo H, CallOk NC lo 29 args H v H := by
  intro args v h
  obtain ⟨x, rfl, hp, rfl⟩ := primOf_inv h
  clear h
  revert x
  intro x hx; exact c29 x hx
theorem pe29 (x : Net) (hp : (fun x => x.Ok) x) : p29 ((fun x => [.agg x.cells]) x) = some ((fun x => i64 (netP x)) x) := primOf_enc (by intro x y h; exact cells1_inj x y h) x hp
noncomputable def PPJ : FuncId → Option (List AV → Option AV) := addPrim 29 p29 (PPI)
theorem primsJ : PrimsOk NC PPJ := primsOk_add (primsI) (by kernel_rfl) (by kernel_rfl) pok29
theorem enJ_48 {rec : Rec} {lo : Nat} {args : List AV} {H : Heap} {K : AV → Heap → Prop} : VO (aenter (NC.withPrims PPJ) rec lo 48 args H) K = AO (p48 args) fun v => K v H := enter_prim (by rfl) (by kernel_rfl)
theorem enJ_121 {rec : Rec} {lo : Nat} {args : List AV} {H : Heap} {K : AV → Heap → Prop} : VO (aenter (NC.withPrims PPJ) rec lo 121 args H) K = AO (p121 args) fun v => K v H := enter_prim (by rfl) (by kernel_rfl)
theorem enJ_34 {rec : Rec} {lo : Nat} {args : List AV} {H : Heap} {K : AV → Heap → Prop} : VO (aenter (NC.withPrims PPJ) rec lo 34 args H) K = AO (p34 args) fun v => K v H := enter_prim (by rfl) (by kernel_rfl)
theorem enJ_111 {rec : Rec} {lo : Nat} {args : List AV} {H : Heap} {K : AV → Heap → Prop} : VO (aenter (NC.withPrims PPJ) rec lo 111 args H) K = AO (p111 args) fun v => K v H := enter_prim (by rfl) (by kernel_rfl)
theorem enJ_26 {rec : Rec} {lo : Nat} {args : List AV} {H : Heap} {K : AV → Heap → Prop} : VO (aenter (NC.withPrims PPJ) rec lo 26 args H) K = AO (p26 args) fun v => K v H := enter_prim (by rfl) (by kernel_rfl)
theorem enJ_178 {rec : Rec} {lo : Nat} {args : List AV} {H : Heap} {K : AV → Heap → Prop} : VO (aenter (NC.withPrims PPJ) rec lo 178 args H) K = AO (p178 args) fun v => K v H := enter_prim (by rfl) (by kernel_rfl)
theorem enJ_109 {rec : Rec} {lo : Nat} {args : List AV} {H : Heap} {K : AV → Heap → Prop} : VO (aenter (NC.withPrims PPJ) rec lo 109 args H) K = AO (p109 args) fun v => K v H := enter_prim (by rfl) (by kernel_rfl)
theorem enJ_108 {rec : Rec} {lo : Nat} {args : List AV} {H : Heap} {K : AV → Heap → Prop} : VO (aenter (NC.withPrims PPJ) rec lo 108 args H) K = AO (p108 args) fun v => K v H := enter_prim (by rfl) (by kernel_rfl)
theorem enJ_27 {rec : Rec} {lo : Nat} {args : List AV} {H : Heap} {K : AV → Heap → Prop} : VO (aenter (NC.withPrims PPJ) rec lo 27 args H) K = AO (p27 args) fun v => K v H := enter_prim (by rfl) (by kernel_rfl)
theorem enJ_97 {rec : Rec} {lo : Nat} {args : List AV} {H : Heap} {K : AV → Heap → Prop} : VO (aenter (NC.withPrims PPJ) rec lo 97 args H) K = AO (p97 args) fun v => K v H := enter_prim (by rfl) (by kernel_rfl)
theorem enJ_122 {rec : Rec} {lo : Nat} {args : List AV} {H : Heap} {K : AV → Heap → Prop} : VO (aenter (NC.withPrims PPJ) rec lo 122 args H) K = AO (p122 args) fun v => K v H := enter_prim (by rfl) (by kernel_rfl)
theorem enJ_182 {rec : Rec} {lo : Nat} {args : List AV} {H : Heap} {K : AV → Heap → Prop} : VO (aenter (NC.withPrims PPJ) rec lo 182 args H) K = AO (p182 args) fun v => K v H := enter_prim (by rfl) (by kernel_rfl)
theorem enJ_35 {rec : Rec} {lo : Nat} {args : List AV} {H : Heap} {K : AV → Heap → Prop} : VO (aenter (NC.withPrims PPJ) rec lo 35 args H) K = AO (p35 args) fun v => K v H := enter_prim (by rfl) (by kernel_rfl)
theorem enJ_115 {rec : Rec} {lo : Nat} {args : List AV} {H : Heap} {K : AV → Heap → Prop} : VO (aenter (NC.withPrims PPJ) rec lo 115 args H) K = AO (p115 args) fun v => K v H := enter_prim (by rfl) (by kernel_rfl)
theorem enJ_36 {rec : Rec} {lo : Nat} {args : List AV} {H : Heap} {K : AV → Heap → Prop} : VO (aenter (NC.withPrims PPJ) rec lo 36 args H) K = AO (p36 args) fun v => K v H := enter_prim (by rfl) (by kernel_rfl)
theorem enJ_120 {rec : Rec} {lo : Nat} {args : List AV} {H : Heap} {K : AV → Heap → Prop} : VO (aenter (NC.withPrims PPJ) rec lo 120 args H) K = AO (p120 args) fun v => K v H := enter_prim (by rfl) (by kernel_rfl)
theorem enJ_106 {rec : Rec} {lo : Nat} {args : List AV} {H : Heap} {K : AV → Heap → Prop} : VO (aenter (NC.withPrims PPJ) rec lo 106 args H) K = AO (p106 args) fun v => K v H := enter_prim (by rfl) (by kernel_rfl)
theorem enJ_179 {rec : Rec} {lo : Nat} {args : List AV} {H : Heap} {K : AV → Heap → Prop} : VO (aenter (NC.withPrims PPJ) rec lo 179 args H) K = AO (p179 args) fun v => K v H := enter_prim (by rfl) (by kernel_rfl)
theorem enJ_126 {rec : Rec} {lo : Nat} {args : List AV} {H : Heap} {K : AV → Heap → Prop} : VO (aenter (NC.withPrims PPJ) rec lo 126 args H) K = AO (p126 args) fun v => K v H := enter_prim (by rfl) (by kernel_rfl)
theorem enJ_103 {rec : Rec} {lo : Nat} {args : List AV} {H : Heap} {K : AV → Heap → Prop} : VO (aenter (NC.withPrims PPJ) rec lo 103 args H) K = AO (p103 args) fun v => K v H := enter_prim (by rfl) (by kernel_rfl)
theorem enJ_104 {rec : Rec} {lo : Nat} {args : List AV} {H : Heap} {K : AV → Heap → Prop} : VO (aenter (NC.withPrims PPJ) rec lo 104 args H) K = AO (p104 args) fun v => K v H := enter_prim (by rfl) (by kernel_rfl)
theorem enJ_105 {rec : Rec} {lo : Nat} {args : List AV} {H : Heap} {K : AV → Heap → Prop} : VO (aenter (NC.withPrims PPJ) rec lo 105 args H) K = AO (p105 args) fun v => K v H := enter_prim (by rfl) (by kernel_rfl)
theorem enJ_99 {rec : Rec} {lo : Nat} {args : List AV} {H : Heap} {K : AV → Heap → Prop} : VO (aenter (NC.withPrims PPJ) rec lo 99 args H) K = AO (p99 args) fun v => K v H := enter_prim (by rfl) (by kernel_rfl)
theorem enJ_226 {rec : Rec} {lo : Nat} {args : List AV} {H : Heap} {K : AV → Heap → Prop} : VO (aenter (NC.withPrims PPJ) rec lo 226 args H) K = AO (p226 args) fun v => K v H := enter_prim (by rfl) (by kernel_rfl)
theorem enJ_134 {rec : Rec} {lo : Nat} {args : List AV} {H : Heap} {K : AV → Heap → Prop} : VO (aenter (NC.withPrims PPJ) rec lo 134 args H) K = AO (p134 args) fun v => K v H := enter_prim (by rfl) (by kernel_rfl)
theorem enJ_177 {rec : Rec} {lo : Nat} {args : List AV} {H : Heap} {K : AV → Heap → Prop} : VO (aenter (NC.withPrims PPJ) rec lo 177 args H) K = AO (p177 args) fun v => K v H := enter_prim (by rfl) (by kernel_rfl)
theorem enJ_180 {rec : Rec} {lo : Nat} {args : List AV} {H : Heap} {K : AV → Heap → Prop} : VO (aenter (NC.withPrims PPJ) rec lo 180 args H) K = AO (p180 args) fun v => K v H := enter_prim (by rfl) (by kernel_rfl)
theorem enJ_98 {rec : Rec} {lo : Nat} {args : List AV} {H : Heap} {K : AV → Heap → Prop} : VO (aenter (NC.withPrims PPJ) rec lo 98 args H) K = AO (p98 args) fun v => K v H := enter_prim (by rfl) (by kernel_rfl)
theorem enJ_181 {rec : Rec} {lo : Nat} {args : List AV} {H : Heap} {K : AV → Heap → Prop} : VO (aenter (NC.withPrims PPJ) rec lo 181 args H) K = AO (p181 args) fun v => K v H := enter_prim (by rfl) (by kernel_rfl)
theorem enJ_183 {rec : Rec} {lo : Nat} {args : List AV} {H : Heap} {K : AV → Heap → Prop} : VO (aenter (NC.withPrims PPJ) rec lo 183 args H) K = AO (p183 args) fun v => K v H := enter_prim (by rfl) (by kernel_rfl)
theorem enJ_110 {rec : Rec} {lo : Nat} {args : List AV} {H : Heap} {K : AV → Heap → Prop} : VO (aenter (NC.withPrims PPJ) rec lo 110 args H) K = AO (p110 args) fun v => K v H := enter_prim (by rfl) (by kernel_rfl)
theorem enJ_112 {rec : Rec} {lo : Nat} {args : List AV} {H : Heap} {K : AV → Heap → Prop} : VO (aenter (NC.withPrims PPJ) rec lo 112 args H) K = AO (p112 args) fun v => K v H := enter_prim (by rfl) (by kernel_rfl)
theorem enJ_113 {rec : Rec} {lo : Nat} {args : List AV} {H : Heap} {K : AV → Heap → Prop} : VO (aenter (NC.withPrims PPJ) rec lo 113 args H) K = AO (p113 args) fun v => K v H := enter_prim (by rfl) (by kernel_rfl)
theorem enJ_29 {rec : Rec} {lo : Nat} {args : List AV} {H : Heap} {K : AV → Heap → Prop} : VO (aenter (NC.withPrims PPJ) rec lo 29 args H) K = AO (p29 args) fun v => K v H := enter_prim (by rfl) (by kernel_rfl)
attribute [go_sem ↓] enJ_48 enJ_121 enJ_34 enJ_111 enJ_26 enJ_178 enJ_109 enJ_108 enJ_27 enJ_97 enJ_122 enJ_182
attribute [go_sem ↓] enJ_35 enJ_115 enJ_36 enJ_120 enJ_106 enJ_179 enJ_126 enJ_103 enJ_104 enJ_105 enJ_99 enJ_226
attribute [go_sem ↓] enJ_134 enJ_177 enJ_180 enJ_98 enJ_181 enJ_183 enJ_110 enJ_112 enJ_113 enJ_29


theorem c18 (n : Net) (s : List Nat) (hn : n.Ok) : ∀ lo H, CallOk NC lo 18 [.agg n.cells, .str s] H (.tup (if netP n = 0 then (if lnB n.lines s then [i64 (sumW (lnOf n.lines s).ps 0), i64 0] else [i64 0, i64 10]) else [i64 0, i64 (netP n)])) H := by
  refine contract saneNC primsJ (fn := Tryz.f18) (by kernel_rfl) Tryz.func18 rfl rfl (by rfl) (by split <;> (try split) <;> rfl) ?_
  have e29 := pe29 n hn
  have e98 := pe98 (n, s) hn.lines
  have e99 := pe99 (lnOf n.lines s) (lnOf_fits fun l hl => (hn.line l hl).2)
  simp only [Net.cells, Ln.row, i64] at e29 e98 e99
  generalize hE : netP n = E at e29 ⊢
  generalize hB : lnB n.lines s = B at e98 ⊢
  rcases Classical.propComplete (E = 0) with z | z
  · cases B <;> simp only [go_sem, reduceIte, Nat.reduceEqDiff, Nat.reduceAdd, Nat.reduceMul, Nat.reduceSub, Nat.reduceLeDiff, Nat.reduceLT, Nat.reduceBEq, reduceCtorEq, Net.cells, Ln.row, e29, e98, e99, z, Bool.false_eq_true]
  · simp only [go_sem, reduceIte, Nat.reduceEqDiff, Nat.reduceAdd, Nat.reduceMul, Nat.reduceSub, Nat.reduceLeDiff, Nat.reduceLT, Nat.reduceBEq, reduceCtorEq, Net.cells, e29, z]

def placeP (n : Net) (s : List Nat) (m : Int) : Int := firstI [whenI (!lnB n.lines s) 10, whenI (!hasB (lnOf n.lines s) m) 14]

theorem c100 (n : Net) (s : List Nat) (m : Int) (hn : n.Ok) : ∀ lo H, CallOk NC lo 100 [.agg n.cells, .agg [.str s, i64 m]] H (i64 (placeP n s m)) H := by
  refine contract saneNC primsJ (fn := Tryz.f100) (by kernel_rfl) Tryz.func100 rfl rfl (by rfl) (by rfl) ?_
  have e98 := pe98 (n, s) hn.lines
  have e177 := pe177 (lnOf n.lines s, m) (lnOf_fits fun l hl => (hn.line l hl).2)
  simp only [Net.cells, Ln.row, i64] at e98 e177
  simp only [go_sem, reduceIte, Nat.reduceEqDiff, Nat.reduceAdd, Nat.reduceMul, Nat.reduceSub, Nat.reduceLeDiff, Nat.reduceLT, Nat.reduceBEq, reduceCtorEq, Net.cells, Ln.row, e98, e177, e121, e111_2]
  rfl

end Go.Sim

/-
The program: Addressed, Placed.
-/
namespace Go.Sim
open Go Go.Proofs
set_option maxRecDepth 100000
set_option maxHeartbeats 8000000

noncomputable def p100 : List AV → Option AV := primOf (α := Net × List Nat × Int) (fun x => [.agg x.1.cells, .agg [.str x.2.1, i64 x.2.2]]) (fun x => x.1.Ok) (fun x => i64 (placeP x.1 x.2.1 x.2.2))
theorem pok100 : ∀ args v, p100 args = some v → ∀ lo H, CallOk NC lo 100 args H v H := by
  intro args v h
  obtain ⟨x, rfl, hp, rfl⟩ := primOf_inv h
  clear h
  revert x
  intro x hx; exact c100 x.1 x.2.1 x.2.2 hx
theorem pe100 (x : Net × List Nat × Int) (hp : (fun x => x.1.Ok) x) : p100 ((fun x => [.agg x.1.cells, .agg [.str x.2.1, i64 x.2.2]]) x) = some ((fun x => i64 (placeP x.1 x.2.1 x.2.2)) x) := primOf_enc (by intro x y h; (obtain ⟨a, b, c⟩ := x; obtain ⟨d, e, f⟩ := y; simp only [List.cons.injEq, AV.agg.injEq, AV.str.injEq, AV.int.injEq, true_and, and_true] at h; obtain ⟨h1, rfl, rfl⟩ := h; rw [Net.cells_inj _ _ h1])) x hp
noncomputable def PPK : FuncId → Option (List AV → Option AV) := addPrim 100 p100 (PPJ)
theorem primsK : PrimsOk NC PPK := primsOk_add (primsJ) (by kernel_rfl) (by kernel_rfl) pok100
theorem enK_48 {rec : Rec} {lo : Nat} {args : List AV} {H : Heap} {K : AV → Heap → Prop} : VO (aenter (NC.withPrims PPK) rec lo 48 args H) K = AO (p48 args) fun v => K v H := enter_prim (by rfl) (by kernel_rfl)
theorem enK_121 {rec : Rec} {lo : Nat} {args : List AV} {H : Heap} {K : AV → Heap → Prop} : VO (aenter (NC.withPrims PPK) rec lo 121 args H) K = AO (p121 args) fun v => K v H := enter_prim (by rfl) (by kernel_rfl)
theorem enK_34 {rec : Rec} {lo : Nat} {args : List AV} {H : Heap} {K : AV → Heap → Prop} : VO (aenter (NC.withPrims PPK) rec lo 34 args H) K = AO (p34 args) fun v => K v H := enter_prim (by rfl) (by kernel_rfl)
theorem enK_111 {rec : Rec} {lo : Nat} {args : List AV} {H : Heap} {K : AV → Heap → Prop} : VO (aenter (NC.withPrims PPK) rec lo 111 args H) K = AO (p111 args) fun v => K v H := enter_prim (by rfl) (by kernel_rfl)
theorem enK_26 {rec : Rec} {lo : Nat} {args : List AV} {H : Heap} {K : AV → Heap → Prop} : VO (aenter (NC.withPrims PPK) rec lo 26 args H) K = AO (p26 args) fun v => K v H := enter_prim (by rfl) (by kernel_rfl)
theorem enK_178 {rec : Rec} {lo : Nat} {args : List AV} {H : Heap} {K : AV → Heap → Prop} : VO (aenter (NC.withPrims PPK) rec lo 178 args H) K = AO (p178 args) fun v => K v H := enter_prim (by rfl) (by kernel_rfl)
theorem enK_109 {rec : Rec} {lo : Nat} {args : List AV} {H : Heap} {K : AV → Heap → Prop} : VO (aenter (NC.withPrims PPK) rec lo 109 args H) K = AO (p109 args) fun v => K v H := enter_prim (by rfl) (by kernel_rfl)
theorem enK_108 {rec : Rec} {lo : Nat} {args : List AV} {H : Heap} {K : AV → Heap → Prop} : VO (aenter (NC.withPrims PPK) rec lo 108 args H) K = AO (p108 args) fun v => K v H := enter_prim (by rfl) (by kernel_rfl)
theorem enK_27 {rec : Rec} {lo : Nat} {args : List AV} {H : Heap} {K : AV → Heap → Prop} : VO (aenter (NC.withPrims PPK) rec lo 27 args H) K = AO (p27 args) fun v => K v H := enter_prim (by rfl) (by kernel_rfl)
theorem enK_97 {rec : Rec} {lo : Nat} {args : List AV} {H : Heap} {K : AV → Heap → Prop} : VO (aenter (NC.withPrims PPK) rec lo 97 args H) K = AO (p97 args) fun v => K v H := enter_prim (by rfl) (by kernel_rfl)
theorem enK_122 {rec : Rec} {lo : Nat} {args : List AV} {H : Heap} {K : AV → Heap → Prop} : VO (aenter (NC.withPrims PPK) rec lo 122 args H) K = AO (p122 args) fun v => K v H := enter_prim (by rfl) (by kernel_rfl)
theorem enK_182 {rec : Rec} {lo : Nat} {args : List AV} {H : Heap} {K : AV → Heap → Prop} : VO (aenter (NC.withPrims PPK) rec lo 182 args H) K = AO (p182 args) fun v => K v H := enter_prim (by rfl) (by kernel_rfl)
theorem enK_35 {rec : Rec} {lo : Nat} {args : List AV} {H : Heap} {K : AV → Heap → Prop} : VO (aenter (NC.withPrims PPK) rec lo 35 args H) K = AO (p35 args) fun v => K v H := enter_prim (by rfl) (by kernel_rfl)
theorem enK_115 {rec : Rec} {lo : Nat} {args : List AV} {H : Heap} {K : AV → Heap → Prop} : VO (aenter (NC.withPrims PPK) rec lo 115 args H) K = AO (p115 args) fun v => K v H := enter_prim (by rfl) (by kernel_rfl)
theorem enK_36 {rec : Rec} {lo : Nat} {args : List AV} {H : Heap} {K : AV → Heap → Prop} : VO (aenter (NC.withPrims PPK) rec lo 36 args H) K = AO (p36 args) fun v => K v H := enter_prim (by rfl) (by kernel_rfl)
theorem enK_120 {rec : Rec} {lo : Nat} {args : List AV} {H : Heap} {K : AV → Heap → Prop} : VO (aenter (NC.withPrims PPK) rec lo 120 args H) K = AO (p120 args) fun v => K v H := enter_prim (by rfl) (by kernel_rfl)
theorem enK_106 {rec : Rec} {lo : Nat} {args : List AV} {H : Heap} {K : AV → Heap → Prop} : VO (aenter (NC.withPrims PPK) rec lo 106 args H) K = AO (p106 args) fun v => K v H := enter_prim (by rfl) (by kernel_rfl)
theorem enK_179 {rec : Rec} {lo : Nat} {args : List AV} {H : Heap} {K : AV → Heap → Prop} : VO (aenter (NC.withPrims PPK) rec lo 179 args H) K = AO (p179 args) fun v => K v H := enter_prim (by rfl) (by kernel_rfl)
theorem enK_126 {rec : Rec} {lo : Nat} {args : List AV} {H : Heap} {K : AV → Heap → Prop} : VO (aenter (NC.withPrims PPK) rec lo 126 args H) K = AO (p126 args) fun v => K v H := enter_prim (by rfl) (by kernel_rfl)
theorem enK_103 {rec : Rec} {lo : Nat} {args : List AV} {H : Heap} {K : AV → Heap → Prop} : VO (aenter (NC.withPrims PPK) rec lo 103 args H) K = AO (p103 args) fun v => K v H := enter_prim (by rfl) (by kernel_rfl)
theorem enK_104 {rec : Rec} {lo : Nat} {args : List AV} {H : Heap} {K : AV → Heap → Prop} : VO (aenter (NC.withPrims PPK) rec lo 104 args H) K = AO (p104 args) fun v => K v H := enter_prim (by rfl) (by kernel_rfl)
theorem enK_105 {rec : Rec} {lo : Nat} {args : List AV} {H : Heap} {K : AV → Heap → Prop} : VO (aenter (NC.withPrims PPK) rec lo 105 args H) K = AO (p105 args) fun v => K v H := enter_prim (by rfl) (by kernel_rfl)
theorem enK_99 {rec : Rec} {lo : Nat} {args : List AV} {H : Heap} {K : AV → Heap → Prop} : VO (aenter (NC.withPrims PPK) rec lo 99 args H) K = AO (p99 args) fun v => K v H := enter_prim (by rfl) (by kernel_rfl)
theorem enK_226 {rec : Rec} {lo : Nat} {args : List AV} {H : Heap} {K : AV → Heap → Prop} : VO (aenter (NC.withPrims PPK) rec lo 226 args H) K = AO (p226 args) fun v => K v H := enter_prim (by rfl) (by kernel_rfl)
theorem enK_134 {rec : Rec} {lo : Nat} {args : List AV} {H : Heap} {K : AV → Heap → Prop} : VO (aenter (NC.withPrims PPK) rec lo 134 args H) K = AO (p134 args) fun v => K v H := enter_prim (by rfl) (by kernel_rfl)
theorem enK_177 {rec : Rec} {lo : Nat} {args : List AV} {H : Heap} {K : AV → Heap → Prop} : VO (aenter (NC.withPrims PPK) rec lo 177 args H) K = AO (p177 args) fun v => K v H := enter_prim (by rfl) (by kernel_rfl)
theorem enK_180 {rec : Rec} {lo : Nat} {args : List AV} {H : Heap} {K : AV → Heap → Prop} : VO (aenter (NC.withPrims PPK) rec lo 180 args H) K = AO (p180 args) fun v => K v H := enter_prim (by rfl) (by kernel_rfl)
theorem enK_98 {rec : Rec} {lo : Nat} {args : List AV} {H : Heap} {K : AV → Heap → Prop} : VO (aenter (NC.withPrims PPK) rec lo 98 args H) K = AO (p98 args) fun v => K v H := enter_prim (by rfl) (by kernel_rfl)
theorem enK_181 {rec : Rec} {lo : Nat} {args : List AV} {H : Heap} {K : AV → Heap → Prop} : VO (aenter (NC.withPrims PPK) rec lo 181 args H) K = AO (p181 args) fun v => K v H := enter_prim (by rfl) (by kernel_rfl)
theorem enK_183 {rec : Rec} {lo : Nat} {args : List AV} {H : Heap} {K : AV → Heap → Prop} : VO (aenter (NC.withPrims PPK) rec lo 183 args H) K = AO (p183 args) fun v => K v H := enter_prim (by rfl) (by kernel_rfl)
theorem enK_110 {rec : Rec} {lo : Nat} {args : List AV} {H : Heap} {K : AV → Heap → Prop} : VO (aenter (NC.withPrims PPK) rec lo 110 args H) K = AO (p110 args) fun v => K v H := enter_prim (by rfl) (by kernel_rfl)
theorem enK_112 {rec : Rec} {lo : Nat} {args : List AV} {H : Heap} {K : AV → Heap → Prop} : VO (aenter (NC.withPrims PPK) rec lo 112 args H) K = AO (p112 args) fun v => K v H := enter_prim (by rfl) (by kernel_rfl)
theorem enK_113 {rec : Rec} {lo : Nat} {args : List AV} {H : Heap} {K : AV → Heap → Prop} : VO (aenter (NC.withPrims PPK) rec lo 113 args H) K = AO (p113 args) fun v => K v H := enter_prim (by rfl) (by kernel_rfl)
theorem enK_29 {rec : Rec} {lo : Nat} {args : List AV} {H : Heap} {K : AV → Heap → Prop} : VO (aenter (NC.withPrims PPK) rec lo 29 args H) K = AO (p29 args) fun v => K v H := enter_prim (by rfl) (by kernel_rfl)
theorem enK_100 {rec : Rec} {lo : Nat} {args : List AV} {H : Heap} {K : AV → Heap → Prop} : VO (aenter (NC.withPrims PPK) rec lo 100 args H) K = AO (p100 args) fun v => K v H := enter_prim (by rfl) (by kernel_rfl)
attribute [go_sem ↓] enK_48 enK_121 enK_34 enK_111 enK_26 enK_178 enK_109 enK_108 enK_27 enK_97 enK_122 enK_182
attribute [go_sem ↓] enK_35 enK_115 enK_36 enK_120 enK_106 enK_179 enK_126 enK_103 enK_104 enK_105 enK_99 enK_226
attribute [go_sem ↓] enK_134 enK_177 enK_180 enK_98 enK_181 enK_183 enK_110 enK_112 enK_113 enK_29 enK_100


/-- The address of a metre, as the program finds it: behind 'k' pieces. -/
def addrK (l : Ln) (m : Int) : Nat → Int × Int
  | 0 => (0, 0)
  | k + 1 => match l.ps[k]? with
    | none => addrK l m k
    | some p => if !decide (m < begI l k) && decide (m < begI l (k + 1)) then ((k : Int), wrapq .i64 (Int.add p.post (wrapq .i64 (Int.mul (stepI p.back) (wrapq .i64 (Int.sub m (begI l k))))))) else addrK l m k

theorem c101 (n : Net) (s : List Nat) (m : Int) (hn : n.Ok) : ∀ lo H, CallOk NC lo 101 [.agg n.cells, .agg [.str s, i64 m]] H (.agg [.str s, i64 (addrK (lnOf n.lines s) m (lnOf n.lines s).ps.length).1, i64 (addrK (lnOf n.lines s) m (lnOf n.lines s).ps.length).2]) H := by
  refine contract saneNC primsK (fn := Tryz.f101) (by kernel_rfl) Tryz.func101 rfl rfl (by rfl) (by rfl) ?_
  have e98 := pe98 (n, s) hn.lines
  have hfit : (lnOf n.lines s).ps.length ≤ maxRows := lnOf_fits fun l hl => (hn.line l hl).2
  simp only [Net.cells, Ln.row, i64] at e98
  generalize lnOf n.lines s = l at e98 hfit ⊢
  generalize lnB n.lines s = B at e98
  have r := fun lo H => r176 (P := PPK) lo l H
  simp only [Ln.row] at r
  simp only [go_sem, reduceIte, Nat.reduceEqDiff, Nat.reduceAdd, Nat.reduceMul, Nat.reduceSub, Nat.reduceLeDiff, Nat.reduceLT, Nat.reduceBEq, reduceCtorEq, Net.cells, Ln.row, e98, en176 rfl (show PPK 176 = none from rfl), r, ofVal_v, ofVal_H]
  refine W_pieces (l := l) (c := 6) rfl hfit (Nat.zero_le _) (by simp only [go_sem, reduceIte, Nat.reduceEqDiff, Nat.reduceAdd, Nat.reduceMul, Nat.reduceSub, Nat.reduceLeDiff, Nat.reduceLT, Nat.reduceBEq, reduceCtorEq]) (by simp only [go_sem, reduceIte, Nat.reduceEqDiff, Nat.reduceAdd, Nat.reduceMul, Nat.reduceSub, Nat.reduceLeDiff, Nat.reduceLT, Nat.reduceBEq, reduceCtorEq]) (fun k i => match i with | 0 => .cells n.cells 40 | 1 => .cells [.str s, i64 m] 45 | 2 => .cells [.str [], i64 0, i64 0] 42 | 3 => .cells l.row 196 | 4 => .cells [.str s, i64 (addrK l m k).1, i64 (addrK l m k).2] 42 | 5 => .cells [i64 k] 3 | 6 => .cells l.row 196 | _ => .dead) (fun _ _ => False) ?_ (fun k => rfl) ?_ ?_ ?_
  · intro i hi
    simp only [go_sem, reduceIte, Nat.reduceEqDiff, Nat.reduceAdd, Nat.reduceMul, Nat.reduceSub, Nat.reduceLeDiff, Nat.reduceLT, Nat.reduceBEq, reduceCtorEq] at hi
    match i, hi with
    | 0, _ => simp only [go_sem, reduceIte, Nat.reduceEqDiff, Nat.reduceAdd, Nat.reduceMul, Nat.reduceSub, Nat.reduceLeDiff, Nat.reduceLT, Nat.reduceBEq, reduceCtorEq] <;> rfl
    | 1, _ => simp only [go_sem, reduceIte, Nat.reduceEqDiff, Nat.reduceAdd, Nat.reduceMul, Nat.reduceSub, Nat.reduceLeDiff, Nat.reduceLT, Nat.reduceBEq, reduceCtorEq] <;> rfl
    | 2, _ => simp only [go_sem, reduceIte, Nat.reduceEqDiff, Nat.reduceAdd, Nat.reduceMul, Nat.reduceSub, Nat.reduceLeDiff, Nat.reduceLT, Nat.reduceBEq, reduceCtorEq] <;> rfl
    | 3, _ => simp only [go_sem, reduceIte, Nat.reduceEqDiff, Nat.reduceAdd, Nat.reduceMul, Nat.reduceSub, Nat.reduceLeDiff, Nat.reduceLT, Nat.reduceBEq, reduceCtorEq] <;> rfl
    | 4, _ => simp only [go_sem, reduceIte, Nat.reduceEqDiff, Nat.reduceAdd, Nat.reduceMul, Nat.reduceSub, Nat.reduceLeDiff, Nat.reduceLT, Nat.reduceBEq, reduceCtorEq] <;> rfl
    | 5, _ => simp only [go_sem, reduceIte, Nat.reduceEqDiff, Nat.reduceAdd, Nat.reduceMul, Nat.reduceSub, Nat.reduceLeDiff, Nat.reduceLT, Nat.reduceBEq, reduceCtorEq] <;> rfl
    | 6, _ => simp only [go_sem, reduceIte, Nat.reduceEqDiff, Nat.reduceAdd, Nat.reduceMul, Nat.reduceSub, Nat.reduceLeDiff, Nat.reduceLT, Nat.reduceBEq, reduceCtorEq] <;> rfl
    | i + 7, hi => omega
  · intro k p Hk q hp hq hB
    simp only [go_sem, reduceIte, Nat.reduceEqDiff, Nat.reduceAdd, Nat.reduceMul, Nat.reduceSub, Nat.reduceLeDiff, Nat.reduceLT, Nat.reduceBEq, reduceCtorEq] at hq hB
    have h1 := hB 1 (by omega)
    have h4 := hB 4 (by omega)
    have h5 := hB 5 (by omega)
    have hbs := begI_succ hp
    have hw := wrap_succ (List.getElem?_eq_some_iff.1 hp).1 hfit
    obtain ⟨pl, pq, pb⟩ := p
    simp only at h1 h4 h5 hbs
    simp only [go_sem, reduceIte, Nat.reduceEqDiff, Nat.reduceAdd, Nat.reduceMul, Nat.reduceSub, Nat.reduceLeDiff, Nat.reduceLT, Nat.reduceBEq, reduceCtorEq, Pc.row, hq]
    refine ⟨fun j _ hj => by rw [if_neg (by omega), if_neg (by omega)], fun r => ?_⟩
    rcases Classical.propComplete (m < begI l k) with c1 | c1 <;> rcases Classical.propComplete (m < begI l (k + 1)) with c2 | c2 <;> simp only [go_sem, reduceIte, Nat.reduceEqDiff, Nat.reduceAdd, Nat.reduceMul, Nat.reduceSub, Nat.reduceLeDiff, Nat.reduceLT, Nat.reduceBEq, reduceCtorEq, hq, h1, h4, h5, ← hbs, e178, hw, c1, c2]
    all_goals
      refine ⟨by omega, fun j h3 hj hj2 => ?_, fun i hi => ?_⟩
      · repeat (rw [if_neg (by omega)])
      · match i, hi with
        | 0, _ => simp [hB 0 (by omega)]
        | 1, _ => simp [hB 1 (by omega)]
        | 2, _ => simp [hB 2 (by omega)]
        | 3, _ => simp [hB 3 (by omega)]
        | 4, _ => simp [h4, addrK, hp, c1, c2]
        | 5, _ => simp
        | 6, _ => simp [hB 6 (by omega)]
        | i + 7, hi => omega
  · intro H4 hB hd
    simp only [go_sem, reduceIte, Nat.reduceEqDiff, Nat.reduceAdd, Nat.reduceMul, Nat.reduceSub, Nat.reduceLeDiff, Nat.reduceLT, Nat.reduceBEq, reduceCtorEq] at hB hd
    have h4 := hB 4 (by omega)
    have h2 := hB 2 (by omega)
    simp only at h4 h2
    simp only [go_sem, reduceIte, Nat.reduceEqDiff, Nat.reduceAdd, Nat.reduceMul, Nat.reduceSub, Nat.reduceLeDiff, Nat.reduceLT, Nat.reduceBEq, reduceCtorEq, h2, h4, hd, shutMarks_cons]
  · intro e H3 H4 _ h
    exact h.elim

end Go.Sim

/-
The program: Placed; the calls that check first.
-/
namespace Go.Sim
open Go Go.Proofs
set_option maxRecDepth 100000
set_option maxHeartbeats 8000000

noncomputable def p101 : List AV → Option AV := primOf (α := Net × List Nat × Int) (fun x => [.agg x.1.cells, .agg [.str x.2.1, i64 x.2.2]]) (fun x => x.1.Ok) (fun x => .agg [.str x.2.1, i64 (addrK (lnOf x.1.lines x.2.1) x.2.2 (lnOf x.1.lines x.2.1).ps.length).1, i64 (addrK (lnOf x.1.lines x.2.1) x.2.2 (lnOf x.1.lines x.2.1).ps.length).2])
theorem pok101 : ∀ args v, p101 args = some v → ∀ lo H, CallOk NC lo 101 args H v H := by
  intro args v h
  obtain ⟨x, rfl, hp, rfl⟩ := primOf_inv h
  clear h
  revert x
  intro x hx; exact c101 x.1 x.2.1 x.2.2 hx
theorem pe101 (x : Net × List Nat × Int) (hp : (fun x => x.1.Ok) x) : p101 ((fun x => [.agg x.1.cells, .agg [.str x.2.1, i64 x.2.2]]) x) = some ((fun x => .agg [.str x.2.1, i64 (addrK (lnOf x.1.lines x.2.1) x.2.2 (lnOf x.1.lines x.2.1).ps.length).1, i64 (addrK (lnOf x.1.lines x.2.1) x.2.2 (lnOf x.1.lines x.2.1).ps.length).2]) x) := primOf_enc (by intro x y h; (obtain ⟨a, b, c⟩ := x; obtain ⟨d, e, f⟩ := y; simp only [List.cons.injEq, AV.agg.injEq, AV.str.injEq, AV.int.injEq, true_and, and_true] at h; obtain ⟨h1, rfl, rfl⟩ := h; rw [Net.cells_inj _ _ h1])) x hp
noncomputable def PPL : FuncId → Option (List AV → Option AV) := addPrim 101 p101 (PPK)
theorem primsL : PrimsOk NC PPL := primsOk_add (primsK) (by kernel_rfl) (by kernel_rfl) pok101
theorem enL_48 {rec : Rec} {lo : Nat} {args : List AV} {H : Heap} {K : AV → Heap → Prop} : VO (aenter (NC.withPrims PPL) rec lo 48 args H) K = AO (p48 args) fun v => K v H := enter_prim (by rfl) (by kernel_rfl)
theorem enL_121 {rec : Rec} {lo : Nat} {args : List AV} {H : Heap} {K : AV → Heap → Prop} : VO (aenter (NC.withPrims PPL) rec lo 121 args H) K = AO (p121 args) fun v => K v H := enter_prim (by rfl) (by kernel_rfl)
theorem enL_34 {rec : Rec} {lo : Nat} {args : List AV} {H : Heap} {K : AV → Heap → Prop} : VO (aenter (NC.withPrims PPL) rec lo 34 args H) K = AO (p34 args) fun v => K v H := enter_prim (by rfl) (by kernel_rfl)
theorem enL_111 {rec : Rec} {lo : Nat} {args : List AV} {H : Heap} {K : AV → Heap → Prop} : VO (aenter (NC.withPrims PPL) rec lo 111 args H) K = AO (p111 args) fun v => K v H := enter_prim (by rfl) (by kernel_rfl)
theorem enL_26 {rec : Rec} {lo : Nat} {args : List AV} {H : Heap} {K : AV → Heap → Prop} : VO (aenter (NC.withPrims PPL) rec lo 26 args H) K = AO (p26 args) fun v => K v H := enter_prim (by rfl) (by kernel_rfl)
theorem enL_178 {rec : Rec} {lo : Nat} {args : List AV} {H : Heap} {K : AV → Heap → Prop} : VO (aenter (NC.withPrims PPL) rec lo 178 args H) K = AO (p178 args) fun v => K v H := enter_prim (by rfl) (by kernel_rfl)
theorem enL_109 {rec : Rec} {lo : Nat} {args : List AV} {H : Heap} {K : AV → Heap → Prop} : VO (aenter (NC.withPrims PPL) rec lo 109 args H) K = AO (p109 args) fun v => K v H := enter_prim (by rfl) (by kernel_rfl)
theorem enL_108 {rec : Rec} {lo : Nat} {args : List AV} {H : Heap} {K : AV → Heap → Prop} : VO (aenter (NC.withPrims PPL) rec lo 108 args H) K = AO (p108 args) fun v => K v H := enter_prim (by rfl) (by kernel_rfl)
theorem enL_27 {rec : Rec} {lo : Nat} {args : List AV} {H : Heap} {K : AV → Heap → Prop} : VO (aenter (NC.withPrims PPL) rec lo 27 args H) K = AO (p27 args) fun v => K v H := enter_prim (by rfl) (by kernel_rfl)
theorem enL_97 {rec : Rec} {lo : Nat} {args : List AV} {H : Heap} {K : AV → Heap → Prop} : VO (aenter (NC.withPrims PPL) rec lo 97 args H) K = AO (p97 args) fun v => K v H := enter_prim (by rfl) (by kernel_rfl)
theorem enL_122 {rec : Rec} {lo : Nat} {args : List AV} {H : Heap} {K : AV → Heap → Prop} : VO (aenter (NC.withPrims PPL) rec lo 122 args H) K = AO (p122 args) fun v => K v H := enter_prim (by rfl) (by kernel_rfl)
theorem enL_182 {rec : Rec} {lo : Nat} {args : List AV} {H : Heap} {K : AV → Heap → Prop} : VO (aenter (NC.withPrims PPL) rec lo 182 args H) K = AO (p182 args) fun v => K v H := enter_prim (by rfl) (by kernel_rfl)
theorem enL_35 {rec : Rec} {lo : Nat} {args : List AV} {H : Heap} {K : AV → Heap → Prop} : VO (aenter (NC.withPrims PPL) rec lo 35 args H) K = AO (p35 args) fun v => K v H := enter_prim (by rfl) (by kernel_rfl)
theorem enL_115 {rec : Rec} {lo : Nat} {args : List AV} {H : Heap} {K : AV → Heap → Prop} : VO (aenter (NC.withPrims PPL) rec lo 115 args H) K = AO (p115 args) fun v => K v H := enter_prim (by rfl) (by kernel_rfl)
theorem enL_36 {rec : Rec} {lo : Nat} {args : List AV} {H : Heap} {K : AV → Heap → Prop} : VO (aenter (NC.withPrims PPL) rec lo 36 args H) K = AO (p36 args) fun v => K v H := enter_prim (by rfl) (by kernel_rfl)
theorem enL_120 {rec : Rec} {lo : Nat} {args : List AV} {H : Heap} {K : AV → Heap → Prop} : VO (aenter (NC.withPrims PPL) rec lo 120 args H) K = AO (p120 args) fun v => K v H := enter_prim (by rfl) (by kernel_rfl)
theorem enL_106 {rec : Rec} {lo : Nat} {args : List AV} {H : Heap} {K : AV → Heap → Prop} : VO (aenter (NC.withPrims PPL) rec lo 106 args H) K = AO (p106 args) fun v => K v H := enter_prim (by rfl) (by kernel_rfl)
theorem enL_179 {rec : Rec} {lo : Nat} {args : List AV} {H : Heap} {K : AV → Heap → Prop} : VO (aenter (NC.withPrims PPL) rec lo 179 args H) K = AO (p179 args) fun v => K v H := enter_prim (by rfl) (by kernel_rfl)
theorem enL_126 {rec : Rec} {lo : Nat} {args : List AV} {H : Heap} {K : AV → Heap → Prop} : VO (aenter (NC.withPrims PPL) rec lo 126 args H) K = AO (p126 args) fun v => K v H := enter_prim (by rfl) (by kernel_rfl)
theorem enL_103 {rec : Rec} {lo : Nat} {args : List AV} {H : Heap} {K : AV → Heap → Prop} : VO (aenter (NC.withPrims PPL) rec lo 103 args H) K = AO (p103 args) fun v => K v H := enter_prim (by rfl) (by kernel_rfl)
theorem enL_104 {rec : Rec} {lo : Nat} {args : List AV} {H : Heap} {K : AV → Heap → Prop} : VO (aenter (NC.withPrims PPL) rec lo 104 args H) K = AO (p104 args) fun v => K v H := enter_prim (by rfl) (by kernel_rfl)
theorem enL_105 {rec : Rec} {lo : Nat} {args : List AV} {H : Heap} {K : AV → Heap → Prop} : VO (aenter (NC.withPrims PPL) rec lo 105 args H) K = AO (p105 args) fun v => K v H := enter_prim (by rfl) (by kernel_rfl)
theorem enL_99 {rec : Rec} {lo : Nat} {args : List AV} {H : Heap} {K : AV → Heap → Prop} : VO (aenter (NC.withPrims PPL) rec lo 99 args H) K = AO (p99 args) fun v => K v H := enter_prim (by rfl) (by kernel_rfl)
theorem enL_226 {rec : Rec} {lo : Nat} {args : List AV} {H : Heap} {K : AV → Heap → Prop} : VO (aenter (NC.withPrims PPL) rec lo 226 args H) K = AO (p226 args) fun v => K v H := enter_prim (by rfl) (by kernel_rfl)
theorem enL_134 {rec : Rec} {lo : Nat} {args : List AV} {H : Heap} {K : AV → Heap → Prop} : VO (aenter (NC.withPrims PPL) rec lo 134 args H) K = AO (p134 args) fun v => K v H := enter_prim (by rfl) (by kernel_rfl)
theorem enL_177 {rec : Rec} {lo : Nat} {args : List AV} {H : Heap} {K : AV → Heap → Prop} : VO (aenter (NC.withPrims PPL) rec lo 177 args H) K = AO (p177 args) fun v => K v H := enter_prim (by rfl) (by kernel_rfl)
theorem enL_180 {rec : Rec} {lo : Nat} {args : List AV} {H : Heap} {K : AV → Heap → Prop} : VO (aenter (NC.withPrims PPL) rec lo 180 args H) K = AO (p180 args) fun v => K v H := enter_prim (by rfl) (by kernel_rfl)
theorem enL_98 {rec : Rec} {lo : Nat} {args : List AV} {H : Heap} {K : AV → Heap → Prop} : VO (aenter (NC.withPrims PPL) rec lo 98 args H) K = AO (p98 args) fun v => K v H := enter_prim (by rfl) (by kernel_rfl)
theorem enL_181 {rec : Rec} {lo : Nat} {args : List AV} {H : Heap} {K : AV → Heap → Prop} : VO (aenter (NC.withPrims PPL) rec lo 181 args H) K = AO (p181 args) fun v => K v H := enter_prim (by rfl) (by kernel_rfl)
theorem enL_183 {rec : Rec} {lo : Nat} {args : List AV} {H : Heap} {K : AV → Heap → Prop} : VO (aenter (NC.withPrims PPL) rec lo 183 args H) K = AO (p183 args) fun v => K v H := enter_prim (by rfl) (by kernel_rfl)
theorem enL_110 {rec : Rec} {lo : Nat} {args : List AV} {H : Heap} {K : AV → Heap → Prop} : VO (aenter (NC.withPrims PPL) rec lo 110 args H) K = AO (p110 args) fun v => K v H := enter_prim (by rfl) (by kernel_rfl)
theorem enL_112 {rec : Rec} {lo : Nat} {args : List AV} {H : Heap} {K : AV → Heap → Prop} : VO (aenter (NC.withPrims PPL) rec lo 112 args H) K = AO (p112 args) fun v => K v H := enter_prim (by rfl) (by kernel_rfl)
theorem enL_113 {rec : Rec} {lo : Nat} {args : List AV} {H : Heap} {K : AV → Heap → Prop} : VO (aenter (NC.withPrims PPL) rec lo 113 args H) K = AO (p113 args) fun v => K v H := enter_prim (by rfl) (by kernel_rfl)
theorem enL_29 {rec : Rec} {lo : Nat} {args : List AV} {H : Heap} {K : AV → Heap → Prop} : VO (aenter (NC.withPrims PPL) rec lo 29 args H) K = AO (p29 args) fun v => K v H := enter_prim (by rfl) (by kernel_rfl)
theorem enL_100 {rec : Rec} {lo : Nat} {args : List AV} {H : Heap} {K : AV → Heap → Prop} : VO (aenter (NC.withPrims PPL) rec lo 100 args H) K = AO (p100 args) fun v => K v H := enter_prim (by rfl) (by kernel_rfl)
theorem enL_101 {rec : Rec} {lo : Nat} {args : List AV} {H : Heap} {K : AV → Heap → Prop} : VO (aenter (NC.withPrims PPL) rec lo 101 args H) K = AO (p101 args) fun v => K v H := enter_prim (by rfl) (by kernel_rfl)
attribute [go_sem ↓] enL_48 enL_121 enL_34 enL_111 enL_26 enL_178 enL_109 enL_108 enL_27 enL_97 enL_122 enL_182
attribute [go_sem ↓] enL_35 enL_115 enL_36 enL_120 enL_106 enL_179 enL_126 enL_103 enL_104 enL_105 enL_99 enL_226
attribute [go_sem ↓] enL_134 enL_177 enL_180 enL_98 enL_181 enL_183 enL_110 enL_112 enL_113 enL_29 enL_100 enL_101


def noAddr : AV := .agg [.str [], i64 0, i64 0]
def noPlace : AV := .agg [.str [], i64 0]

theorem c20 (n : Net) (s : List Nat) (m : Int) (hn : n.Ok) : ∀ lo H, CallOk NC lo 20 [.agg n.cells, .agg [.str s, i64 m]] H (.tup (if netP n = 0 then (if placeP n s m = 0 then [.agg [.str s, i64 (addrK (lnOf n.lines s) m (lnOf n.lines s).ps.length).1, i64 (addrK (lnOf n.lines s) m (lnOf n.lines s).ps.length).2], i64 0] else [noAddr, i64 (placeP n s m)]) else [noAddr, i64 (netP n)])) H := by
  refine contract saneNC primsL (fn := Tryz.f20) (by kernel_rfl) Tryz.func20 rfl rfl (by rfl) (by split <;> (try split) <;> rfl) ?_
  have e29 := pe29 n hn
  have e100 := pe100 (n, s, m) hn
  have e101 := pe101 (n, s, m) hn
  simp only [Net.cells, i64] at e29 e100 e101
  generalize hE : netP n = E at e29 ⊢
  generalize hF : placeP n s m = F at e100 ⊢
  rcases Classical.propComplete (E = 0) with z | z <;> rcases Classical.propComplete (F = 0) with z2 | z2 <;> simp only [go_sem, reduceIte, Nat.reduceEqDiff, Nat.reduceAdd, Nat.reduceMul, Nat.reduceSub, Nat.reduceLeDiff, Nat.reduceLT, Nat.reduceBEq, reduceCtorEq, Net.cells, e29, e100, e101, z, z2, noAddr]

/-- What 'placed' returns for a line that there is. -/
def hitB (l : Ln) (piece post : Int) (k : Nat) : Bool := match l.ps[k]? with
  | none => false
  | some p => metreB p post && decide ((k : Int) = piece)

def placedV (l : Ln) (s : List Nat) (piece post : Int) : List AV := match l.ps[piece.toNat]? with
  | none => [noPlace, i64 14]
  | some p => if metreB p post && decide (0 ≤ piece) then [.agg [.str s, i64 (wrapq .i64 (Int.add (begI l piece.toNat) (metreI p post)))], i64 0] else [noPlace, i64 14]

def placedP (n : Net) (s : List Nat) (piece post : Int) : List AV :=
  let e := firstI [whenI (!lnB n.lines s) 10, whenI (decide (piece < 0) || !decide (piece < ((lnOf n.lines s).ps.length : Nat))) 7]
  if e = 0 then (if rangeI post 0 9999999 = 0 then placedV (lnOf n.lines s) s piece post else [noPlace, i64 14]) else [noPlace, i64 e]

theorem placedV_hit {l : Ln} {s : List Nat} {piece post : Int} {k : Nat} {p : Pc} (hp : l.ps[k]? = some p) (hm : metreB p post = true) (hk : (k : Int) = piece) : placedV l s piece post = [.agg [.str s, i64 (wrapq .i64 (Int.add (begI l k) (metreI p post)))], i64 0] := by
  subst hk
  unfold placedV
  simp [hp, hm]

theorem placedV_none {l : Ln} {s : List Nat} {piece post : Int} (h : ∀ k, k < l.ps.length → hitB l piece post k = false) : placedV l s piece post = [noPlace, i64 14] := by
  unfold placedV
  cases hp : l.ps[piece.toNat]? with
  | none => rfl
  | some p =>
    by_cases h0 : 0 ≤ piece
    · have := h piece.toNat (List.getElem?_eq_some_iff.1 hp).1
      unfold hitB at this
      rw [hp] at this
      have e : ((piece.toNat : Nat) : Int) = piece := Int.toNat_of_nonneg h0
      simp only [e, decide_true, Bool.and_true] at this
      simp [this]
    · simp [h0]

theorem placedP_pure (n : Net) (s : List Nat) (piece post : Int) : (AV.tup (placedP n s piece post)).pure = true := by
  unfold placedP placedV
  simp only []
  split
  · split
    · split
      · rfl
      · split <;> rfl
    · rfl
  · rfl

theorem first2 (a b : Int) : firstI [a, b] = 0 → a = 0 ∧ b = 0 := by
  simp only [firstI]; split <;> (try split) <;> simp_all

theorem c102 (n : Net) (s : List Nat) (piece post : Int) (hn : n.Ok) : ∀ lo H, CallOk NC lo 102 [.agg n.cells, .agg [.str s, i64 piece, i64 post]] H (.tup (placedP n s piece post)) H := by
  refine contract saneNC primsL (fn := Tryz.f102) (by kernel_rfl) Tryz.func102 rfl rfl (by rfl) (placedP_pure ..) ?_
  have e98 := pe98 (n, s) hn.lines
  have hfit : (lnOf n.lines s).ps.length ≤ maxRows := lnOf_fits fun l hl => (hn.line l hl).2
  have hsp : placedP n s piece post = (let e := firstI [whenI (!lnB n.lines s) 10, whenI (decide (piece < 0) || !decide (piece < ((lnOf n.lines s).ps.length : Nat))) 7]
    if e = 0 then (if rangeI post 0 9999999 = 0 then placedV (lnOf n.lines s) s piece post else [noPlace, i64 14]) else [noPlace, i64 e]) := rfl
  simp only [Net.cells, Ln.row, i64] at e98
  rw [hsp]
  simp only []
  generalize lnOf n.lines s = l at e98 hfit ⊢
  generalize lnB n.lines s = B at e98 ⊢
  have r := fun lo H => r176 (P := PPL) lo l H
  simp only [Ln.row] at r
  generalize hE : firstI [whenI (!B) 10, whenI (decide (piece < 0) || !decide (piece < (l.ps.length : Nat))) 7] = E
  generalize hF : rangeI post 0 9999999 = F
  rcases Classical.propComplete (E = 0) with z | z
  case inr =>
    rcases Classical.propComplete (piece < 0) with c1 | c1 <;> rcases Classical.propComplete (piece < (l.ps.length : Nat)) with c2 | c2 <;> simp only [c1, c2, decide_true, decide_false, Bool.true_or, Bool.or_true, Bool.not_true, Bool.not_false, Bool.or_false, Bool.false_or] at hE <;> simp only [go_sem, reduceIte, Nat.reduceEqDiff, Nat.reduceAdd, Nat.reduceMul, Nat.reduceSub, Nat.reduceLeDiff, Nat.reduceLT, Nat.reduceBEq, reduceCtorEq, Net.cells, Ln.row, e98, e121, e111_2, List.length_map, c1, c2, hE, z, noPlace]
  rcases Classical.propComplete (F = 0) with z2 | z2
  case inr =>
    rcases Classical.propComplete (piece < 0) with c1 | c1 <;> rcases Classical.propComplete (piece < (l.ps.length : Nat)) with c2 | c2 <;> simp only [c1, c2, decide_true, decide_false, Bool.true_or, Bool.or_true, Bool.not_true, Bool.not_false, Bool.or_false, Bool.false_or] at hE <;> simp only [go_sem, reduceIte, Nat.reduceEqDiff, Nat.reduceAdd, Nat.reduceMul, Nat.reduceSub, Nat.reduceLeDiff, Nat.reduceLT, Nat.reduceBEq, reduceCtorEq, Net.cells, Ln.row, e98, e121, e111_2, e115, hF, List.length_map, c1, c2, hE, z, z2, noPlace]
  have h2 := first2 _ _ (hE.trans (of_eq_true z))
  have c1 : (piece < 0) = False := by
    rcases Classical.propComplete (piece < 0) with c1 | c1
    · have := h2.2; simp [c1, whenI] at this
    · exact c1
  have c2 : (piece < (l.ps.length : Nat)) = True := by
    rcases Classical.propComplete (piece < (l.ps.length : Nat)) with c2 | c2
    · exact c2
    · have := h2.2; simp [c2, whenI] at this
  have e134 : ∀ (a b : Int) (d : Bool), p134 [.agg [.int .i64 a, .int .i64 b, .bool d], .int .i64 post] = some (.tup [.int .i64 (metreI ⟨a, b, d⟩ post), .bool (metreB ⟨a, b, d⟩ post)]) := fun a b d => pe134 (⟨a, b, d⟩, post) trivial
  simp only [c1, c2, decide_true, decide_false, Bool.true_or, Bool.or_true, Bool.not_true, Bool.not_false, Bool.or_false, Bool.false_or] at hE
  simp only [go_sem, reduceIte, Nat.reduceEqDiff, Nat.reduceAdd, Nat.reduceMul, Nat.reduceSub, Nat.reduceLeDiff, Nat.reduceLT, Nat.reduceBEq, reduceCtorEq, Net.cells, Ln.row, e98, e121, e111_2, e115, hF, List.length_map, c1, c2, hE, z, z2, en176 rfl (show PPL 176 = none from rfl), r, ofVal_v, ofVal_H]
  refine W_piecesG (l := l) (c := 6) rfl hfit (Nat.zero_le _) (by simp only [go_sem, reduceIte, Nat.reduceEqDiff, Nat.reduceAdd, Nat.reduceMul, Nat.reduceSub, Nat.reduceLeDiff, Nat.reduceLT, Nat.reduceBEq, reduceCtorEq]) (by simp only [go_sem, reduceIte, Nat.reduceEqDiff, Nat.reduceAdd, Nat.reduceMul, Nat.reduceSub, Nat.reduceLeDiff, Nat.reduceLT, Nat.reduceBEq, reduceCtorEq]) (fun k => ∀ j, j < k → hitB l piece post j = false) (fun j hj => by omega) (fun k i => match i with | 0 => .cells n.cells 40 | 1 => .cells [.str s, i64 piece, i64 post] 42 | 2 => .cells [.str [], i64 0] 45 | 3 => .cells [i64 0] 33 | 4 => .cells l.row 196 | 5 => .cells [i64 k] 3 | 6 => .cells l.row 196 | _ => .dead)
    (fun e H3 => e = .ret ∧ ∃ (k : Nat) (p : Pc), l.ps[k]? = some p ∧ metreB p post = true ∧ (k : Int) = piece ∧ H3.get 2 = .cells [.str s, i64 (wrapq .i64 (Int.add (begI l k) (metreI p post)))] 45 ∧ H3.get 3 = .cells [i64 0] 33) ?_ (fun k => rfl) ?_ ?_ ?_
  · intro i hi
    simp only [go_sem, reduceIte, Nat.reduceEqDiff, Nat.reduceAdd, Nat.reduceMul, Nat.reduceSub, Nat.reduceLeDiff, Nat.reduceLT, Nat.reduceBEq, reduceCtorEq] at hi
    match i, hi with
    | 0, _ => simp only [go_sem, reduceIte, Nat.reduceEqDiff, Nat.reduceAdd, Nat.reduceMul, Nat.reduceSub, Nat.reduceLeDiff, Nat.reduceLT, Nat.reduceBEq, reduceCtorEq] <;> rfl
    | 1, _ => simp only [go_sem, reduceIte, Nat.reduceEqDiff, Nat.reduceAdd, Nat.reduceMul, Nat.reduceSub, Nat.reduceLeDiff, Nat.reduceLT, Nat.reduceBEq, reduceCtorEq] <;> rfl
    | 2, _ => simp only [go_sem, reduceIte, Nat.reduceEqDiff, Nat.reduceAdd, Nat.reduceMul, Nat.reduceSub, Nat.reduceLeDiff, Nat.reduceLT, Nat.reduceBEq, reduceCtorEq] <;> rfl
    | 3, _ => simp only [go_sem, reduceIte, Nat.reduceEqDiff, Nat.reduceAdd, Nat.reduceMul, Nat.reduceSub, Nat.reduceLeDiff, Nat.reduceLT, Nat.reduceBEq, reduceCtorEq] <;> rfl
    | 4, _ => simp only [go_sem, reduceIte, Nat.reduceEqDiff, Nat.reduceAdd, Nat.reduceMul, Nat.reduceSub, Nat.reduceLeDiff, Nat.reduceLT, Nat.reduceBEq, reduceCtorEq] <;> rfl
    | 5, _ => simp only [go_sem, reduceIte, Nat.reduceEqDiff, Nat.reduceAdd, Nat.reduceMul, Nat.reduceSub, Nat.reduceLeDiff, Nat.reduceLT, Nat.reduceBEq, reduceCtorEq] <;> rfl
    | 6, _ => simp only [go_sem, reduceIte, Nat.reduceEqDiff, Nat.reduceAdd, Nat.reduceMul, Nat.reduceSub, Nat.reduceLeDiff, Nat.reduceLT, Nat.reduceBEq, reduceCtorEq] <;> rfl
    | i + 7, hi => omega
  · intro k p Hk q hp hq hB hG
    simp only [go_sem, reduceIte, Nat.reduceEqDiff, Nat.reduceAdd, Nat.reduceMul, Nat.reduceSub, Nat.reduceLeDiff, Nat.reduceLT, Nat.reduceBEq, reduceCtorEq] at hq hB
    have h1 := hB 1 (by omega)
    have h2 := hB 2 (by omega)
    have h3 := hB 3 (by omega)
    have h5 := hB 5 (by omega)
    have hw := wrap_succ (List.getElem?_eq_some_iff.1 hp).1 hfit
    obtain ⟨pl, pq, pb⟩ := p
    simp only at h1 h2 h3 h5
    simp only [go_sem, reduceIte, Nat.reduceEqDiff, Nat.reduceAdd, Nat.reduceMul, Nat.reduceSub, Nat.reduceLeDiff, Nat.reduceLT, Nat.reduceBEq, reduceCtorEq, Pc.row, hq]
    refine ⟨fun j _ hj => by rw [if_neg (by omega), if_neg (by omega)], fun r => ?_⟩
    have hh : hitB l piece post k = (metreB ⟨pl, pq, pb⟩ post && decide ((k : Int) = piece)) := by unfold hitB; rw [hp]
    cases d1 : metreB ⟨pl, pq, pb⟩ post <;> rcases Classical.propComplete ((k : Int) = piece) with d2 | d2 <;> simp only [go_sem, reduceIte, Nat.reduceEqDiff, Nat.reduceAdd, Nat.reduceMul, Nat.reduceSub, Nat.reduceLeDiff, Nat.reduceLT, Nat.reduceBEq, reduceCtorEq, hq, h1, h2, h3, h5, e134, hw, d1, d2]
    case true.inl =>
      refine ⟨by omega, fun j h3 hj hj2 => by repeat (rw [if_neg (by omega)]), k, ⟨pl, pq, pb⟩, hp, d1, of_eq_true d2, ?_⟩
      simp
    all_goals
      refine ⟨by omega, fun j h3 hj hj2 => ?_, fun i hi => ?_, fun j hj => ?_⟩
      · repeat (rw [if_neg (by omega)])
      · match i, hi with
        | 0, _ => simp [hB 0 (by omega)]
        | 1, _ => simp [hB 1 (by omega)]
        | 2, _ => simp [hB 2 (by omega)]
        | 3, _ => simp [hB 3 (by omega)]
        | 4, _ => simp [hB 4 (by omega)]
        | 5, _ => simp
        | 6, _ => simp [hB 6 (by omega)]
        | i + 7, hi => omega
      · by_cases e : j = k
        · subst e; rw [hh]; simp [d1, d2]
        · exact hG j (by omega)
  · intro H4 hB hG hd
    simp only [go_sem, reduceIte, Nat.reduceEqDiff, Nat.reduceAdd, Nat.reduceMul, Nat.reduceSub, Nat.reduceLeDiff, Nat.reduceLT, Nat.reduceBEq, reduceCtorEq] at hB hd
    have h2 := hB 2 (by omega)
    have h3 := hB 3 (by omega)
    simp only at h2 h3
    simp only [go_sem, reduceIte, Nat.reduceEqDiff, Nat.reduceAdd, Nat.reduceMul, Nat.reduceSub, Nat.reduceLeDiff, Nat.reduceLT, Nat.reduceBEq, reduceCtorEq, h2, h3, hd, shutMarks_cons]
    rw [placedV_none hG]; simp [z, z2, noPlace]
  · rintro e H3 H4 _ ⟨rfl, k, p, hp, hm, hk, q2, q3⟩ hH hd
    simp only [go_sem, reduceIte, Nat.reduceEqDiff, Nat.reduceAdd, Nat.reduceMul, Nat.reduceSub, Nat.reduceLeDiff, Nat.reduceLT, Nat.reduceBEq, reduceCtorEq] at hH hd
    have h2 := (hH 2 (by omega)).trans q2
    have h3 := (hH 3 (by omega)).trans q3
    have h7 := (hH 7 (by omega)).trans hd
    simp only [go_sem, reduceIte, Nat.reduceEqDiff, Nat.reduceAdd, Nat.reduceMul, Nat.reduceSub, Nat.reduceLeDiff, Nat.reduceLT, Nat.reduceBEq, reduceCtorEq, h2, h3, h7, shutMarks_cons]
    rw [placedV_hit hp hm hk]; simp [z, z2]


noncomputable def p102 : List AV → Option AV := primOf (α := Net × List Nat × Int × Int) (fun x => [.agg x.1.cells, .agg [.str x.2.1, i64 x.2.2.1, i64 x.2.2.2]]) (fun x => x.1.Ok) (fun x => .tup (placedP x.1 x.2.1 x.2.2.1 x.2.2.2))
theorem pok102 : ∀ args v, p102 args = some v → ∀ lo H, CallOk NC lo 102 args H v H := by
  intro args v h
  obtain ⟨x, rfl, hp, rfl⟩ := primOf_inv h
  clear h
  revert x
  intro x hx; exact c102 x.1 x.2.1 x.2.2.1 x.2.2.2 hx
theorem pe102 (x : Net × List Nat × Int × Int) (hp : (fun x => x.1.Ok) x) : p102 ((fun x => [.agg x.1.cells, .agg [.str x.2.1, i64 x.2.2.1, i64 x.2.2.2]]) x) = some ((fun x => .tup (placedP x.1 x.2.1 x.2.2.1 x.2.2.2)) x) := primOf_enc (by intro x y h; (obtain ⟨a, b, c, d⟩ := x; obtain ⟨a', b', c', d'⟩ := y; simp only [List.cons.injEq, AV.agg.injEq, AV.str.injEq, AV.int.injEq, true_and, and_true] at h; obtain ⟨h1, rfl, rfl, rfl⟩ := h; rw [Net.cells_inj _ _ h1])) x hp
noncomputable def PPM : FuncId → Option (List AV → Option AV) := addPrim 102 p102 (PPL)
theorem primsM : PrimsOk NC PPM := primsOk_add (primsL) (by kernel_rfl) (by kernel_rfl) pok102
theorem enM_48 {rec : Rec} {lo : Nat} {args : List AV} {H : Heap} {K : AV → Heap → Prop} : VO (aenter (NC.withPrims PPM) rec lo 48 args H) K = AO (p48 args) fun v => K v H := enter_prim (by rfl) (by kernel_rfl)
theorem enM_121 {rec : Rec} {lo : Nat} {args : List AV} {H : Heap} {K : AV → Heap → Prop} : VO (aenter (NC.withPrims PPM) rec lo 121 args H) K = AO (p121 args) fun v => K v H := enter_prim (by rfl) (by kernel_rfl)
theorem enM_34 {rec : Rec} {lo : Nat} {args : List AV} {H : Heap} {K : AV → Heap → Prop} : VO (aenter (NC.withPrims PPM) rec lo 34 args H) K = AO (p34 args) fun v => K v H := enter_prim (by rfl) (by kernel_rfl)
theorem enM_111 {rec : Rec} {lo : Nat} {args : List AV} {H : Heap} {K : AV → Heap → Prop} : VO (aenter (NC.withPrims PPM) rec lo 111 args H) K = AO (p111 args) fun v => K v H := enter_prim (by rfl) (by kernel_rfl)
theorem enM_26 {rec : Rec} {lo : Nat} {args : List AV} {H : Heap} {K : AV → Heap → Prop} : VO (aenter (NC.withPrims PPM) rec lo 26 args H) K = AO (p26 args) fun v => K v H := enter_prim (by rfl) (by kernel_rfl)
theorem enM_178 {rec : Rec} {lo : Nat} {args : List AV} {H : Heap} {K : AV → Heap → Prop} : VO (aenter (NC.withPrims PPM) rec lo 178 args H) K = AO (p178 args) fun v => K v H := enter_prim (by rfl) (by kernel_rfl)
theorem enM_109 {rec : Rec} {lo : Nat} {args : List AV} {H : Heap} {K : AV → Heap → Prop} : VO (aenter (NC.withPrims PPM) rec lo 109 args H) K = AO (p109 args) fun v => K v H := enter_prim (by rfl) (by kernel_rfl)
theorem enM_108 {rec : Rec} {lo : Nat} {args : List AV} {H : Heap} {K : AV → Heap → Prop} : VO (aenter (NC.withPrims PPM) rec lo 108 args H) K = AO (p108 args) fun v => K v H := enter_prim (by rfl) (by kernel_rfl)
theorem enM_27 {rec : Rec} {lo : Nat} {args : List AV} {H : Heap} {K : AV → Heap → Prop} : VO (aenter (NC.withPrims PPM) rec lo 27 args H) K = AO (p27 args) fun v => K v H := enter_prim (by rfl) (by kernel_rfl)
theorem enM_97 {rec : Rec} {lo : Nat} {args : List AV} {H : Heap} {K : AV → Heap → Prop} : VO (aenter (NC.withPrims PPM) rec lo 97 args H) K = AO (p97 args) fun v => K v H := enter_prim (by rfl) (by kernel_rfl)
theorem enM_122 {rec : Rec} {lo : Nat} {args : List AV} {H : Heap} {K : AV → Heap → Prop} : VO (aenter (NC.withPrims PPM) rec lo 122 args H) K = AO (p122 args) fun v => K v H := enter_prim (by rfl) (by kernel_rfl)
theorem enM_182 {rec : Rec} {lo : Nat} {args : List AV} {H : Heap} {K : AV → Heap → Prop} : VO (aenter (NC.withPrims PPM) rec lo 182 args H) K = AO (p182 args) fun v => K v H := enter_prim (by rfl) (by kernel_rfl)
theorem enM_35 {rec : Rec} {lo : Nat} {args : List AV} {H : Heap} {K : AV → Heap → Prop} : VO (aenter (NC.withPrims PPM) rec lo 35 args H) K = AO (p35 args) fun v => K v H := enter_prim (by rfl) (by kernel_rfl)
theorem enM_115 {rec : Rec} {lo : Nat} {args : List AV} {H : Heap} {K : AV → Heap → Prop} : VO (aenter (NC.withPrims PPM) rec lo 115 args H) K = AO (p115 args) fun v => K v H := enter_prim (by rfl) (by kernel_rfl)
theorem enM_36 {rec : Rec} {lo : Nat} {args : List AV} {H : Heap} {K : AV → Heap → Prop} : VO (aenter (NC.withPrims PPM) rec lo 36 args H) K = AO (p36 args) fun v => K v H := enter_prim (by rfl) (by kernel_rfl)
theorem enM_120 {rec : Rec} {lo : Nat} {args : List AV} {H : Heap} {K : AV → Heap → Prop} : VO (aenter (NC.withPrims PPM) rec lo 120 args H) K = AO (p120 args) fun v => K v H := enter_prim (by rfl) (by kernel_rfl)
theorem enM_106 {rec : Rec} {lo : Nat} {args : List AV} {H : Heap} {K : AV → Heap → Prop} : VO (aenter (NC.withPrims PPM) rec lo 106 args H) K = AO (p106 args) fun v => K v H := enter_prim (by rfl) (by kernel_rfl)
theorem enM_179 {rec : Rec} {lo : Nat} {args : List AV} {H : Heap} {K : AV → Heap → Prop} : VO (aenter (NC.withPrims PPM) rec lo 179 args H) K = AO (p179 args) fun v => K v H := enter_prim (by rfl) (by kernel_rfl)
theorem enM_126 {rec : Rec} {lo : Nat} {args : List AV} {H : Heap} {K : AV → Heap → Prop} : VO (aenter (NC.withPrims PPM) rec lo 126 args H) K = AO (p126 args) fun v => K v H := enter_prim (by rfl) (by kernel_rfl)
theorem enM_103 {rec : Rec} {lo : Nat} {args : List AV} {H : Heap} {K : AV → Heap → Prop} : VO (aenter (NC.withPrims PPM) rec lo 103 args H) K = AO (p103 args) fun v => K v H := enter_prim (by rfl) (by kernel_rfl)
theorem enM_104 {rec : Rec} {lo : Nat} {args : List AV} {H : Heap} {K : AV → Heap → Prop} : VO (aenter (NC.withPrims PPM) rec lo 104 args H) K = AO (p104 args) fun v => K v H := enter_prim (by rfl) (by kernel_rfl)
theorem enM_105 {rec : Rec} {lo : Nat} {args : List AV} {H : Heap} {K : AV → Heap → Prop} : VO (aenter (NC.withPrims PPM) rec lo 105 args H) K = AO (p105 args) fun v => K v H := enter_prim (by rfl) (by kernel_rfl)
theorem enM_99 {rec : Rec} {lo : Nat} {args : List AV} {H : Heap} {K : AV → Heap → Prop} : VO (aenter (NC.withPrims PPM) rec lo 99 args H) K = AO (p99 args) fun v => K v H := enter_prim (by rfl) (by kernel_rfl)
theorem enM_226 {rec : Rec} {lo : Nat} {args : List AV} {H : Heap} {K : AV → Heap → Prop} : VO (aenter (NC.withPrims PPM) rec lo 226 args H) K = AO (p226 args) fun v => K v H := enter_prim (by rfl) (by kernel_rfl)
theorem enM_134 {rec : Rec} {lo : Nat} {args : List AV} {H : Heap} {K : AV → Heap → Prop} : VO (aenter (NC.withPrims PPM) rec lo 134 args H) K = AO (p134 args) fun v => K v H := enter_prim (by rfl) (by kernel_rfl)
theorem enM_177 {rec : Rec} {lo : Nat} {args : List AV} {H : Heap} {K : AV → Heap → Prop} : VO (aenter (NC.withPrims PPM) rec lo 177 args H) K = AO (p177 args) fun v => K v H := enter_prim (by rfl) (by kernel_rfl)
theorem enM_180 {rec : Rec} {lo : Nat} {args : List AV} {H : Heap} {K : AV → Heap → Prop} : VO (aenter (NC.withPrims PPM) rec lo 180 args H) K = AO (p180 args) fun v => K v H := enter_prim (by rfl) (by kernel_rfl)
theorem enM_98 {rec : Rec} {lo : Nat} {args : List AV} {H : Heap} {K : AV → Heap → Prop} : VO (aenter (NC.withPrims PPM) rec lo 98 args H) K = AO (p98 args) fun v => K v H := enter_prim (by rfl) (by kernel_rfl)
theorem enM_181 {rec : Rec} {lo : Nat} {args : List AV} {H : Heap} {K : AV → Heap → Prop} : VO (aenter (NC.withPrims PPM) rec lo 181 args H) K = AO (p181 args) fun v => K v H := enter_prim (by rfl) (by kernel_rfl)
theorem enM_183 {rec : Rec} {lo : Nat} {args : List AV} {H : Heap} {K : AV → Heap → Prop} : VO (aenter (NC.withPrims PPM) rec lo 183 args H) K = AO (p183 args) fun v => K v H := enter_prim (by rfl) (by kernel_rfl)
theorem enM_110 {rec : Rec} {lo : Nat} {args : List AV} {H : Heap} {K : AV → Heap → Prop} : VO (aenter (NC.withPrims PPM) rec lo 110 args H) K = AO (p110 args) fun v => K v H := enter_prim (by rfl) (by kernel_rfl)
theorem enM_112 {rec : Rec} {lo : Nat} {args : List AV} {H : Heap} {K : AV → Heap → Prop} : VO (aenter (NC.withPrims PPM) rec lo 112 args H) K = AO (p112 args) fun v => K v H := enter_prim (by rfl) (by kernel_rfl)
theorem enM_113 {rec : Rec} {lo : Nat} {args : List AV} {H : Heap} {K : AV → Heap → Prop} : VO (aenter (NC.withPrims PPM) rec lo 113 args H) K = AO (p113 args) fun v => K v H := enter_prim (by rfl) (by kernel_rfl)
theorem enM_29 {rec : Rec} {lo : Nat} {args : List AV} {H : Heap} {K : AV → Heap → Prop} : VO (aenter (NC.withPrims PPM) rec lo 29 args H) K = AO (p29 args) fun v => K v H := enter_prim (by rfl) (by kernel_rfl)
theorem enM_100 {rec : Rec} {lo : Nat} {args : List AV} {H : Heap} {K : AV → Heap → Prop} : VO (aenter (NC.withPrims PPM) rec lo 100 args H) K = AO (p100 args) fun v => K v H := enter_prim (by rfl) (by kernel_rfl)
theorem enM_101 {rec : Rec} {lo : Nat} {args : List AV} {H : Heap} {K : AV → Heap → Prop} : VO (aenter (NC.withPrims PPM) rec lo 101 args H) K = AO (p101 args) fun v => K v H := enter_prim (by rfl) (by kernel_rfl)
theorem enM_102 {rec : Rec} {lo : Nat} {args : List AV} {H : Heap} {K : AV → Heap → Prop} : VO (aenter (NC.withPrims PPM) rec lo 102 args H) K = AO (p102 args) fun v => K v H := enter_prim (by rfl) (by kernel_rfl)
attribute [go_sem ↓] enM_48 enM_121 enM_34 enM_111 enM_26 enM_178 enM_109 enM_108 enM_27 enM_97 enM_122 enM_182
attribute [go_sem ↓] enM_35 enM_115 enM_36 enM_120 enM_106 enM_179 enM_126 enM_103 enM_104 enM_105 enM_99 enM_226
attribute [go_sem ↓] enM_134 enM_177 enM_180 enM_98 enM_181 enM_183 enM_110 enM_112 enM_113 enM_29 enM_100 enM_101
attribute [go_sem ↓] enM_102


theorem placedP_shape (n : Net) (s : List Nat) (piece post : Int) : ∃ s' m' e, placedP n s piece post = [.agg [.str s', .int .i64 m'], .int .i64 e] := by
  unfold placedP placedV
  simp only []
  split
  · split
    · split
      · exact ⟨_, _, _, rfl⟩
      · split <;> exact ⟨_, _, _, rfl⟩
    · exact ⟨_, _, _, rfl⟩
  · exact ⟨_, _, _, rfl⟩

theorem c21 (n : Net) (s : List Nat) (piece post : Int) (hn : n.Ok) : ∀ lo H, CallOk NC lo 21 [.agg n.cells, .agg [.str s, i64 piece, i64 post]] H (.tup (if netP n = 0 then placedP n s piece post else [noPlace, i64 (netP n)])) H := by
  refine contract saneNC primsM (fn := Tryz.f21) (by kernel_rfl) Tryz.func21 rfl rfl (by rfl) (by split; exact placedP_pure ..; rfl) ?_
  have e29 := pe29 n hn
  have e102 := pe102 (n, s, piece, post) hn
  obtain ⟨s', m', e, hpl⟩ := placedP_shape n s piece post
  simp only [Net.cells, i64, hpl] at e29 e102 ⊢
  generalize hE : netP n = E at e29 ⊢
  rcases Classical.propComplete (E = 0) with z | z <;> simp only [go_sem, reduceIte, Nat.reduceEqDiff, Nat.reduceAdd, Nat.reduceMul, Nat.reduceSub, Nat.reduceLeDiff, Nat.reduceLT, Nat.reduceBEq, reduceCtorEq, Net.cells, e29, e102, z, noPlace, hpl]

end Go.Sim

/-
The reference: Addressed, Placed.
-/
namespace Go.Sim
open Go Go.Proofs
set_option maxRecDepth 100000
set_option maxHeartbeats 8000000

def offI (p : Pc) (post : Int) : Int := if p.back then wrapq .i64 (Int.sub p.post post) else wrapq .i64 (Int.sub post p.post)

def metreOfI (l : Ln) (k : Nat) (post : Int) : Int := match l.ps[k]? with
  | none => 0
  | some p => if decide (offI p post < 0) || !decide (offI p post < p.len) then -1 else wrapq .i64 (Int.add (begI l k) (offI p post))

theorem c107 (l : Ln) (k : Nat) (post : Int) (hl : l.ps.length ≤ maxRows) (hk : k < l.ps.length) : ∀ lo H, CallOk NC lo 107 [.agg l.row, i64 k, i64 post] H (i64 (metreOfI l k post)) H := by
  refine contract saneNC primsM (fn := Tryz.f107) (by kernel_rfl) Tryz.func107 rfl rfl (by rfl) (by rfl) ?_
  obtain ⟨p, hp⟩ : ∃ p, l.ps[k]? = some p := ⟨l.ps[k], by simp⟩
  have hr := map_at (f := Pc.row) hp
  have e108 := pe108 (l, k) ⟨Nat.le_of_lt hk, hl⟩
  obtain ⟨pl, pq, pb⟩ := p
  simp only [Pc.row] at hr
  simp only [Ln.row, i64] at e108
  have hbeg : sumW (l.ps.take k) 0 = begI l k := rfl
  rw [hbeg] at e108
  cases pb with
  | true =>
    generalize hE : wrapq .i64 (Int.sub pq post) = E
    have hsp : metreOfI l k post = if decide (E < 0) || !decide (E < pl) then -1 else wrapq .i64 (Int.add (begI l k) E) := by
      unfold metreOfI offI; simp only [hp, hE, if_true]
    rcases Classical.propComplete (E < 0) with c1 | c1 <;> rcases Classical.propComplete (E < pl) with c2 | c2 <;> simp only [go_sem, reduceIte, Nat.reduceEqDiff, Nat.reduceAdd, Nat.reduceMul, Nat.reduceSub, Nat.reduceLeDiff, Nat.reduceLT, Nat.reduceBEq, reduceCtorEq, Ln.row, List.length_map, hk, hr, e108, hE, c1, c2] <;> simp [hsp, c1, c2] <;> rfl
  | false =>
    generalize hE : wrapq .i64 (Int.sub post pq) = E
    have hsp : metreOfI l k post = if decide (E < 0) || !decide (E < pl) then -1 else wrapq .i64 (Int.add (begI l k) E) := by
      unfold metreOfI offI; simp only [hp, hE, Bool.false_eq_true, if_false]
    rcases Classical.propComplete (E < 0) with c1 | c1 <;> rcases Classical.propComplete (E < pl) with c2 | c2 <;> simp only [go_sem, reduceIte, Nat.reduceEqDiff, Nat.reduceAdd, Nat.reduceMul, Nat.reduceSub, Nat.reduceLeDiff, Nat.reduceLT, Nat.reduceBEq, reduceCtorEq, Ln.row, List.length_map, hk, hr, e108, hE, c1, c2] <;> simp [hsp, c1, c2] <;> rfl


noncomputable def p107 : List AV → Option AV := primOf (α := Ln × Nat × Int) (fun x => [.agg x.1.row, i64 x.2.1, i64 x.2.2]) (fun x => x.1.ps.length ≤ maxRows ∧ x.2.1 < x.1.ps.length) (fun x => i64 (metreOfI x.1 x.2.1 x.2.2))
theorem pok107 : ∀ args v, p107 args = some v → ∀ lo H, CallOk NC lo 107 args H v H := by
  intro args v h
  obtain ⟨x, rfl, hp, rfl⟩ := primOf_inv h
  clear h
  revert x
  intro x hx; exact c107 x.1 x.2.1 x.2.2 hx.1 hx.2
theorem pe107 (x : Ln × Nat × Int) (hp : (fun x => x.1.ps.length ≤ maxRows ∧ x.2.1 < x.1.ps.length) x) : p107 ((fun x => [.agg x.1.row, i64 x.2.1, i64 x.2.2]) x) = some ((fun x => i64 (metreOfI x.1 x.2.1 x.2.2)) x) := primOf_enc (by intro x y h; (obtain ⟨a, b, c⟩ := x; obtain ⟨d, e, f⟩ := y; simp only [List.cons.injEq, AV.agg.injEq, AV.int.injEq, true_and, and_true] at h; obtain ⟨h1, h2, rfl⟩ := h; rw [Ln.row_inj _ _ h1, Int.ofNat.inj h2])) x hp
noncomputable def PPN : FuncId → Option (List AV → Option AV) := addPrim 107 p107 (PPM)
theorem primsN : PrimsOk NC PPN := primsOk_add (primsM) (by kernel_rfl) (by kernel_rfl) pok107
theorem enN_48 {rec : Rec} {lo : Nat} {args : List AV} {H : Heap} {K : AV → Heap → Prop} : VO (aenter (NC.withPrims PPN) rec lo 48 args H) K = AO (p48 args) fun v => K v H := enter_prim (by rfl) (by kernel_rfl)
theorem enN_121 {rec : Rec} {lo : Nat} {args : List AV} {H : Heap} {K : AV → Heap → Prop} : VO (aenter (NC.withPrims PPN) rec lo 121 args H) K = AO (p121 args) fun v => K v H := enter_prim (by rfl) (by kernel_rfl)
theorem enN_34 {rec : Rec} {lo : Nat} {args : List AV} {H : Heap} {K : AV → Heap → Prop} : VO (aenter (NC.withPrims PPN) rec lo 34 args H) K = AO (p34 args) fun v => K v H := enter_prim (by rfl) (by kernel_rfl)
theorem enN_111 {rec : Rec} {lo : Nat} {args : List AV} {H : Heap} {K : AV → Heap → Prop} : VO (aenter (NC.withPrims PPN) rec lo 111 args H) K = AO (p111 args) fun v => K v H := enter_prim (by rfl) (by kernel_rfl)
theorem enN_26 {rec : Rec} {lo : Nat} {args : List AV} {H : Heap} {K : AV → Heap → Prop} : VO (aenter (NC.withPrims PPN) rec lo 26 args H) K = AO (p26 args) fun v => K v H := enter_prim (by rfl) (by kernel_rfl)
theorem enN_178 {rec : Rec} {lo : Nat} {args : List AV} {H : Heap} {K : AV → Heap → Prop} : VO (aenter (NC.withPrims PPN) rec lo 178 args H) K = AO (p178 args) fun v => K v H := enter_prim (by rfl) (by kernel_rfl)
theorem enN_109 {rec : Rec} {lo : Nat} {args : List AV} {H : Heap} {K : AV → Heap → Prop} : VO (aenter (NC.withPrims PPN) rec lo 109 args H) K = AO (p109 args) fun v => K v H := enter_prim (by rfl) (by kernel_rfl)
theorem enN_108 {rec : Rec} {lo : Nat} {args : List AV} {H : Heap} {K : AV → Heap → Prop} : VO (aenter (NC.withPrims PPN) rec lo 108 args H) K = AO (p108 args) fun v => K v H := enter_prim (by rfl) (by kernel_rfl)
theorem enN_27 {rec : Rec} {lo : Nat} {args : List AV} {H : Heap} {K : AV → Heap → Prop} : VO (aenter (NC.withPrims PPN) rec lo 27 args H) K = AO (p27 args) fun v => K v H := enter_prim (by rfl) (by kernel_rfl)
theorem enN_97 {rec : Rec} {lo : Nat} {args : List AV} {H : Heap} {K : AV → Heap → Prop} : VO (aenter (NC.withPrims PPN) rec lo 97 args H) K = AO (p97 args) fun v => K v H := enter_prim (by rfl) (by kernel_rfl)
theorem enN_122 {rec : Rec} {lo : Nat} {args : List AV} {H : Heap} {K : AV → Heap → Prop} : VO (aenter (NC.withPrims PPN) rec lo 122 args H) K = AO (p122 args) fun v => K v H := enter_prim (by rfl) (by kernel_rfl)
theorem enN_182 {rec : Rec} {lo : Nat} {args : List AV} {H : Heap} {K : AV → Heap → Prop} : VO (aenter (NC.withPrims PPN) rec lo 182 args H) K = AO (p182 args) fun v => K v H := enter_prim (by rfl) (by kernel_rfl)
theorem enN_35 {rec : Rec} {lo : Nat} {args : List AV} {H : Heap} {K : AV → Heap → Prop} : VO (aenter (NC.withPrims PPN) rec lo 35 args H) K = AO (p35 args) fun v => K v H := enter_prim (by rfl) (by kernel_rfl)
theorem enN_115 {rec : Rec} {lo : Nat} {args : List AV} {H : Heap} {K : AV → Heap → Prop} : VO (aenter (NC.withPrims PPN) rec lo 115 args H) K = AO (p115 args) fun v => K v H := enter_prim (by rfl) (by kernel_rfl)
theorem enN_36 {rec : Rec} {lo : Nat} {args : List AV} {H : Heap} {K : AV → Heap → Prop} : VO (aenter (NC.withPrims PPN) rec lo 36 args H) K = AO (p36 args) fun v => K v H := enter_prim (by rfl) (by kernel_rfl)
theorem enN_120 {rec : Rec} {lo : Nat} {args : List AV} {H : Heap} {K : AV → Heap → Prop} : VO (aenter (NC.withPrims PPN) rec lo 120 args H) K = AO (p120 args) fun v => K v H := enter_prim (by rfl) (by kernel_rfl)
theorem enN_106 {rec : Rec} {lo : Nat} {args : List AV} {H : Heap} {K : AV → Heap → Prop} : VO (aenter (NC.withPrims PPN) rec lo 106 args H) K = AO (p106 args) fun v => K v H := enter_prim (by rfl) (by kernel_rfl)
theorem enN_179 {rec : Rec} {lo : Nat} {args : List AV} {H : Heap} {K : AV → Heap → Prop} : VO (aenter (NC.withPrims PPN) rec lo 179 args H) K = AO (p179 args) fun v => K v H := enter_prim (by rfl) (by kernel_rfl)
theorem enN_126 {rec : Rec} {lo : Nat} {args : List AV} {H : Heap} {K : AV → Heap → Prop} : VO (aenter (NC.withPrims PPN) rec lo 126 args H) K = AO (p126 args) fun v => K v H := enter_prim (by rfl) (by kernel_rfl)
theorem enN_103 {rec : Rec} {lo : Nat} {args : List AV} {H : Heap} {K : AV → Heap → Prop} : VO (aenter (NC.withPrims PPN) rec lo 103 args H) K = AO (p103 args) fun v => K v H := enter_prim (by rfl) (by kernel_rfl)
theorem enN_104 {rec : Rec} {lo : Nat} {args : List AV} {H : Heap} {K : AV → Heap → Prop} : VO (aenter (NC.withPrims PPN) rec lo 104 args H) K = AO (p104 args) fun v => K v H := enter_prim (by rfl) (by kernel_rfl)
theorem enN_105 {rec : Rec} {lo : Nat} {args : List AV} {H : Heap} {K : AV → Heap → Prop} : VO (aenter (NC.withPrims PPN) rec lo 105 args H) K = AO (p105 args) fun v => K v H := enter_prim (by rfl) (by kernel_rfl)
theorem enN_99 {rec : Rec} {lo : Nat} {args : List AV} {H : Heap} {K : AV → Heap → Prop} : VO (aenter (NC.withPrims PPN) rec lo 99 args H) K = AO (p99 args) fun v => K v H := enter_prim (by rfl) (by kernel_rfl)
theorem enN_226 {rec : Rec} {lo : Nat} {args : List AV} {H : Heap} {K : AV → Heap → Prop} : VO (aenter (NC.withPrims PPN) rec lo 226 args H) K = AO (p226 args) fun v => K v H := enter_prim (by rfl) (by kernel_rfl)
theorem enN_134 {rec : Rec} {lo : Nat} {args : List AV} {H : Heap} {K : AV → Heap → Prop} : VO (aenter (NC.withPrims PPN) rec lo 134 args H) K = AO (p134 args) fun v => K v H := enter_prim (by rfl) (by kernel_rfl)
theorem enN_177 {rec : Rec} {lo : Nat} {args : List AV} {H : Heap} {K : AV → Heap → Prop} : VO (aenter (NC.withPrims PPN) rec lo 177 args H) K = AO (p177 args) fun v => K v H := enter_prim (by rfl) (by kernel_rfl)
theorem enN_180 {rec : Rec} {lo : Nat} {args : List AV} {H : Heap} {K : AV → Heap → Prop} : VO (aenter (NC.withPrims PPN) rec lo 180 args H) K = AO (p180 args) fun v => K v H := enter_prim (by rfl) (by kernel_rfl)
theorem enN_98 {rec : Rec} {lo : Nat} {args : List AV} {H : Heap} {K : AV → Heap → Prop} : VO (aenter (NC.withPrims PPN) rec lo 98 args H) K = AO (p98 args) fun v => K v H := enter_prim (by rfl) (by kernel_rfl)
theorem enN_181 {rec : Rec} {lo : Nat} {args : List AV} {H : Heap} {K : AV → Heap → Prop} : VO (aenter (NC.withPrims PPN) rec lo 181 args H) K = AO (p181 args) fun v => K v H := enter_prim (by rfl) (by kernel_rfl)
theorem enN_183 {rec : Rec} {lo : Nat} {args : List AV} {H : Heap} {K : AV → Heap → Prop} : VO (aenter (NC.withPrims PPN) rec lo 183 args H) K = AO (p183 args) fun v => K v H := enter_prim (by rfl) (by kernel_rfl)
theorem enN_110 {rec : Rec} {lo : Nat} {args : List AV} {H : Heap} {K : AV → Heap → Prop} : VO (aenter (NC.withPrims PPN) rec lo 110 args H) K = AO (p110 args) fun v => K v H := enter_prim (by rfl) (by kernel_rfl)
theorem enN_112 {rec : Rec} {lo : Nat} {args : List AV} {H : Heap} {K : AV → Heap → Prop} : VO (aenter (NC.withPrims PPN) rec lo 112 args H) K = AO (p112 args) fun v => K v H := enter_prim (by rfl) (by kernel_rfl)
theorem enN_113 {rec : Rec} {lo : Nat} {args : List AV} {H : Heap} {K : AV → Heap → Prop} : VO (aenter (NC.withPrims PPN) rec lo 113 args H) K = AO (p113 args) fun v => K v H := enter_prim (by rfl) (by kernel_rfl)
theorem enN_29 {rec : Rec} {lo : Nat} {args : List AV} {H : Heap} {K : AV → Heap → Prop} : VO (aenter (NC.withPrims PPN) rec lo 29 args H) K = AO (p29 args) fun v => K v H := enter_prim (by rfl) (by kernel_rfl)
theorem enN_100 {rec : Rec} {lo : Nat} {args : List AV} {H : Heap} {K : AV → Heap → Prop} : VO (aenter (NC.withPrims PPN) rec lo 100 args H) K = AO (p100 args) fun v => K v H := enter_prim (by rfl) (by kernel_rfl)
theorem enN_101 {rec : Rec} {lo : Nat} {args : List AV} {H : Heap} {K : AV → Heap → Prop} : VO (aenter (NC.withPrims PPN) rec lo 101 args H) K = AO (p101 args) fun v => K v H := enter_prim (by rfl) (by kernel_rfl)
theorem enN_102 {rec : Rec} {lo : Nat} {args : List AV} {H : Heap} {K : AV → Heap → Prop} : VO (aenter (NC.withPrims PPN) rec lo 102 args H) K = AO (p102 args) fun v => K v H := enter_prim (by rfl) (by kernel_rfl)
theorem enN_107 {rec : Rec} {lo : Nat} {args : List AV} {H : Heap} {K : AV → Heap → Prop} : VO (aenter (NC.withPrims PPN) rec lo 107 args H) K = AO (p107 args) fun v => K v H := enter_prim (by rfl) (by kernel_rfl)
attribute [go_sem ↓] enN_48 enN_121 enN_34 enN_111 enN_26 enN_178 enN_109 enN_108 enN_27 enN_97 enN_122 enN_182
attribute [go_sem ↓] enN_35 enN_115 enN_36 enN_120 enN_106 enN_179 enN_126 enN_103 enN_104 enN_105 enN_99 enN_226
attribute [go_sem ↓] enN_134 enN_177 enN_180 enN_98 enN_181 enN_183 enN_110 enN_112 enN_113 enN_29 enN_100 enN_101
attribute [go_sem ↓] enN_102 enN_107


/-- Does piece 'k' have the metre, by the reference? -/
def inB (l : Ln) (m : Int) (k : Nat) : Bool := match l.ps[k]? with
  | none => false
  | some p => !decide (wrapq .i64 (Int.sub m (begI l k)) < 0) && decide (wrapq .i64 (Int.sub m (begI l k)) < p.len)

def addrR (l : Ln) (s : List Nat) (m : Int) : AV := match (List.range l.ps.length).find? (inB l m) with
  | none => noAddr
  | some k => match l.ps[k]? with
    | none => noAddr
    | some p => .agg [.str s, i64 k, i64 (postI p (wrapq .i64 (Int.sub m (begI l k))))]

theorem find_range {f : Nat → Bool} {n k : Nat} (hk : k < n) (h0 : ∀ j, j < k → f j = false) (h : f k = true) : (List.range n).find? f = some k := by
  rw [List.find?_eq_some_iff_getElem]
  refine ⟨h, k, by simpa using hk, by simp, fun j hj => ?_⟩
  simp [h0 j hj]
theorem find_range_none {f : Nat → Bool} {n : Nat} (h0 : ∀ j, j < n → f j = false) : (List.range n).find? f = none := by
  rw [List.find?_eq_none]
  intro j hj
  simp [h0 j (by simpa using hj)]

theorem c28 (n : Net) (s : List Nat) (m : Int) (hn : n.fits) {i : Nat} (hf : findL n.lines s = some i) : ∀ lo H, CallOk NC lo 28 [.agg n.cells, .agg [.str s, i64 m]] H (addrR (lnOf n.lines s) s m) H := by
  obtain ⟨l, hl, hlt, hmem⟩ := findL_at hf
  have hlo : lnOf n.lines s = l := by unfold lnOf; rw [hf]; simp [hl]
  rw [hlo]
  have hpv : (addrR l s m).pure = true := by
    unfold addrR
    split
    · rfl
    · split <;> rfl
  refine contract saneNC primsN (fn := Tryz.f28) (by kernel_rfl) Tryz.func28 rfl rfl (by rfl) hpv ?_
  have e27 := pe27 (n, s) hn.1
  have hfit := hn.2 l hmem
  have hr := map_at (f := Ln.row) hl
  simp only [Net.cells, i64, findI, hf] at e27
  simp only [Ln.row] at hr
  simp only [go_sem, reduceIte, Nat.reduceEqDiff, Nat.reduceAdd, Nat.reduceMul, Nat.reduceSub, Nat.reduceLeDiff, Nat.reduceLT, Nat.reduceBEq, reduceCtorEq, Net.cells, e27, List.length_map, hlt, hr]
  refine W_for (fun k T H M => M = [] ∧ getT T 3 = .ptr 1 0 ∧ getT T 4 = .ptr 2 0 ∧ getT T 5 = .ptr 3 0 ∧ getT T 6 = i64 k ∧ H.get 1 = .cells [.str s, i64 m] 28 ∧ H.get 2 = .cells [.str [], i64 0, i64 0] 30 ∧ H.get 3 = .cells l.row 56 ∧ ∀ j, j < k → inB l m j = false) l.ps.length ?_ ?_ ?_
  · simp only [go_sem, reduceIte, Nat.reduceEqDiff, Nat.reduceAdd, Nat.reduceMul, Nat.reduceSub, Nat.reduceLeDiff, Nat.reduceLT, Nat.reduceBEq, reduceCtorEq, Ln.row]; exact fun j hj => by omega
  · rintro k T H M hk ⟨rfl, g3, g4, g5, g6, h1, h2, h3, hno⟩
    obtain ⟨p, hp⟩ : ∃ p, l.ps[k]? = some p := ⟨l.ps[k], by simp⟩
    have hpr := map_at (f := Pc.row) hp
    have hw := wrap_succ hk hfit
    have e108 := pe108 (l, k) ⟨Nat.le_of_lt hk, hfit⟩
    obtain ⟨pl, pq, pb⟩ := p
    simp only [Pc.row] at hpr
    simp only [Ln.row, i64] at e108
    have hbeg : sumW (l.ps.take k) 0 = begI l k := rfl
    rw [hbeg] at e108
    generalize hE : wrapq .i64 (Int.sub m (begI l k)) = E
    have hin : inB l m k = (!decide (E < 0) && decide (E < pl)) := by unfold inB; simp only [hp, hE]
    rcases Classical.propComplete (E < 0) with c1 | c1 <;> rcases Classical.propComplete (E < pl) with c2 | c2 <;> simp only [go_sem, reduceIte, Nat.reduceEqDiff, Nat.reduceAdd, Nat.reduceMul, Nat.reduceSub, Nat.reduceLeDiff, Nat.reduceLT, Nat.reduceBEq, reduceCtorEq, Ln.row, g3, g4, g5, g6, h1, h2, h3, List.length_map, hk, hpr, hw, e108, hE, e109, c1, c2]
    case inr.inl =>
      unfold addrR
      rw [find_range hk hno (by rw [hin]; simp [c1, c2])]
      simp only [hp, hE]
    all_goals
      intro j hj
      by_cases e : j = k
      · subst e; rw [hin]; simp [c1, c2]
      · exact hno j (by omega)
  · rintro T H M ⟨rfl, g3, g4, g5, g6, h1, h2, h3, hno⟩
    simp only [go_sem, reduceIte, Nat.reduceEqDiff, Nat.reduceAdd, Nat.reduceMul, Nat.reduceSub, Nat.reduceLeDiff, Nat.reduceLT, Nat.reduceBEq, reduceCtorEq, Ln.row, g3, g4, g5, g6, h1, h2, h3, List.length_map, Nat.lt_irrefl]
    unfold addrR
    rw [find_range_none hno]; rfl

def placedR (n : Net) (s : List Nat) (piece post : Int) : List AV := match findL n.lines s with
  | none => [noPlace, i64 10]
  | some _ =>
    if piece < 0 ∨ ¬ piece < ((lnOf n.lines s).ps.length : Nat) then [noPlace, i64 7]
    else if post < 0 ∨ 9999999 < post ∨ metreOfI (lnOf n.lines s) piece.toNat post < 0 then [noPlace, i64 14]
    else [.agg [.str s, i64 (metreOfI (lnOf n.lines s) piece.toNat post)], i64 0]

theorem placedR_pure (n : Net) (s : List Nat) (piece post : Int) : (AV.tup (placedR n s piece post)).pure = true := by
  unfold placedR
  split
  · rfl
  · split
    · rfl
    · split <;> rfl

theorem c25 (n : Net) (s : List Nat) (piece post : Int) (hn : n.fits) : ∀ lo H, CallOk NC lo 25 [.agg n.cells, .agg [.str s, i64 piece, i64 post]] H (.tup (placedR n s piece post)) H := by
  refine contract saneNC primsN (fn := Tryz.f25) (by kernel_rfl) Tryz.func25 rfl rfl (by rfl) (placedR_pure ..) ?_
  have e27 := pe27 (n, s) hn.1
  cases hf : findL n.lines s with
  | none =>
    simp only [Net.cells, i64, findI, hf] at e27
    simp only [go_sem, reduceIte, Nat.reduceEqDiff, Nat.reduceAdd, Nat.reduceMul, Nat.reduceSub, Nat.reduceLeDiff, Nat.reduceLT, Nat.reduceBEq, reduceCtorEq, Net.cells, e27, neg_one]
    simp [placedR, hf, noPlace]
  | some i =>
    obtain ⟨l, hl, hlt, hmem⟩ := findL_at hf
    have hlo : lnOf n.lines s = l := by unfold lnOf; rw [hf]; simp [hl]
    have hfit := hn.2 l hmem
    have hr := map_at (f := Ln.row) hl
    simp only [Net.cells, i64, findI, hf] at e27
    simp only [Ln.row] at hr
    rcases Classical.propComplete (piece < 0) with c1 | c1
    · simp only [go_sem, reduceIte, Nat.reduceEqDiff, Nat.reduceAdd, Nat.reduceMul, Nat.reduceSub, Nat.reduceLeDiff, Nat.reduceLT, Nat.reduceBEq, reduceCtorEq, Net.cells, e27, neg_cast, List.length_map, hlt, hr, c1]
      simp [placedR, hf, hlo, c1, noPlace]
    obtain ⟨k, rfl⟩ : ∃ k : Nat, piece = k := ⟨piece.toNat, by have := of_eq_false c1; omega⟩
    by_cases c2 : k < l.ps.length
    case neg =>
      simp only [go_sem, reduceIte, Nat.reduceEqDiff, Nat.reduceAdd, Nat.reduceMul, Nat.reduceSub, Nat.reduceLeDiff, Nat.reduceLT, Nat.reduceBEq, reduceCtorEq, Net.cells, Ln.row, e27, neg_cast, List.length_map, hlt, hr, c2]
      simp [placedR, hf, hlo, c2, noPlace]
    have e107 := pe107 (l, k, post) ⟨hfit, c2⟩
    simp only [Ln.row, i64] at e107
    generalize hE : metreOfI l k post = E at e107
    rcases Classical.propComplete (post < 0) with c3 | c3 <;> rcases Classical.propComplete (9999999 < post) with c4 | c4 <;> rcases Classical.propComplete (E < 0) with c5 | c5 <;> simp only [go_sem, reduceIte, Nat.reduceEqDiff, Nat.reduceAdd, Nat.reduceMul, Nat.reduceSub, Nat.reduceLeDiff, Nat.reduceLT, Nat.reduceBEq, reduceCtorEq, Net.cells, Ln.row, e27, neg_cast, List.length_map, hlt, hr, c2, c3, c4, e107, c5] <;> simp [placedR, hf, hlo, c2, c3, c4, c5, hE, noPlace]

end Go.Sim

/-
The law: what it takes for short.
-/
namespace Go.Sim
open Go Go.Proofs
set_option maxRecDepth 100000
set_option maxHeartbeats 8000000

def shortLn (l : Ln) : Bool := shortB l.name && !decide ((9 : Int) < l.ps.length)
def shortSw (s : Sw) : Bool := shortB s.name && shortB s.line && shortB s.other
def shortSt (s : Stc) : Bool := shortB s.name && shortB s.kind && shortB s.line
def shortN (n : Net) : Bool := !(decide ((9 : Int) < n.lines.length) || decide ((9 : Int) < n.sws.length) || decide ((17 : Int) < n.sts.length)) && n.lines.all shortLn && n.sws.all shortSw && n.sts.all shortSt

theorem all_false {α : Type} {f : α → Bool} {l : List α} {k : Nat} {x : α} (h : l[k]? = some x) (hf : f x = false) : l.all f = false := by
  rw [List.all_eq_false]; exact ⟨x, List.mem_of_getElem? h, by simp [hf]⟩
theorem all_true {α : Type} {f : α → Bool} {l : List α} (h : ∀ (j : Nat) x, j < l.length → l[j]? = some x → f x = true) : l.all f = true := by
  rw [List.all_eq_true]
  intro x hx
  obtain ⟨j, hj⟩ := List.mem_iff_getElem?.1 hx
  exact h j x (List.getElem?_eq_some_iff.1 hj).1 hj

theorem c17 (n : Net) : ∀ lo H, CallOk NC lo 17 [.agg n.cells] H (.bool (shortN n)) H := by
  refine contract saneNC primsN (fn := Tryz.f17) (by kernel_rfl) Tryz.func17 rfl rfl (by rfl) (by rfl) ?_
  rcases Classical.propComplete ((9 : Int) < n.lines.length) with q1 | q1
  · simp only [go_sem, reduceIte, Nat.reduceEqDiff, Nat.reduceAdd, Nat.reduceMul, Nat.reduceSub, Nat.reduceLeDiff, Nat.reduceLT, Nat.reduceBEq, reduceCtorEq, Net.cells, List.length_map, q1]
    simp [shortN, q1]
  rcases Classical.propComplete ((9 : Int) < n.sws.length) with q2 | q2
  · simp only [go_sem, reduceIte, Nat.reduceEqDiff, Nat.reduceAdd, Nat.reduceMul, Nat.reduceSub, Nat.reduceLeDiff, Nat.reduceLT, Nat.reduceBEq, reduceCtorEq, Net.cells, List.length_map, q1, q2]
    simp [shortN, q1, q2]
  rcases Classical.propComplete ((17 : Int) < n.sts.length) with q3 | q3
  · simp only [go_sem, reduceIte, Nat.reduceEqDiff, Nat.reduceAdd, Nat.reduceMul, Nat.reduceSub, Nat.reduceLeDiff, Nat.reduceLT, Nat.reduceBEq, reduceCtorEq, Net.cells, List.length_map, q1, q2, q3]
    simp [shortN, q1, q2, q3]
  have z1 : n.lines.length ≤ maxRows := by have := of_eq_false q1; unfold maxRows; omega
  have z2 : n.sws.length ≤ maxRows := by have := of_eq_false q2; unfold maxRows; omega
  have z3 : n.sts.length ≤ maxRows := by have := of_eq_false q3; unfold maxRows; omega
  have hsp : shortN n = (n.lines.all shortLn && n.sws.all shortSw && n.sts.all shortSt) := by simp [shortN, q1, q2, q3]
  rw [hsp]
  simp only [go_sem, reduceIte, Nat.reduceEqDiff, Nat.reduceAdd, Nat.reduceMul, Nat.reduceSub, Nat.reduceLeDiff, Nat.reduceLT, Nat.reduceBEq, reduceCtorEq, Net.cells, List.length_map, q1, q2, q3]
  refine W_for (fun k T H M => M = [] ∧ getT T 1 = .ptr 0 0 ∧ getT T 3 = i64 k ∧ H.get 0 = .cells n.cells 26 ∧ 0 < H.n ∧ ∀ (j : Nat) x, j < k → n.lines[j]? = some x → shortLn x = true) n.lines.length ?_ ?_ ?_
  · simp only [go_sem, reduceIte, Nat.reduceEqDiff, Nat.reduceAdd, Nat.reduceMul, Nat.reduceSub, Nat.reduceLeDiff, Nat.reduceLT, Nat.reduceBEq, reduceCtorEq, Net.cells]; exact fun j x hj => by omega
  · rintro k T H M hk ⟨rfl, g1, g3, h0, hn, hall⟩
    obtain ⟨l, hp⟩ : ∃ p, n.lines[k]? = some p := ⟨n.lines[k], by simp⟩
    have hr := map_at (f := Ln.row) hp
    have hw := wrap_succ hk z1
    simp only [Ln.row] at hr
    cases d1 : shortB l.name <;> rcases Classical.propComplete ((9 : Int) < l.ps.length) with d2 | d2 <;> simp only [go_sem, reduceIte, Nat.reduceEqDiff, Nat.reduceAdd, Nat.reduceMul, Nat.reduceSub, Nat.reduceLeDiff, Nat.reduceLT, Nat.reduceBEq, reduceCtorEq, g1, g3, h0, Net.cells, List.length_map, hk, hr, hw, e97, d1, d2]
    case true.inr =>
      refine ⟨hn, fun j x hj hx => ?_⟩
      by_cases e : j = k
      · subst e; rw [hp] at hx; cases hx; simp [shortLn, d1, d2]
      · exact hall j x (by omega) hx
    all_goals rw [all_false hp (by simp [shortLn, d1, d2])]; try rfl
  rintro T H M ⟨rfl, g1, g3, h0, hn, hall⟩
  rw [all_true hall]
  simp only [go_sem, reduceIte, Nat.reduceEqDiff, Nat.reduceAdd, Nat.reduceMul, Nat.reduceSub, Nat.reduceLeDiff, Nat.reduceLT, Nat.reduceBEq, reduceCtorEq, g1, g3, h0, Net.cells, List.length_map, Nat.lt_irrefl]
  refine W_for (fun k T H M => M = [] ∧ getT T 1 = .ptr 0 0 ∧ getT T 4 = i64 k ∧ H.get 0 = .cells n.cells 26 ∧ 0 < H.n ∧ ∀ (j : Nat) x, j < k → n.sws[j]? = some x → shortSw x = true) n.sws.length ?_ ?_ ?_
  · simp only [go_sem, reduceIte, Nat.reduceEqDiff, Nat.reduceAdd, Nat.reduceMul, Nat.reduceSub, Nat.reduceLeDiff, Nat.reduceLT, Nat.reduceBEq, reduceCtorEq, g1, h0, Net.cells]; exact ⟨hn, fun j x hj => by omega⟩
  · rintro k T H M hk ⟨rfl, g1, g3, h0, hn, hall⟩
    obtain ⟨l, hp⟩ : ∃ p, n.sws[k]? = some p := ⟨n.sws[k], by simp⟩
    have hr := map_at (f := Sw.row) hp
    have hw := wrap_succ hk z2
    have b0 : (0 = H.n) = False := by simp; omega
    simp only [Sw.row] at hr
    cases d1 : shortB l.name <;> cases d2 : shortB l.line <;> cases d3 : shortB l.other <;> simp only [go_sem, reduceIte, Nat.reduceEqDiff, Nat.reduceAdd, Nat.reduceMul, Nat.reduceSub, Nat.reduceLeDiff, Nat.reduceLT, Nat.reduceBEq, reduceCtorEq, g1, g3, h0, b0, Net.cells, List.length_map, hk, hr, hw, e97, d1, d2, d3]
    case true.true.true =>
      refine ⟨by omega, fun j x hj hx => ?_⟩
      by_cases e : j = k
      · subst e; rw [hp] at hx; cases hx; simp [shortSw, d1, d2, d3]
      · exact hall j x (by omega) hx
    all_goals rw [all_false hp (by simp [shortSw, d1, d2, d3])]; try rfl
  rintro T H M ⟨rfl, g1, g3, h0, hn, hall⟩
  rw [all_true hall]
  simp only [go_sem, reduceIte, Nat.reduceEqDiff, Nat.reduceAdd, Nat.reduceMul, Nat.reduceSub, Nat.reduceLeDiff, Nat.reduceLT, Nat.reduceBEq, reduceCtorEq, g1, g3, h0, Net.cells, List.length_map, Nat.lt_irrefl]
  refine W_for (fun k T H M => M = [] ∧ getT T 1 = .ptr 0 0 ∧ getT T 6 = i64 k ∧ H.get 0 = .cells n.cells 26 ∧ 0 < H.n ∧ ∀ (j : Nat) x, j < k → n.sts[j]? = some x → shortSt x = true) n.sts.length ?_ ?_ ?_
  · simp only [go_sem, reduceIte, Nat.reduceEqDiff, Nat.reduceAdd, Nat.reduceMul, Nat.reduceSub, Nat.reduceLeDiff, Nat.reduceLT, Nat.reduceBEq, reduceCtorEq, g1, h0, Net.cells]; exact ⟨hn, fun j x hj => by omega⟩
  · rintro k T H M hk ⟨rfl, g1, g3, h0, hn, hall⟩
    obtain ⟨l, hp⟩ : ∃ p, n.sts[k]? = some p := ⟨n.sts[k], by simp⟩
    have hr := map_at (f := Stc.row) hp
    have hw := wrap_succ hk z3
    have b0 : (0 = H.n) = False := by simp; omega
    simp only [Stc.row] at hr
    cases d1 : shortB l.name <;> cases d2 : shortB l.kind <;> cases d3 : shortB l.line <;> simp only [go_sem, reduceIte, Nat.reduceEqDiff, Nat.reduceAdd, Nat.reduceMul, Nat.reduceSub, Nat.reduceLeDiff, Nat.reduceLT, Nat.reduceBEq, reduceCtorEq, g1, g3, h0, b0, Net.cells, List.length_map, hk, hr, hw, e97, d1, d2, d3]
    case true.true.true =>
      refine ⟨by omega, fun j x hj hx => ?_⟩
      by_cases e : j = k
      · subst e; rw [hp] at hx; cases hx; simp [shortSt, d1, d2, d3]
      · exact hall j x (by omega) hx
    all_goals rw [all_false hp (by simp [shortSt, d1, d2, d3])]; try rfl
  rintro T H M ⟨rfl, g1, g3, h0, hn, hall⟩
  rw [all_true hall]
  simp only [go_sem, reduceIte, Nat.reduceEqDiff, Nat.reduceAdd, Nat.reduceMul, Nat.reduceSub, Nat.reduceLeDiff, Nat.reduceLT, Nat.reduceBEq, reduceCtorEq, g1, g3, h0, Net.cells, List.length_map, Nat.lt_irrefl]

end Go.Sim
