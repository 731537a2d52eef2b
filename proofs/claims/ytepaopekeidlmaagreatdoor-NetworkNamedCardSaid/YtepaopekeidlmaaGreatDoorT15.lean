/-
The parts NetN2, NetFacts2, NetI1, NetW2, NetW4, NetW6, NetN3 of one proof, joined: each begins with a remark that says what it shows.
-/
import Derived.Test.YtepaopekeidlmaaGreatDoorT14
set_option linter.unusedSimpArgs false
set_option linter.unusedVariables false

/-
The plain law: each metre of a valid line has one address, and it names this metre alone.
-/
namespace Go.Sim
open Go
def postE (p : Pc) (i : Int) : Int := if p.back then p.post - i else p.post + i
structure Ln.Fine (l : Ln) : Prop where
  good : l.Good
  most : ∀ p ∈ l.ps, ∀ i : Int, 0 ≤ i → i < p.len → 0 ≤ postE p i ∧ postE p i ≤ 9999999
theorem line_fine {n : Net} (h : netR n = 0) {i : Nat} {l : Ln} (hl : n.lines[i]? = some l) : l.Fine := by
  have hg := line_good h hl
  refine ⟨hg, fun p hpm i h0 h1 => ?_⟩
  have hz := allR_zero (netR_lines h) (List.getElem?_eq_some_iff.1 hl).1
  unfold lineR at hz
  simp only [hl] at hz
  split at hz
  · have hp := firstI_zero hz
    have h2 := hp (pieceR p) (List.mem_map.2 ⟨p, hpm, rfl⟩)
    have hgp := hg.piece p hpm
    unfold pieceR at h2
    simp only [] at h2
    split at h2
    · have hlast : 0 ≤ postE p (p.len - 1) ∧ postE p (p.len - 1) ≤ 9999999 := by
        have e0 : Int.sub p.len 1 = p.len - 1 := rfl
        rw [e0, wrap_small (x := p.len - 1) (by omega) (by omega)] at h2
        have hpe : postI p (p.len - 1) = postE p (p.len - 1) := by
          unfold postI postE
          split
          · rw [wrap_small (by omega) (by omega)]
          · rw [wrap_small (by omega) (by omega)]
        rw [hpe] at h2
        unfold whenI at h2
        split at h2
        · cases h2
        · rename_i hc
          simp only [Bool.or_eq_true, decide_eq_true_eq, not_or] at hc
          omega
      unfold postE at hlast ⊢
      split <;> rename_i hb <;> simp only [hb, if_true, Bool.false_eq_true, if_false] at hlast <;> omega
    · rename_i he; exact absurd h2 he
  · rename_i he; exact absurd hz he
theorem line_found {n : Net} (h : netR n = 0) {i : Nat} {l : Ln} (hl : n.lines[i]? = some l) : findL n.lines l.name = some i := by
  have hz := allR_zero (netR_lines h) (List.getElem?_eq_some_iff.1 hl).1
  unfold lineR at hz
  simp only [hl] at hz
  split at hz
  · rename_i he
    have hd := firstI_zero he (whenI (decide (findI n.lines l.name < i)) 9) (by simp)
    have hlt : ¬ (findI n.lines l.name < i) := by
      intro hc; rw [decide_eq_true hc] at hd; simp [whenI] at hd
    unfold findI at hlt
    cases hf : findL n.lines l.name with
    | none => rw [hf] at hlt; exfalso; simp only at hlt; omega
    | some k =>
      rw [hf] at hlt
      simp only at hlt
      have hki : i ≤ k := by omega
      unfold findL at hf
      rw [List.findIdx?_eq_some_iff_getElem] at hf
      obtain ⟨hk, _, hmin⟩ := hf
      by_cases e : k = i
      · rw [e]
      · have := hmin i (by omega)
        rw [(List.getElem?_eq_some_iff.1 hl).2] at this
        exact absurd (beqL_self l.name) (by simpa using this)
  · rename_i he; exact absurd hz he
variable {l : Ln}
theorem beg_zero (l : Ln) : begI l 0 = 0 := by unfold begI; simp [sumW]
theorem addr_of (hf : l.Fine) {m : Int} (h0 : 0 ≤ m) (h1 : m < sumW l.ps 0) : ∃ k p, l.ps[k]? = some p ∧ k < l.ps.length ∧ begI l k ≤ m ∧ m < begI l k + p.len ∧ addrK l m l.ps.length = ((k : Int), postE p (m - begI l k)) ∧ 0 ≤ postE p (m - begI l k) ∧ postE p (m - begI l k) ≤ 9999999 := by
  have hg := hf.good
  rw [← begI_all] at h1
  obtain ⟨k, p, hk, hp, c1, c2, he⟩ := (addrK_at hg h0 l.ps.length (Nat.le_refl _)).2 h1
  have hstep := beg_step hg hp
  have hb := beg_bound hg k (by omega)
  have hgp := hg.piece p (List.mem_of_getElem? hp)
  have h8 := hg.few
  have hm := hf.most p (List.mem_of_getElem? hp) (m - begI l k) (by omega) (by omega)
  refine ⟨k, p, hp, hk, c1, by omega, ?_, hm⟩
  rw [he]
  have e : Int.sub m (begI l k) = m - begI l k := rfl
  rw [e, post_same (p := p) (x := m - begI l k) (by omega), wrap_small (x := m - begI l k) (by omega) (by omega)]
  congr 1
  unfold postI postE
  split
  · rw [wrap_small (by omega) (by omega)]
  · rw [wrap_small (by omega) (by omega)]
theorem piece_uniq (hf : l.Fine) {k k' : Nat} {p p' : Pc} {m : Int} (hp : l.ps[k]? = some p) (hp' : l.ps[k']? = some p') (h1 : begI l k ≤ m) (h2 : m < begI l k + p.len) (h3 : begI l k' ≤ m) (h4 : m < begI l k' + p'.len) : k = k' := by
  have hg := hf.good
  have s1 := beg_step hg hp
  have s2 := beg_step hg hp'
  have l1 := (List.getElem?_eq_some_iff.1 hp).1
  have l2 := (List.getElem?_eq_some_iff.1 hp').1
  rcases Nat.lt_trichotomy k k' with h | h | h
  · have := beg_mono hg (j := k + 1) (k := k') (by omega) (by omega)
    omega
  · exact h
  · have := beg_mono hg (j := k' + 1) (k := k) (by omega) (by omega)
    omega
theorem offI_postE {p : Pc} {i : Int} (hi : 0 ≤ i ∧ i ≤ 100000) (hp : 0 ≤ p.post ∧ p.post ≤ 9999999) (hq : 0 ≤ postE p i ∧ postE p i ≤ 9999999) : offI p (postE p i) = i := by
  unfold offI
  unfold postE at hq ⊢
  cases p.back with
  | true =>
    simp only [if_true] at hq ⊢
    have e : Int.sub p.post (p.post - i) = i := by show p.post - (p.post - i) = i; omega
    rw [e, wrap_small (by omega) (by omega)]
  | false =>
    simp only [Bool.false_eq_true, if_false] at hq ⊢
    have e : Int.sub (p.post + i) p.post = i := by show p.post + i - p.post = i; omega
    rw [e, wrap_small (by omega) (by omega)]
theorem postE_offI {p : Pc} {P : Int} (hp : 0 ≤ p.post ∧ p.post ≤ 9999999) (hP : 0 ≤ P ∧ P ≤ 9999999) : postE p (offI p P) = P := by
  unfold offI postE
  have e : Int.sub P p.post = P - p.post := rfl
  have e' : Int.sub p.post P = p.post - P := rfl
  cases p.back with
  | true => simp only [if_true]; rw [e', wrap_small (by omega) (by omega)]; omega
  | false => simp only [Bool.false_eq_true, if_false]; rw [e, wrap_small (by omega) (by omega)]; omega
theorem metreB_iff {p : Pc} {P : Int} (hp : 0 ≤ p.post ∧ p.post ≤ 9999999) (hP : 0 ≤ P ∧ P ≤ 9999999) : metreB p P = true ↔ 0 ≤ offI p P ∧ offI p P < p.len := by
  unfold metreB
  rw [off_same hp hP]
  simp only [Bool.and_eq_true, Bool.not_eq_true', decide_eq_true_eq, decide_eq_false_iff_not]
  omega
theorem placed_back {n : Net} {j : Nat} (hz : netR n = 0) (hl : n.lines[j]? = some l) {m : Int} (h0 : 0 ≤ m) (h1 : m < sumW l.ps 0) :
    placedP n l.name (addrK l m l.ps.length).1 (addrK l m l.ps.length).2 = [.agg [.str l.name, i64 m], i64 0] := by
  have hf := line_fine hz hl
  have hg := hf.good
  obtain ⟨k, p, hp, hk, c1, c2, he, hq⟩ := addr_of hf h0 h1
  have hfl := line_found hz hl
  have hlo : lnOf n.lines l.name = l := by unfold lnOf; rw [hfl]; simp [hl]
  have hlb : lnB n.lines l.name = true := by unfold lnB; rw [hfl]; rfl
  have hgp := hg.piece p (List.mem_of_getElem? hp)
  have h8 := hg.few
  have hb := beg_bound hg k (by omega)
  rw [he]
  unfold placedP
  simp only [hlo, hlb, Bool.not_true, whenI_false, firstI_cons, firstI_nil, if_true]
  have hk0 : ¬ ((k : Int) < 0) := by omega
  have hk1 : (k : Int) < (l.ps.length : Nat) := by omega
  have hr : rangeI (postE p (m - begI l k)) 0 9999999 = 0 := by
    unfold rangeI whenI
    have a : ¬ (postE p (m - begI l k) < 0) := by omega
    have b : ¬ (9999999 < postE p (m - begI l k)) := by omega
    simp [a, b]
  simp only [hk0, hk1, decide_false, decide_true, Bool.not_true, Bool.or_self, whenI_false, if_true, hr]
  have hoff := offI_postE (p := p) (i := m - begI l k) (by omega) ⟨hgp.2.2.1, hgp.2.2.2⟩ hq
  have hmb : metreB p (postE p (m - begI l k)) = true := by
    rw [metreB_iff ⟨hgp.2.2.1, hgp.2.2.2⟩ hq, hoff]; omega
  have hmi : metreI p (postE p (m - begI l k)) = m - begI l k := by rw [off_same ⟨hgp.2.2.1, hgp.2.2.2⟩ hq, hoff]
  rw [placedV_hit hp hmb rfl, hmi]
  have e : Int.add (begI l k) (m - begI l k) = m := by show begI l k + (m - begI l k) = m; omega
  have := sum_bound hg
  rw [e, wrap_small (by omega) (by omega)]
theorem addr_inj {n : Net} {j : Nat} (hz : netR n = 0) (hl : n.lines[j]? = some l) {m m' : Int} (h0 : 0 ≤ m) (h1 : m < sumW l.ps 0) (h2 : 0 ≤ m') (h3 : m' < sumW l.ps 0) (he : addrK l m l.ps.length = addrK l m' l.ps.length) : m = m' := by
  have a := placed_back hz hl h0 h1
  have b := placed_back hz hl h2 h3
  rw [he, b] at a
  simp only [List.cons.injEq, AV.agg.injEq, AV.int.injEq, true_and, and_true] at a
  exact a.symm
theorem addr_next (hf : l.Fine) {m : Int} (h0 : 0 < m) (h1 : m < sumW l.ps 0) {k : Nat} {p : Pc} (hp : l.ps[k]? = some p) (c1 : begI l k ≤ m) (c2 : m < begI l k + p.len) :
    (addrK l (m - 1) l.ps.length = ((k : Int), postE p (m - begI l k - 1)) ∧ begI l k ≤ m - 1) ∨ (m = begI l k ∧ ∃ k', k = k' + 1 ∧ (addrK l (m - 1) l.ps.length).1 = (k' : Int)) := by
  have hg := hf.good
  obtain ⟨k', p', hp', hk', d1, d2, he, hq⟩ := addr_of hf (m := m - 1) (by omega) (by omega)
  have hkl := (List.getElem?_eq_some_iff.1 hp).1
  by_cases c : begI l k ≤ m - 1
  · left
    have : k' = k := piece_uniq hf hp' hp d1 d2 c (by omega)
    subst this
    rw [hp] at hp'; cases hp'
    refine ⟨?_, c⟩
    rw [he]
    have e : m - 1 - begI l k' = m - begI l k' - 1 := by omega
    rw [e]
  · right
    have hm : m = begI l k := by omega
    refine ⟨hm, k', ?_, by rw [he]⟩
    have s1 := beg_step hg hp
    have s2 := beg_step hg hp'
    rcases Nat.lt_trichotomy k (k' + 1) with h | h | h
    · have := beg_mono hg (j := k) (k := k') (by omega) (by omega)
      omega
    · exact h
    · have a := beg_mono hg (j := k' + 1 + 1) (k := k) (by omega) (by omega)
      obtain ⟨q, hq2⟩ : ∃ q, l.ps[k' + 1]? = some q := ⟨l.ps[k' + 1]'(by omega), by simp⟩
      have s3 := beg_step hg hq2
      have hqq := hg.piece q (List.mem_of_getElem? hq2)
      omega
/-! ### Counting -/
theorem count_one (f : Nat → Bool) (o : Int) : ∀ (L : Nat), (∀ i : Nat, i < L → (f i = true ↔ (i : Int) = o)) → (List.range L).countP f = if 0 ≤ o ∧ o < L then 1 else 0
  | 0, _ => by
    have : ¬ (0 ≤ o ∧ o < ((0 : Nat) : Int)) := by omega
    rw [if_neg this]; rfl
  | L + 1, h => by
    rw [List.range_succ, List.countP_append, count_one f o L fun i hi => h i (by omega)]
    simp only [List.countP_cons, List.countP_nil, Nat.zero_add]
    have hL := h L (by omega)
    by_cases c : (L : Int) = o
    · have hf : f L = true := hL.2 c
      have a : ¬ (0 ≤ o ∧ o < (L : Int)) := by omega
      have b : 0 ≤ o ∧ o < ((L + 1 : Nat) : Int) := by omega
      rw [hf, if_neg a, if_pos rfl, if_pos b]
    · have hf : f L = false := by
        cases hb : f L with
        | false => rfl
        | true => exact absurd (hL.1 hb) c
      rw [hf]
      by_cases d : 0 ≤ o ∧ o < (L : Int)
      · have b : 0 ≤ o ∧ o < ((L + 1 : Nat) : Int) := by omega
        rw [if_pos d, if_neg (by simp), if_pos b]
      · have b : ¬ (0 ≤ o ∧ o < ((L + 1 : Nat) : Int)) := by omega
        rw [if_neg d, if_neg (by simp), if_neg b]
theorem count_shift (f : Nat → Bool) (b L : Nat) : (List.range (b + L)).countP f = (List.range b).countP f + (List.range L).countP fun i => f (b + i) := by
  rw [List.range_add, List.countP_append, List.countP_map]; rfl
theorem count_posts (hf : l.Fine) (s : List Nat) {P : Int} (hP : 0 ≤ P ∧ P ≤ 9999999) : ∀ (k : Nat), k ≤ l.ps.length → ∀ b : Nat, (b : Int) = begI l k →
    (List.range b).countP (fun j : Nat => decide ((addrK l (j : Int) l.ps.length).2 = P)) = (postsK l s P k).length
  | 0, _, b, hb => by
    rw [beg_zero] at hb
    have : b = 0 := by omega
    subst this; rfl
  | k + 1, hk, b, hb => by
    have hg := hf.good
    obtain ⟨p, hp⟩ : ∃ p, l.ps[k]? = some p := ⟨l.ps[k], by simp⟩
    have hst := beg_step hg hp
    have hgp := hg.piece p (List.mem_of_getElem? hp)
    have hbk := beg_bound hg k (by omega)
    obtain ⟨a, ha⟩ : ∃ a : Nat, (a : Int) = begI l k := ⟨(begI l k).toNat, by omega⟩
    obtain ⟨L, hL⟩ : ∃ L : Nat, (L : Int) = p.len := ⟨p.len.toNat, by omega⟩
    have hab : b = a + L := by omega
    have ih := count_posts hf s hP k (by omega) a ha
    have htop := beg_mono hg (j := k + 1) (k := l.ps.length) (by omega) (Nat.le_refl _)
    rw [begI_all] at htop
    rw [hab, count_shift, ih]
    have hone := count_one (fun i => decide ((addrK l ((a + i : Nat) : Int) l.ps.length).2 = P)) (offI p P) L fun i hi => by
      obtain ⟨k', p', hp', hk', d1, d2, he, hq⟩ := addr_of hf (m := ((a + i : Nat) : Int)) (by omega) (by omega)
      have : k' = k := piece_uniq hf hp' hp d1 d2 (by omega) (by omega)
      subst this
      rw [hp] at hp'; cases hp'
      rw [he]
      have e : ((a + i : Nat) : Int) - begI l k' = (i : Int) := by omega
      rw [e] at hq ⊢
      simp only [decide_eq_true_eq]
      constructor
      · intro h
        have := offI_postE (p := p) (i := (i : Int)) (by omega) ⟨hgp.2.2.1, hgp.2.2.2⟩ hq
        rw [h] at this; exact this.symm
      · intro h
        have := postE_offI (p := p) ⟨hgp.2.2.1, hgp.2.2.2⟩ hP
        rw [← h] at this; exact this
    rw [hone]
    show _ = (postsK l s P k ++ postAt l s P k).length
    rw [List.length_append]
    congr 1
    unfold postAt
    simp only [hp]
    have hmb := metreB_iff (p := p) ⟨hgp.2.2.1, hgp.2.2.2⟩ hP
    rw [← hL] at hmb
    by_cases c : 0 ≤ offI p P ∧ offI p P < (L : Int)
    · rw [if_pos c, if_pos (hmb.2 c)]; rfl
    · rw [if_neg c, if_neg (fun h => c (hmb.1 h))]; rfl
theorem mem_posts (l : Ln) (s : List Nat) (P : Int) {a : Ad} : ∀ k, a ∈ postsK l s P k → ∃ j p, j < k ∧ l.ps[j]? = some p ∧ metreB p P = true ∧ a = (s, (j : Int), P)
  | 0, h => by cases h
  | k + 1, h => by
    have h' : a ∈ postsK l s P k ++ postAt l s P k := h
    rcases List.mem_append.1 h' with h | h
    · obtain ⟨j, p, h1, h2⟩ := mem_posts l s P k h
      exact ⟨j, p, by omega, h2⟩
    · unfold postAt at h
      cases hp : l.ps[k]? with
      | none => rw [hp] at h; cases h
      | some p =>
        rw [hp] at h
        simp only at h
        split at h
        · rename_i hb
          have : a = (s, (k : Int), P) := by simpa using h
          exact ⟨k, p, by omega, hp, hb, this⟩
        · cases h
theorem post_metre (hf : l.Fine) {k : Nat} {p : Pc} (hp : l.ps[k]? = some p) {P : Int} (hP : 0 ≤ P ∧ P ≤ 9999999) (hb : metreB p P = true) : ∃ m : Int, 0 ≤ m ∧ m < sumW l.ps 0 ∧ addrK l m l.ps.length = ((k : Int), P) := by
  have hg := hf.good
  have hgp := hg.piece p (List.mem_of_getElem? hp)
  have hkl := (List.getElem?_eq_some_iff.1 hp).1
  have hst := beg_step hg hp
  have hbk := beg_bound hg k (by omega)
  have htop := beg_mono hg (j := k + 1) (k := l.ps.length) (by omega) (Nat.le_refl _)
  rw [begI_all] at htop
  have hin := (metreB_iff ⟨hgp.2.2.1, hgp.2.2.2⟩ hP).1 hb
  refine ⟨begI l k + offI p P, by omega, by omega, ?_⟩
  obtain ⟨k', p', hp', hk', d1, d2, he, hq⟩ := addr_of hf (m := begI l k + offI p P) (by omega) (by omega)
  have : k' = k := piece_uniq hf hp' hp d1 d2 (by omega) (by omega)
  subst this
  rw [hp] at hp'; cases hp'
  rw [he]
  have e : begI l k' + offI p P - begI l k' = offI p P := by omega
  rw [e, postE_offI ⟨hgp.2.2.1, hgp.2.2.2⟩ hP]
end Go.Sim

/-
Further facts on the types and the regions of this program.
-/
namespace Go.Sim
open Go Go.Proofs
theorem un_376 : NC.P.underlying 376 = some (.int .u64) := by kernel_rfl
theorem ze_376 : zeroOf NC.P 376 = some (.int .u64 0) := by kernel_rfl
theorem sz_376 : szOf NC.P 376 = some 1 := by kernel_rfl
theorem ze_388 : zeroOf NC.P 388 = some (.agg [.int .u8 0, .int .u8 0, .int .u8 0, .int .u8 0, .int .u8 0, .int .u8 0, .int .u8 0, .int .u8 0, .int .u8 0, .int .u8 0, .int .u8 0, .int .u8 0, .int .u8 0, .int .u8 0, .int .u8 0, .int .u8 0, .int .u8 0, .int .u8 0, .int .u8 0, .int .u8 0, .int .u8 0, .int .u8 0, .int .u8 0, .int .u8 0]) := by kernel_rfl
theorem un_2 : NC.P.underlying 2 = some (.int .i64) := by kernel_rfl
theorem un_388 : NC.P.underlying 388 = some (.array 24 5) := by kernel_rfl
theorem ag_376 : aggOf NC.P 376 = some false := by kernel_rfl
attribute [go_sem] un_376 ze_376 sz_376 ze_388 un_2 un_388 ag_376
end Go.Sim

/-
Rows that lie one behind the other.
-/
namespace Go.Sim
open Go
/-! ### Small numbers -/
theorem wrap_in {n : Int} (h0 : 0 ≤ n) (h1 : n ≤ 9223372036854775807) : IntKind.wrap .i64 n = n := by
  have := wrapq_i64 (x := n) (by omega) h1
  unfold IntKind.wrap
  have h64 : ((2 : Int) ^ (IntKind.bits .i64)) = 18446744073709551616 := by decide
  have h63 : ((2 : Int) ^ (IntKind.bits .i64 - 1)) = 9223372036854775808 := by decide
  simp only [h64, h63]
  have e : n % 18446744073709551616 = n := by omega
  rw [e]
  have : ¬ (n ≥ 9223372036854775808) := by omega
  simp [this]
theorem wl01 : wrapq .i64 (Int.add 0 1) = 1 := rfl
theorem wl12 : wrapq .i64 (Int.add 1 1) = 2 := rfl
theorem cast2 : ((2 : Nat) : Int) = 2 := rfl
theorem i02 : ((0 : Int) < 2) = True := by simp
theorem i12 : ((1 : Int) < 2) = True := by simp
theorem i22 : ((2 : Int) < 2) = False := by simp
def Even (sz : Nat) (rows : List (List AV)) : Prop := ∀ r ∈ rows, r.length = sz
theorem Even.map {α : Type} {sz : Nat} {f : α → List AV} (hf : ∀ x, (f x).length = sz) (l : List α) : Even sz (l.map f) := by
  intro r hr
  obtain ⟨x, _, rfl⟩ := List.mem_map.1 hr
  exact hf x
theorem Even.set {sz : Nat} {rows : List (List AV)} (he : Even sz rows) {j : Nat} {v : List AV} (hv : v.length = sz) : Even sz (rows.set j v) := by
  intro r hr
  rcases List.mem_or_eq_of_mem_set hr with h | h
  · exact he r h
  · subst h; exact hv
end Go.Sim

/-
Ends of switches; where a switch lies on a line.
-/
namespace Go.Sim
open Go Go.Proofs
set_option maxRecDepth 100000
set_option maxHeartbeats 8000000
theorem Sw.row_iff (a b : Sw) : a.row = b.row ↔ a = b := ⟨Sw.row_inj a b, fun h => by rw [h]⟩
-- INJ Sw.row_iff Br.row_iff
structure Br where
  sw : Sw
  at' : Int
def Br.row (b : Br) : List AV := [.str b.sw.name, .str b.sw.line, i64 b.sw.metre, .str b.sw.other, .bool b.sw.last, i64 b.at']
theorem Br.row_len (b : Br) : b.row.length = 6 := rfl
theorem Br.row_inj (a b : Br) (h : a.row = b.row) : a = b := by
  obtain ⟨⟨a1, a2, a3, a4, a5⟩, a6⟩ := a
  obtain ⟨⟨b1, b2, b3, b4, b5⟩, b6⟩ := b
  simp only [Br.row, List.cons.injEq, AV.str.injEq, AV.int.injEq, AV.bool.injEq, true_and, and_true] at h
  obtain ⟨rfl, rfl, rfl, rfl, rfl, rfl⟩ := h; rfl
theorem Br.row_iff (a b : Br) : a.row = b.row ↔ a = b := ⟨Br.row_inj a b, fun h => by rw [h]⟩
theorem evalO_str0 {C : Cfg} {T : TT AV} : evalO C T (.const (.string { data := #[] })) = some (.str []) := rfl
attribute [go_sem] evalO_str0
theorem ab259 (a c : List Nat) (b d : Int) : abuild NC.P 259 [(0, .agg [.str a, .int .i64 b]), (1, .agg [.str c, .int .i64 d])] = some (.agg [.str a, .int .i64 b, .str c, .int .i64 d]) := by kernel_rfl
theorem ab137 (a c : List Nat) (b d : Int) : abuild NC.P 137 [(0, .agg [.str a, .int .i64 b]), (1, .agg [.str c, .int .i64 d])] = some (.agg [.str a, .int .i64 b, .str c, .int .i64 d]) := by kernel_rfl
attribute [go_sem] ab259 ab137
end Go.Sim

/-
Branches, by the program.
-/
-- INJ Sw.row_iff Br.row_iff
namespace Go.Sim
open Go Go.Proofs
set_option maxRecDepth 100000
set_option maxHeartbeats 16000000
variable {P : FuncId → Option (List AV → Option AV)}
def RAp (H : Heap) (v : AV) (rows : List (List AV)) (sz : Nat) (e : TypeId) : Prop := (v = .ps .nil [] ∧ rows = []) ∨ ∃ id, v = .rs id 0 rows.length sz none ∧ rows ≠ [] ∧ id < H.n ∧ H.get id = .row rows.flatten sz e
theorem RAp.fresh {H : Heap} {v : AV} {rows : List (List AV)} {sz : Nat} {e : TypeId} (h : RAp H v rows sz e) (b c : ABlk) {i : Nat} (hi : i = H.n) : RAp ((H.push b).set i c) v rows sz e := by
  subst hi
  rcases h with h | ⟨j, h1, h2, h3, h4⟩
  · exact .inl h
  · exact .inr ⟨j, h1, h2, by simp; omega, by rw [Heap.get_set, if_neg (by omega), Heap.get_push, if_neg (by omega)]; exact h4⟩
end Go.Sim

/-
The plain law: branches are the same; posts are the same.
-/
namespace Go.Sim
open Go
theorem line_pos {n : Net} (h : netR n = 0) {i : Nat} {l : Ln} (hl : n.lines[i]? = some l) : 1 ≤ sumW l.ps 0 := by
  have hz := allR_zero (netR_lines h) (List.getElem?_eq_some_iff.1 hl).1
  unfold lineR at hz
  simp only [hl] at hz
  split at hz
  · rename_i he
    have h0 := firstI_zero he (whenI (decide ((l.ps.length : Int) = 0)) 12) (by simp)
    have hne : 0 < l.ps.length := by
      cases hc : l.ps.length with
      | zero => rw [hc] at h0; simp [whenI] at h0
      | succ k => omega
    have hg := line_good h hl
    have hp : l.ps[0]? = some l.ps[0] := List.getElem?_eq_getElem hne
    have hs := beg_step hg hp
    have hpc := hg.piece l.ps[0] (List.mem_of_getElem? hp)
    have hm := beg_mono hg (j := 0 + 1) (k := l.ps.length) (by omega) (Nat.le_refl _)
    rw [begI_all] at hm
    rw [beg_zero] at hs
    omega
  · rename_i he; exact absurd hz he
end Go.Sim

/-
The law: NetworkNamed returns true.
-/
namespace Go.Sim
open Go Go.Proofs
set_option maxRecDepth 100000
set_option maxHeartbeats 60000000
def adI (l : Ln) (i : Int) : Ad := (l.name, (addrK l i l.ps.length).1, (addrK l i l.ps.length).2)
def addrs (l : Ln) (m : Nat) : List Ad := (List.range m).map fun i : Nat => adI l (i : Int)
theorem addrs_succ (l : Ln) (m : Nat) : addrs l (m + 1) = addrs l m ++ [adI l (m : Int)] := by
  unfold addrs
  rw [List.range_succ, List.map_append]; rfl
theorem addrs_not {n : Net} {k : Nat} {l : Ln} (hz : netR n = 0) (hl : n.lines[k]? = some l) {m : Nat} (hm : (m : Int) < sumW l.ps 0) : (addrs l m).any (adB (adI l (m : Int))) = false := by
  rw [List.any_eq_false]
  intro a ha hb
  obtain ⟨i, hi, rfl⟩ := List.mem_map.1 ha
  have hi : i < m := by simpa using hi
  have he := (adB_iff _ _).1 hb
  unfold adI at he
  have h2 := Prod.mk.inj (Prod.mk.inj he).2
  have := addr_inj hz hl (m := (m : Int)) (m' := (i : Int)) (by omega) hm (by omega) (by omega) (Prod.ext h2.1 h2.2)
  omega
theorem addrs_has {l : Ln} {a : Ad} {L : Nat} (h : ∃ m : Int, 0 ≤ m ∧ m < L ∧ a = adI l m) : (addrs l L).any (adB a) = true := by
  obtain ⟨m, h0, h1, rfl⟩ := h
  rw [List.any_eq_true]
  refine ⟨adI l m, List.mem_map.2 ⟨m.toNat, by simp; omega, ?_⟩, (adB_iff _ _).2 rfl⟩
  have : ((m.toNat : Nat) : Int) = m := by omega
  rw [this]
def cntK (l : Ln) (P : Int) (m : Nat) : Nat := (List.range m).countP fun j : Nat => decide ((addrK l (j : Int) l.ps.length).2 = P)
theorem cntK_succ (l : Ln) (P : Int) (m : Nat) : cntK l P (m + 1) = cntK l P m + if (addrK l (m : Int) l.ps.length).2 = P then 1 else 0 := by
  unfold cntK
  rw [List.range_succ, List.countP_append, List.countP_cons, List.countP_nil]; simp
theorem cntK_le (l : Ln) (P : Int) (m : Nat) : cntK l P m ≤ m := by
  have := List.countP_le_length (p := fun j : Nat => decide ((addrK l (j : Int) l.ps.length).2 = P)) (l := List.range m)
  unfold cntK
  simpa using this
theorem small_all {n : Net} (h : smallN n = true) : shortN n = true ∧ netR n = 0 ∧ ∀ l ∈ n.lines, sumW l.ps 0 ≤ 120 := by
  unfold smallN at h
  simp only [Bool.and_eq_true, Bool.not_eq_true', decide_eq_true_eq, decide_eq_false_iff_not, List.all_eq_true] at h
  exact ⟨h.1, h.2.1.1.1.1, fun l hl => by have := h.2.2 l hl; omega⟩
theorem aeq45 (a : List Nat) (b : Int) : aeqT NC.P 100 45 (.agg [.str a, .int .i64 b]) (.agg [.str a, .int .i64 b]) = some true := by
  have h : aeqT NC.P 100 45 (.agg [.str a, .int .i64 b]) (.agg [.str a, .int .i64 b]) =
    (match some (beqL a a) with
    | some true => (match some (eqI b b) with
      | some true => some true
      | some false => some false
      | none => none)
    | some false => some false
    | none => none) := by kernel_rfl
  rw [h, beqL_self, eqI_self]
theorem ety45 : eqType NC.P 100 45 = true := by kernel_rfl
theorem conv_u16 {n : Int} (h0 : 0 ≤ n) (h1 : n ≤ 65535) : aconv NC.P 94 3 (.int .u16 n) = some (.int .i64 n) := by
  have e : aconv NC.P 94 3 (.int .u16 n) = some (.int .i64 (IntKind.wrap .i64 n)) := by kernel_rfl
  rw [e, wrap_in h0 (by omega)]
noncomputable def PPF6 : FuncId → Option (List AV → Option AV) := addPrim 51 p51 (addPrim 21 p21 (addPrim 20 p20 (addPrim 26 p26 (addPrim 18 p18 (addPrim 19 p19 (addPrim 31 p31 (addPrim 16 p16 (fun _ => none))))))))
theorem primsF6 : PrimsOk NC PPF6 := primsOk_add (primsOk_add (primsOk_add (primsOk_add (primsOk_add (primsOk_add (primsOk_add (primsOk_add (primsOk_none) (by kernel_rfl) (by kernel_rfl) pok16) (by kernel_rfl) (by kernel_rfl) pok31) (by kernel_rfl) (by kernel_rfl) pok19) (by kernel_rfl) (by kernel_rfl) pok18) (by kernel_rfl) (by kernel_rfl) pok26) (by kernel_rfl) (by kernel_rfl) pok20) (by kernel_rfl) (by kernel_rfl) pok21) (by kernel_rfl) (by kernel_rfl) pok51
theorem enF6_16 {rec : Rec} {lo : Nat} {args : List AV} {H : Heap} {K : AV → Heap → Prop} : VO (aenter (NC.withPrims PPF6) rec lo 16 args H) K = AO (p16 args) fun v => K v H := enter_prim (by rfl) (by kernel_rfl)
theorem enF6_31 {rec : Rec} {lo : Nat} {args : List AV} {H : Heap} {K : AV → Heap → Prop} : VO (aenter (NC.withPrims PPF6) rec lo 31 args H) K = AO (p31 args) fun v => K v H := enter_prim (by rfl) (by kernel_rfl)
theorem enF6_19 {rec : Rec} {lo : Nat} {args : List AV} {H : Heap} {K : AV → Heap → Prop} : VO (aenter (NC.withPrims PPF6) rec lo 19 args H) K = AO (p19 args) fun v => K v H := enter_prim (by rfl) (by kernel_rfl)
theorem enF6_18 {rec : Rec} {lo : Nat} {args : List AV} {H : Heap} {K : AV → Heap → Prop} : VO (aenter (NC.withPrims PPF6) rec lo 18 args H) K = AO (p18 args) fun v => K v H := enter_prim (by rfl) (by kernel_rfl)
theorem enF6_26 {rec : Rec} {lo : Nat} {args : List AV} {H : Heap} {K : AV → Heap → Prop} : VO (aenter (NC.withPrims PPF6) rec lo 26 args H) K = AO (p26 args) fun v => K v H := enter_prim (by rfl) (by kernel_rfl)
theorem enF6_20 {rec : Rec} {lo : Nat} {args : List AV} {H : Heap} {K : AV → Heap → Prop} : VO (aenter (NC.withPrims PPF6) rec lo 20 args H) K = AO (p20 args) fun v => K v H := enter_prim (by rfl) (by kernel_rfl)
theorem enF6_21 {rec : Rec} {lo : Nat} {args : List AV} {H : Heap} {K : AV → Heap → Prop} : VO (aenter (NC.withPrims PPF6) rec lo 21 args H) K = AO (p21 args) fun v => K v H := enter_prim (by rfl) (by kernel_rfl)
theorem enF6_51 {rec : Rec} {lo : Nat} {args : List AV} {H : Heap} {K : AV → Heap → Prop} : VO (aenter (NC.withPrims PPF6) rec lo 51 args H) K = AO (p51 args) fun v => K v H := enter_prim (by rfl) (by kernel_rfl)
attribute [go_sem ↓] enF6_16 enF6_31 enF6_19 enF6_18 enF6_26 enF6_20 enF6_21 enF6_51
theorem c6 (n : Net) (P : Int) (hP : 0 ≤ P ∧ P ≤ 65535) : ∀ lo H, CallOk NC lo 6 [.agg n.cells, .int .u16 P] H (.bool true) H := by
  refine contract saneNC primsF6 (fn := Tryz.f6) (by kernel_rfl) Tryz.func6 rfl rfl (by rfl) (by rfl) ?_
  have e31 := pe31 n
  simp only [Net.cells] at e31
  cases hS : smallN n with
  | false =>
    simp only [hS] at e31
    simp only [go_sem, reduceIte, Nat.reduceEqDiff, Nat.reduceAdd, Nat.reduceMul, Nat.reduceSub, Nat.reduceLeDiff, Nat.reduceLT, Nat.reduceBEq, reduceCtorEq, Net.cells, e16, e31]
  | true =>
  simp only [hS] at e31
  obtain ⟨hsh, hz, hlen⟩ := small_all hS
  have hok := short_ok hsh
  have hfit := hok.lines
  have cv := conv_u16 hP.1 hP.2
  have e19 := pe19 n ⟨hok.fits, hok.sws, hok.sts⟩
  simp only [go_sem, reduceIte, Nat.reduceEqDiff, Nat.reduceAdd, Nat.reduceMul, Nat.reduceSub, Nat.reduceLeDiff, Nat.reduceLT, Nat.reduceBEq, reduceCtorEq, Net.cells, List.length_map, e16, e31]
  refine W_for (fun k T H M => M = [] ∧ getT T 1 = .int .u16 P ∧ getT T 2 = .ptr 0 0 ∧ getT T 36 = .ps .unk (n.lines.map Ln.row) ∧ getT T 37 = i64 (n.lines.length : Nat) ∧ getT T 38 = i64 k ∧ H.get 0 = .cells n.cells 26 ∧ 0 < H.n) n.lines.length ?_ ?_ ?_
  · simp only [go_sem, reduceIte, Nat.reduceEqDiff, Nat.reduceAdd, Nat.reduceMul, Nat.reduceSub, Nat.reduceLeDiff, Nat.reduceLT, Nat.reduceBEq, reduceCtorEq, Net.cells, List.length_map]
  · rintro k T H M hk ⟨rfl, g1, g2, g36, g37, g38, h0, hn⟩
    obtain ⟨l, hl⟩ : ∃ p, n.lines[k]? = some p := ⟨n.lines[k], by simp⟩
    have hmem := List.mem_of_getElem? hl
    have hr := map_at (f := Ln.row) hl
    have hw := wrap_succ hk hfit
    have hfl := line_found hz hl
    have hlo : lnOf n.lines l.name = l := by unfold lnOf; rw [hfl]; simp [hl]
    have hlb : lnB n.lines l.name = true := by unfold lnB; rw [hfl]; rfl
    have hf := line_fine hz hl
    have hg := hf.good
    have hpos := line_pos hz hl
    have h120 := hlen l hmem
    have e18 := pe18 (n, l.name) hok
    have e26 := pe26 l (hok.line l hmem).2
    have e20 := fun m : Int => pe20 (n, l.name, m) hok
    have e21 := fun (a b : Int) => pe21 (n, l.name, a, b) hok
    have e51 : p51 [.agg n.cells, .str l.name, .int .i64 P] = some (.tup (postsP n l.name P)) := pe51 n l.name P hok
    unfold postsP postsE at e51
    have hrP : rangeI P 0 9999999 = 0 := by
      unfold rangeI whenI
      have a : ¬ (P < 0) := by omega
      have b : ¬ (9999999 < P) := by omega
      simp [a, b]
    have hpf : firstI [0, 0] = 0 := rfl
    simp only [Net.cells, Ln.row, i64, net_same, place_same, hz, if_true, hlb, hlo, hrP, Bool.not_true, whenI_false, hpf] at e18 e19 e20 e21 e26 e51 hr
    obtain ⟨L, hL⟩ : ∃ L : Nat, sumW l.ps 0 = (L : Int) := ⟨(sumW l.ps 0).toNat, by omega⟩
    rw [hL] at e18 e26 hpos h120
    have hpost : ∀ m : Nat, m < L → hasI n.lines l.name (m : Int) = 0 := fun m hm => by
      unfold hasI
      simp only [hfl, hl, hL]
      have a : ¬ ((m : Int) < 0) := by omega
      have b : (m : Int) < (L : Int) := by omega
      simp [a, b, whenI]
    have hbad : ∀ m : Int, (m < 0 ∨ (L : Int) ≤ m) → hasI n.lines l.name m = 14 := fun m hm => by
      unfold hasI
      simp only [hfl, hl, hL]
      unfold whenI
      rw [if_pos]
      simp only [Bool.or_eq_true, decide_eq_true_eq, Bool.not_eq_true', decide_eq_false_iff_not]
      omega
    have b0 : (0 = H.n) = False := by simp; omega
    have b01 : (0 = H.n + 1) = False := by simp
    have b02 : (0 = H.n + 1 + 1) = False := by simp
    have hbs := beqL_self l.name
    have LL : ((L : Int) = (L : Int)) = True := by simp
    simp only [go_sem, reduceIte, Nat.reduceEqDiff, Nat.reduceAdd, Nat.reduceMul, Nat.reduceSub, Nat.reduceLeDiff, Nat.reduceLT, Nat.reduceBEq, reduceCtorEq, Net.cells, List.length_map, g1, g2, g36, g37, g38, h0, b0, b01, b02, hk, hr, e19, e18, e26, LL]
    refine W_for (fun m T H' M => M = [] ∧ getT T 1 = .int .u16 P ∧ getT T 2 = .ptr 0 0 ∧ getT T 36 = .ps .unk (n.lines.map Ln.row) ∧ getT T 37 = i64 (n.lines.length : Nat) ∧ getT T 38 = i64 k ∧ getT T 6 = .ptr H.n 0 ∧ getT T 7 = i64 (L : Nat) ∧ getT T 9 = .map (H.n + 1) ∧ getT T 11 = .ptr (H.n + 1 + 1) 0 ∧ getT T 59 = i64 (L : Nat) ∧ getT T 60 = i64 m ∧
        getT T 10 = i64 (cntK l P m : Nat) ∧ H'.get 0 = .cells n.cells 26 ∧ H'.get H.n = .cells [.str l.name, .ps .unk (l.ps.map Pc.row)] 56 ∧ H'.get (H.n + 1) = .map (adMap (addrs l m)) ∧ H.n + 1 + 1 < H'.n ∧
        ∃ (s : List Nat) (c d : Int), H'.get (H.n + 1 + 1) = .cells [.str s, i64 c, i64 d] 42 ∧ (0 < m → (c, d) = addrK l ((m : Int) - 1) l.ps.length)) L ?_ ?_ ?_
    · simp only [go_sem, reduceIte, Nat.reduceEqDiff, Nat.reduceAdd, Nat.reduceMul, Nat.reduceSub, Nat.reduceLeDiff, Nat.reduceLT, Nat.reduceBEq, reduceCtorEq, Net.cells, List.length_map, g1, g2, g36, g37, g38, h0, b0, b01, b02]
      refine ⟨rfl, rfl, [], 0, 0, rfl, fun h => h.elim⟩
    · rintro m T H' M hm ⟨rfl, i1, i2, i36, i37, i38, i6, i7, i9, i11, i59, i60, i10, j0, jl, jm, jn, s, c, d, ja, hla⟩
      have hmL : (m : Int) < sumW l.ps 0 := by omega
      obtain ⟨kk, p, hp, hkk, c1, c2, hadd, q1, q2⟩ := addr_of hf (m := (m : Int)) (by omega) hmL
      have hgp := hg.piece p (List.mem_of_getElem? hp)
      have hpl := placed_back hz hl (m := (m : Int)) (by omega) hmL
      have ea := e20 (m : Int)
      have hpr := map_at (f := Pc.row) hp
      have hno := addrs_not hz hl hmL
      have hsucc := addrs_succ l m
      have haI : adI l (m : Int) = (l.name, ((kk : Nat) : Int), postE p ((m : Int) - begI l kk)) := by unfold adI; rw [hadd]
      have hcnt : cntK l P (m + 1) = cntK l P m + if postE p ((m : Int) - begI l kk) = P then 1 else 0 := by
        rw [cntK_succ, hadd]
      have hnx : 0 < m → (c = ((kk : Nat) : Int) ∧ postE p ((m : Int) - begI l kk) = d + (if p.back then -1 else 1)) ∨ (((kk : Nat) : Int) = c + 1 ∧ c ≠ ((kk : Nat) : Int) ∧ postE p ((m : Int) - begI l kk) = p.post) := fun h0m => by
        have hcd := hla h0m
        rcases addr_next hf (m := (m : Int)) (by omega) hmL hp c1 c2 with ⟨hx, hge⟩ | ⟨hx, k', hk', hx2⟩
        · left
          rw [hx] at hcd
          obtain ⟨rfl, rfl⟩ := Prod.mk.inj hcd
          refine ⟨rfl, ?_⟩
          unfold postE
          cases p.back <;> simp <;> omega
        · right
          have : c = ((k' : Nat) : Int) := by rw [← hx2, ← hcd]
          refine ⟨by omega, by omega, ?_⟩
          unfold postE
          cases p.back <;> simp <;> omega
      rw [hpost m hm] at ea
      simp only [hadd, if_true] at ea
      have eb := e21 ((kk : Nat) : Int) (postE p ((m : Int) - begI l kk))
      rw [hadd] at hpl
      rw [hpl] at eb
      rw [haI] at hno hsucc
      have hlk : ∀ H'' : Heap, H''.get (H.n + 1) = .map (adMap (addrs l m)) → alookup NC.P H'' 95 (.map (H.n + 1)) (.agg [.str l.name, .int .i64 ((kk : Nat) : Int), .int .i64 (postE p ((m : Int) - begI l kk))]) false = some (.bool false) := fun H'' h => by
        have := lookA h (l.name, ((kk : Nat) : Int), postE p ((m : Int) - begI l kk))
        rw [hno] at this; exact this
      have hup : ∀ H'' : Heap, H''.get (H.n + 1) = .map (adMap (addrs l m)) → amapUpdate NC.P 0 H'' 95 (.map (H.n + 1)) (.agg [.str l.name, .int .i64 ((kk : Nat) : Int), .int .i64 (postE p ((m : Int) - begI l kk))]) (.bool true) = some (H''.set (H.n + 1) (.map (adMap (addrs l (m + 1))))) := fun H'' h => by
        have := updA (lo := 0) h (Nat.zero_le _) (l.name, ((kk : Nat) : Int), postE p ((m : Int) - begI l kk)) hno
        rw [← hsucc] at this; exact this
      have hlaN : (((kk : Nat) : Int), postE p ((m : Int) - begI l kk)) = addrK l (((m + 1 : Nat) : Int) - 1) l.ps.length := by
        have e : (((m + 1 : Nat) : Int) - 1) = (m : Int) := by omega
        rw [e, hadd]
      generalize postE p ((m : Int) - begI l kk) = Q at *
      have hcle := cntK_le l P m
      generalize cntK l P m = cnt at i10 hcnt hcle
      have hcw : wrapq .i64 (Int.add ((cnt : Nat) : Int) 1) = ((cnt + 1 : Nat) : Int) := wrap_nat (n := cnt + 1) (by omega)
      have hw2 : wrapq .i64 (Int.add ((m : Nat) : Int) 1) = ((m + 1 : Nat) : Int) := wrap_nat (n := m + 1) (by omega)
      have k0 := neg_cast kk
      have Q0 : (Q < 0) = False := by simp; omega
      have Q1 : ((9999999 : Int) < Q) = False := by simp; omega
      have Qs : (Q = Q) = True := by simp
      have ks : (((kk : Nat) : Int) = ((kk : Nat) : Int)) = True := by simp
      have hlt : (m < L) = True := by simp [hm]
      have hkt : (kk < l.ps.length) = True := by simp [hkk]
      have d1 : (0 = H'.n) = False := by simp only [eq_iff_iff, iff_false]; omega
      have d2 : (0 = H'.n + 1) = False := by simp only [eq_iff_iff, iff_false]; omega
      have d3 : (0 = H'.n + 1 + 1) = False := by simp only [eq_iff_iff, iff_false]; omega
      have d4 : (H.n = H'.n) = False := by simp only [eq_iff_iff, iff_false]; omega
      have d5 : (H.n = H'.n + 1) = False := by simp only [eq_iff_iff, iff_false]; omega
      have d6 : (H.n = H'.n + 1 + 1) = False := by simp only [eq_iff_iff, iff_false]; omega
      have d7 : (H.n + 1 = H'.n) = False := by simp only [eq_iff_iff, iff_false]; omega
      have d8 : (H.n + 1 = H'.n + 1) = False := by simp only [eq_iff_iff, iff_false]; omega
      have d9 : (H.n + 1 = H'.n + 1 + 1) = False := by simp only [eq_iff_iff, iff_false]; omega
      have d10 : (H.n + 1 + 1 = H'.n) = False := by simp only [eq_iff_iff, iff_false]; omega
      have d11 : (H.n + 1 + 1 = H'.n + 1) = False := by simp only [eq_iff_iff, iff_false]; omega
      have d12 : (H.n + 1 + 1 = H'.n + 1 + 1) = False := by simp only [eq_iff_iff, iff_false]; omega
      have d13 : (H'.n = H.n) = False := by simp only [eq_iff_iff, iff_false]; omega
      have d14 : (H'.n = H.n + 1) = False := by simp only [eq_iff_iff, iff_false]; omega
      have d15 : (H'.n = H.n + 1 + 1) = False := by simp only [eq_iff_iff, iff_false]; omega
      have d16 : (H'.n + 1 = H.n) = False := by simp only [eq_iff_iff, iff_false]; omega
      have d17 : (H'.n + 1 = H.n + 1) = False := by simp only [eq_iff_iff, iff_false]; omega
      have d18 : (H'.n + 1 = H.n + 1 + 1) = False := by simp only [eq_iff_iff, iff_false]; omega
      have d19 : (H'.n + 1 + 1 = H.n) = False := by simp only [eq_iff_iff, iff_false]; omega
      have d20 : (H'.n + 1 + 1 = H.n + 1) = False := by simp only [eq_iff_iff, iff_false]; omega
      have d21 : (H'.n + 1 + 1 = H.n + 1 + 1) = False := by simp only [eq_iff_iff, iff_false]; omega
      obtain ⟨pl, pq, pb⟩ := p
      simp only [Pc.row, i64] at hpr ea eb
      simp only at hnx
      rcases Nat.eq_zero_or_pos m with hm0 | hm0
      · have pos : ((0 : Int) < (m : Int)) = False := by simp; omega
        cases pb <;> rcases Classical.propComplete (Q = P) with zq | zq <;> simp only [go_sem, reduceIte, Nat.reduceEqDiff, Nat.reduceAdd, Nat.reduceMul, Nat.reduceSub, Nat.reduceLeDiff, Nat.reduceLT, Nat.reduceBEq, reduceCtorEq, Net.cells, List.length_map, i1, i2, i36, i37, i38, i6, i7, i9, i11, i59, i60, i10, j0, jl, jm, ja, d1, d2, d3, d4, d5, d6, d7, d8, d9, d10, d11, d12, d13, d14, d15, d16, d17, d18, d19, d20, d21, hlt, hkt, e19, ea, eb, ety45, aeq45, hbs, hlk, hup, k0, Q0, Q1, hpr, pos, cv, zq, hcw, hw2]
        all_goals exact ⟨by rw [hcnt]; simp [zq], by omega, l.name, _, _, rfl, fun _ => hlaN⟩
      · have pos : ((0 : Int) < (m : Int)) = True := by simp; omega
        rcases hnx hm0 with ⟨hc, hQ⟩ | ⟨hk1, hne, hQ⟩
        · subst hc
          cases pb
          · have hst : wrapq .i64 (Int.add d 1) = Q := by
              simp only [Bool.false_eq_true, if_false] at hQ
              have e : Int.add d 1 = d + 1 := rfl
              rw [e, wrap_small (by omega) (by omega)]; omega
            rcases Classical.propComplete (Q = P) with zq | zq <;> simp only [go_sem, reduceIte, Nat.reduceEqDiff, Nat.reduceAdd, Nat.reduceMul, Nat.reduceSub, Nat.reduceLeDiff, Nat.reduceLT, Nat.reduceBEq, reduceCtorEq, Net.cells, List.length_map, i1, i2, i36, i37, i38, i6, i7, i9, i11, i59, i60, i10, j0, jl, jm, ja, d1, d2, d3, d4, d5, d6, d7, d8, d9, d10, d11, d12, d13, d14, d15, d16, d17, d18, d19, d20, d21, hlt, hkt, e19, ea, eb, ety45, aeq45, hbs, hlk, hup, k0, Q0, Q1, hpr, pos, cv, zq, hcw, hw2, ks, Qs, hst]
            all_goals exact ⟨by rw [hcnt]; simp [zq], by omega, l.name, _, _, rfl, fun _ => hlaN⟩
          · have hst : wrapq .i64 (Int.add d (-1)) = Q := by
              simp only [if_true] at hQ
              have e : Int.add d (-1) = d + -1 := rfl
              rw [e, wrap_small (by omega) (by omega)]; omega
            rcases Classical.propComplete (Q = P) with zq | zq <;> simp only [go_sem, reduceIte, Nat.reduceEqDiff, Nat.reduceAdd, Nat.reduceMul, Nat.reduceSub, Nat.reduceLeDiff, Nat.reduceLT, Nat.reduceBEq, reduceCtorEq, Net.cells, List.length_map, i1, i2, i36, i37, i38, i6, i7, i9, i11, i59, i60, i10, j0, jl, jm, ja, d1, d2, d3, d4, d5, d6, d7, d8, d9, d10, d11, d12, d13, d14, d15, d16, d17, d18, d19, d20, d21, hlt, hkt, e19, ea, eb, ety45, aeq45, hbs, hlk, hup, k0, Q0, Q1, hpr, pos, cv, zq, hcw, hw2, ks, Qs, hst]
            all_goals exact ⟨by rw [hcnt]; simp [zq], by omega, l.name, _, _, rfl, fun _ => hlaN⟩
        · have h8 := hg.few
          have hc1 : wrapq .i64 (Int.add c 1) = ((kk : Nat) : Int) := by
            have e : Int.add c 1 = c + 1 := rfl
            rw [e, wrap_small (by omega) (by omega)]; omega
          have hkc : (((kk : Nat) : Int) = c) = False := by simp; omega
          have hQt : (Q = pq) = True := by simp [hQ]
          cases pb <;> rcases Classical.propComplete (Q = P) with zq | zq <;> simp only [go_sem, reduceIte, Nat.reduceEqDiff, Nat.reduceAdd, Nat.reduceMul, Nat.reduceSub, Nat.reduceLeDiff, Nat.reduceLT, Nat.reduceBEq, reduceCtorEq, Net.cells, List.length_map, i1, i2, i36, i37, i38, i6, i7, i9, i11, i59, i60, i10, j0, jl, jm, ja, d1, d2, d3, d4, d5, d6, d7, d8, d9, d10, d11, d12, d13, d14, d15, d16, d17, d18, d19, d20, d21, hlt, hkt, e19, ea, eb, ety45, aeq45, hbs, hlk, hup, k0, Q0, Q1, hpr, pos, cv, zq, hcw, hw2, ks, Qs, hc1, hkc, hQt]
          all_goals exact ⟨by rw [hcnt]; simp [zq], by omega, l.name, _, _, rfl, fun _ => hlaN⟩
    · rintro T H' M ⟨rfl, i1, i2, i36, i37, i38, i6, i7, i9, i11, i59, i60, i10, j0, jl, jm, jn, s, c, d, ja, hla⟩
      have hcp : cntK l P L = _ := count_posts hf l.name (P := P) ⟨hP.1, by omega⟩ l.ps.length (Nat.le_refl _) L (by rw [begI_all, hL])
      have hmp : ∀ a ∈ postsK l l.name P l.ps.length, a.2.2 = P ∧ (addrs l L).any (adB a) = true := fun a ha => by
        obtain ⟨q, p, hql, hq, hmb, rfl⟩ := mem_posts l l.name P _ ha
        refine ⟨rfl, addrs_has ?_⟩
        obtain ⟨m0, y0, y1, y2⟩ := post_metre hf hq (P := P) ⟨hP.1, by omega⟩ hmb
        refine ⟨m0, y0, by omega, ?_⟩
        unfold adI
        rw [y2]
      have hpl := postsK_len l l.name P l.ps.length
      have h8 := hg.few
      simp only [hcp] at i10
      generalize postsK l l.name P l.ps.length = ps at e51 i10 hmp hpl
      have ebad0 := e20 (-1)
      have ebad1 := e20 ((L : Nat) : Int)
      rw [hbad (-1) (.inl (by omega))] at ebad0
      rw [hbad ((L : Nat) : Int) (.inr (by omega))] at ebad1
      have z14 : ((14 : Int) = 0) = False := by simp
      simp only [z14, if_false, noAddr, i64] at ebad0 ebad1
      have pp : (((ps.length : Nat) : Int) = ((ps.length : Nat) : Int)) = True := by simp
      simp only [go_sem, reduceIte, Nat.reduceEqDiff, Nat.reduceAdd, Nat.reduceMul, Nat.reduceSub, Nat.reduceLeDiff, Nat.reduceLT, Nat.reduceBEq, reduceCtorEq, Net.cells, List.length_map, i1, i2, i36, i37, i38, i6, i7, i9, i11, i59, i60, i10, j0, jl, jm, ja, Nat.lt_irrefl, e19, e51, cv, pp]
      refine W_for (fun q T H2 M => M = [] ∧ getT T 1 = .int .u16 P ∧ getT T 2 = .ptr 0 0 ∧ getT T 36 = .ps .unk (n.lines.map Ln.row) ∧ getT T 37 = i64 (n.lines.length : Nat) ∧ getT T 38 = i64 k ∧ getT T 6 = .ptr H.n 0 ∧ getT T 7 = i64 (L : Nat) ∧ getT T 9 = .map (H.n + 1) ∧ getT T 212 = .ps .unk (ps.map adRow) ∧ getT T 213 = i64 (ps.length : Nat) ∧ getT T 214 = i64 q ∧
        H2.get 0 = .cells n.cells 26 ∧ H2.get H.n = .cells [.str l.name, .ps .unk (l.ps.map Pc.row)] 56 ∧ H2.get (H.n + 1) = .map (adMap (addrs l L)) ∧ H.n + 1 + 1 < H2.n) ps.length ?_ ?_ ?_
      · simp only [go_sem, reduceIte, Nat.reduceEqDiff, Nat.reduceAdd, Nat.reduceMul, Nat.reduceSub, Nat.reduceLeDiff, Nat.reduceLT, Nat.reduceBEq, reduceCtorEq, Net.cells, List.length_map, i1, i2, i36, i37, i38, i6, i7, i9, j0, jl, jm]
        exact jn
      · rintro q T H2 M hq ⟨rfl, i1, i2, i36, i37, i38, i6, i7, i9, i212, i213, i214, j0, jl, jm, jn⟩
        obtain ⟨a, hap⟩ : ∃ p, ps[q]? = some p := ⟨ps[q], by simp⟩
        have har := map_at (f := adRow) hap
        obtain ⟨ha1, ha2⟩ := hmp a (List.mem_of_getElem? hap)
        have hqw : wrapq .i64 (Int.add ((q : Nat) : Int) 1) = ((q + 1 : Nat) : Int) := wrap_nat (n := q + 1) (by omega)
        have hlk : ∀ H'' : Heap, H''.get (H.n + 1) = .map (adMap (addrs l L)) → alookup NC.P H'' 95 (.map (H.n + 1)) (.agg (adRow a)) false = some (.bool true) := fun H'' h => by
          have := lookA h a
          rw [ha2] at this; exact this
        have f1 : (0 = H2.n) = False := by simp only [eq_iff_iff, iff_false]; omega
        have f2 : (H.n = H2.n) = False := by simp only [eq_iff_iff, iff_false]; omega
        have f3 : (H.n + 1 = H2.n) = False := by simp only [eq_iff_iff, iff_false]; omega
        obtain ⟨x1, x2, x3⟩ := a
        simp only at ha1
        subst ha1
        have xx : (x3 = x3) = True := by simp
        simp only [adRow, i64] at har hlk
        simp only [go_sem, reduceIte, Nat.reduceEqDiff, Nat.reduceAdd, Nat.reduceMul, Nat.reduceSub, Nat.reduceLeDiff, Nat.reduceLT, Nat.reduceBEq, reduceCtorEq, Net.cells, List.length_map, i1, i2, i36, i37, i38, i6, i7, i9, i212, i213, i214, j0, jl, jm, f1, f2, f3, hq, har, hlk, cv, xx, hqw]
        omega
      · rintro T H2 M ⟨rfl, i1, i2, i36, i37, i38, i6, i7, i9, i212, i213, i214, j0, jl, jm, jn⟩
        have f1 : (0 = H2.n) = False := by simp only [eq_iff_iff, iff_false]; omega
        have f1b : (0 = H2.n + 1) = False := by simp only [eq_iff_iff, iff_false]; omega
        have f2 : (H.n = H2.n) = False := by simp only [eq_iff_iff, iff_false]; omega
        have f2b : (H.n = H2.n + 1) = False := by simp only [eq_iff_iff, iff_false]; omega
        simp only [go_sem, reduceIte, Nat.reduceEqDiff, Nat.reduceAdd, Nat.reduceMul, Nat.reduceSub, Nat.reduceLeDiff, Nat.reduceLT, Nat.reduceBEq, reduceCtorEq, Net.cells, List.length_map, i1, i2, i36, i37, i38, i6, i7, i9, i212, i213, i214, j0, jl, jm, Nat.lt_irrefl, f1, f1b, f2, f2b, W_loop, cast2, i02, i12, i22, wl01, wl12, e19, ebad0, ebad1, hw]
        first | omega | exact ⟨by omega⟩ | skip
  · rintro T H M ⟨rfl, g1, g2, g36, g37, g38, h0, hn⟩
    simp only [go_sem, reduceIte, Nat.reduceEqDiff, Nat.reduceAdd, Nat.reduceMul, Nat.reduceSub, Nat.reduceLeDiff, Nat.reduceLT, Nat.reduceBEq, reduceCtorEq, g1, g2, g36, g37, g38, h0, Nat.lt_irrefl]
end Go.Sim
