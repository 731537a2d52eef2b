/-
The parts SimLib of one proof, joined: each begins with a remark that says what it shows.
-/
import Derived.Test.YtepaopekeidlmaaGreatDoorT09
import Derived.Shelf.Small.Strs
import Derived.Shelf.Strconv.Itoa3
import Derived.Shelf.Strings.OnBuilder
set_option linter.unusedSimpArgs false
set_option linter.unusedVariables false

/-
Contracts of strings.Compare, strconv.Itoa and strings.Join, for the abstract interpreter.
-/
set_option linter.unusedVariables false
namespace Go.Sim
open Go Go.Proofs Go.Shelf Go.RowKit

variable {P : Program} {ρ : Ren} {C : Cfg} {g : Gh} {n : Nat} {H : Heap} {w : World}

def nats (l : List UInt8) : List Nat := l.map UInt8.toNat

/-! ### strings.Compare -/

def cmpL : List Nat → List Nat → Int
  | [], [] => 0
  | [], _ :: _ => -1
  | _ :: _, [] => 1
  | a :: x, b :: y => cond (Nat.blt a b) (-1) (cond (Nat.blt b a) 1 (cmpL x y))

theorem cmpL_eq : ∀ a b : List UInt8, Lib.compareBytes a b = cmpL (nats a) (nats b)
  | [], [] => rfl
  | [], _ :: _ => rfl
  | _ :: _, [] => rfl
  | a :: x, b :: y => by
    have h : ∀ a b : UInt8, (Nat.blt a.toNat b.toNat) = decide (a < b) := fun a b => by
      rw [Bool.eq_iff_iff, Nat.blt_eq, decide_eq_true_iff]
      exact UInt8.lt_iff_toNat_lt.symm
    simp only [Lib.compareBytes, nats, List.map_cons, cmpL, h, cmpL_eq x y]
    by_cases h1 : a < b
    · simp [h1]
    · by_cases h2 : b < a <;> simp [h1, h2, nats]

def pCompare : List AV → Option AV
  | [.str a, .str b] => some (.int .i64 (cmpL a b))
  | _ => none

theorem two_args {a b : AV} {cargs : List Value} (h : VRels g n [a, b] cargs) : ∃ x y, cargs = [x, y] ∧ VRel g n a x ∧ VRel g n b y := by
  have := h.1
  match cargs, this with
  | [x, y], _ => exact ⟨x, y, rfl, h.2 0 _ _ rfl rfl, h.2 1 _ _ rfl rfl⟩

theorem one_arg {a : AV} {cargs : List Value} (h : VRels g n [a] cargs) : ∃ x, cargs = [x] ∧ VRel g n a x := by
  have := h.1
  match cargs, this with
  | [x], _ => exact ⟨x, rfl, h.2 0 _ _ rfl rfl⟩

theorem compare_ok (hP : C.P = P) (L : Lays.n106 P ρ) (hcall : Callable P (ρ.f 106)) {args : List AV} {v : AV} (h : pCompare args = some v) (lo : Nat) (H : Heap) : CallOk C lo (ρ.f 106) args H v H := by
  unfold pCompare at h
  split at h
  · rename_i a b
    simp at h; subst h
    refine ⟨hP ▸ hcall, fun g w cargs hR ha => ?_⟩
    obtain ⟨x, y, rfl, hx, hy⟩ := two_args ha
    cases hx with
    | str hx =>
    cases hy with
    | @str _ _ bb hy =>
    rw [hP, callsIn_wide]
    refine (Any.strings_Compare L _ _ w).mono ?_
    rintro e w' ⟨rfl, rfl⟩
    refine Done.same hR ?_
    rw [cmpL_eq, nats, nats, hx, hy]
    exact .int _ _
  · cases h

/-! ### strconv.Itoa -/

/-- The decimal digits of a number, the last ones first. -/
def digs : Nat → Nat → List Nat
  | 0, _ => []
  | f + 1, n => cond (Nat.blt n 10) [48 + n] ((48 + n % 10) :: digs f (n / 10))

def itoaL (n : Int) : List Nat := match n with
  | .ofNat n => (digs 20 n).reverse
  | .negSucc n => 45 :: (digs 20 (n + 1)).reverse

theorem digs_eq : ∀ (f n : Nat), n < 10 ^ (f + 1) → (digs (f + 1) n).reverse = nats (Lib.decDigits n)
  | f, n, h => by
    unfold digs Lib.decDigits
    by_cases h1 : n < 10
    · have : Nat.blt n 10 = true := by rw [Nat.blt_eq]; exact h1
      simp only [this, cond, h1, dif_pos, nats, List.map_cons, List.map_nil, List.reverse_cons, List.reverse_nil, List.nil_append, UInt8.toNat_ofNat']
      have : 48 + n = (48 + n) % 256 := by omega
      rw [← this]
    · have : Nat.blt n 10 = false := by
        rw [Bool.eq_false_iff]; intro h'; rw [Nat.blt_eq] at h'; exact h1 h'
      obtain ⟨f, rfl⟩ : ∃ f', f = f' + 1 := ⟨f - 1, by
        cases f with
        | zero => simp at h; omega
        | succ f => simp⟩
      have ih := digs_eq f (n / 10) (by rw [Nat.pow_succ] at h; omega)
      simp only [this, cond, h1, dif_neg, not_false_eq_true, List.reverse_cons, ih, nats, List.map_append, List.map_cons, List.map_nil, UInt8.toNat_ofNat']
      have : 48 + n % 10 = (48 + n % 10) % 256 := by omega
      rw [← this]

theorem itoaL_eq {n : Int} (h0 : -9223372036854775808 ≤ n) (h1 : n ≤ 9223372036854775807) : itoaL n = nats (Lib.itoa n) := by
  unfold itoaL Lib.itoa
  cases n with
  | ofNat n =>
    have : ¬ (Int.ofNat n < 0) := by simp
    rw [if_neg this]
    exact digs_eq 19 n (by simp at h1; omega)
  | negSucc n =>
    have : Int.negSucc n < 0 := Int.negSucc_lt_zero n
    rw [if_pos this]
    have h := digs_eq 19 (n + 1) (by have : Int.negSucc n = -((n : Int) + 1) := by omega
                                     omega)
    simp only [h, nats, List.map_cons, Int.natAbs_negSucc]
    rfl

def pItoa : List AV → Option AV
  | [.int .i64 n] => if -9223372036854775808 ≤ n ∧ n ≤ 9223372036854775807 then some (.str (itoaL n)) else none
  | _ => none

/-- What the table of powers of ten holds. -/
def powsAV : List AV := (List.range 20).map fun i => .int .u64 ((10 ^ i : Nat) : Int)

theorem tab_is (hR : Rel C g H w) {x : Nat} (hx : C.glob x = some powsAV) {name : String} (hn : P.globalNamed name = some x) : Lib.TabIs P w name .u64 Lib.pow10Tab := by
  obtain ⟨⟨c, e, fz, h1, h2⟩, _⟩ := hR.gsz x _ hx
  obtain ⟨vals, hv, hk⟩ := hR.glob x _ hx
  unfold Lib.TabIs World.var?
  rw [hn]
  simp only [Option.bind_some, h1]
  congr 1
  apply Array.ext_getElem?
  intro i
  by_cases hi : i < 20
  · have ha : powsAV[i]? = some (.int .u64 ((10 ^ i : Nat) : Int)) := by
      unfold powsAV; simp [hi]
    obtain ⟨v, hvi, hr⟩ := All2.get hv ha
    cases hr
    have := hR.know _ _ _ (hk i _ hvi)
    unfold World.cell? at this
    rw [h1] at this
    simp only [Option.isSome_none, Bool.false_eq_true, if_false] at this
    rw [this]
    simp [Lib.pow10Tab, hi]
  · rw [Array.getElem?_eq_none (by rw [h2]; simp [powsAV]; omega), Array.getElem?_eq_none (by simp [Lib.pow10Tab]; omega)]

theorem below_grow (w : World) (k : Nat) (os : Array Obj) : Below w.heap.size w (Go.Sort.grow (w.drewN k) os) := by
  refine ⟨rfl, rfl, rfl, by simp [Go.Sort.grow, World.drewN], fun b hb => ?_⟩
  show (w.heap ++ os)[b]? = _
  rw [Array.getElem?_append_left hb]

theorem itoa_ok (hP : C.P = P) (L : LaysM.n171 P ρ) (hcall : Callable P (ρ.f 171)) {x : Nat} (hx : C.glob x = some powsAV) (hn : P.globalNamed "internal/strconv.uint64pow10" = some x) {args : List AV} {v : AV} (h : pItoa args = some v) (lo : Nat) (H : Heap) : CallOk C lo (ρ.f 171) args H v H := by
  unfold pItoa at h
  split at h
  · rename_i m
    split at h
    · rename_i hm
      simp at h; subst h
      refine ⟨hP ▸ hcall, fun g w cargs hR ha => ?_⟩
      obtain ⟨y, rfl, hy⟩ := one_arg ha
      cases hy
      rw [hP, callsIn_wide]
      refine (Any.strconv_Itoa L m hm.1 hm.2 w (tab_is hR hx hn)).mono ?_
      rintro e w' ⟨rfl, k, os, rfl⟩
      obtain ⟨r1, r2⟩ := hR.below (below_grow w k os) lo
      refine ⟨g, r1, r2, .str ?_⟩
      rw [itoaL_eq hm.1 hm.2]
      rfl
    · cases h
  · cases h

/-! ### strings.Join -/

def strsOf : List (List AV) → Option (List (List Nat))
  | [] => some []
  | [.str s] :: r => match strsOf r with
    | some l => some (s :: l)
    | none => none
  | _ => none

def joinL (sep : List Nat) : List (List Nat) → List Nat
  | [] => []
  | s :: r => s ++ (r.map (sep ++ ·)).flatten

def pJoin : List AV → Option AV
  | [.ps _ rows, .str sep] => match strsOf rows with
    | some l => if (joinL sep l).length ≤ maxRows ∧ rows.length ≤ maxRows then some (.str (joinL sep l)) else none
    | none => none
  | _ => none

theorem strsOf_at : ∀ {rows : List (List AV)} {l : List (List Nat)}, strsOf rows = some l → l.length = rows.length ∧ rows.flatten = l.map AV.str
  | [], l, h => by simp [strsOf] at h; subst h; simp
  | r :: rs, l, h => by
    unfold strsOf at h
    split at h
    · rename_i h1; cases h1
    · rename_i s r' heq
      simp only [List.cons.injEq] at heq
      obtain ⟨rfl, rfl⟩ := heq
      split at h
      · rename_i l' hl'
        simp at h; subst h
        obtain ⟨h1, h2⟩ := strsOf_at hl'
        exact ⟨by simp [h1], by simp [h2]⟩
      · cases h
    · cases h

theorem joinL_eq (xs : List (List UInt8)) (sep : List UInt8) : nats (Lib.join xs sep) = joinL (nats sep) (xs.map nats) := by
  cases xs with
  | nil => rfl
  | cons x r =>
    rw [Lib.join_cons]
    simp only [joinL, List.map_cons, nats, List.map_append, Lib.joinTail, List.map_flatten, List.map_map]
    congr 2
    apply List.map_congr_left
    intro a _
    simp [nats]

def bytesV : Value → ByteArray
  | .string b => b
  | _ => .empty

theorem join_ok (hP : C.P = P) (L : Lays.n156 P ρ) (X : Builder.Extra P ρ) (hcall : Callable P (ρ.f 156)) {args : List AV} {v : AV} (h : pJoin args = some v) (lo : Nat) (H : Heap) : CallOk C lo (ρ.f 156) args H v H := by
  unfold pJoin at h
  split at h
  case h_2 => cases h
  rename_i tok rows sep
  split at h
  case h_2 => cases h
  rename_i l hl
  split at h
  case isFalse => cases h
  rename_i hlen
  simp at h; subst h
  obtain ⟨hl1, hl2⟩ := strsOf_at hl
  refine ⟨hP ▸ hcall, fun g w cargs hR ha => ?_⟩
  obtain ⟨x, y, rfl, hx, hy⟩ := two_args ha
  generalize hA : AV.ps tok rows = A at hx
  cases hy with
  | @str _ _ sb hy =>
  rw [hP, callsIn_wide]
  cases hx <;> cases hA
  · rename_i b o cap sz vals hk hsz hvl hvv hcap htok
    cases hrows : rows with
    | nil =>
      subst hrows
      simp [strsOf] at hl; subst hl
      refine (Any.strings_Join_none L X _ _ _ w).mono ?_
      rintro e w' ⟨rfl, rfl⟩
      exact Done.same hR (.str rfl)
    | cons r0 rr =>
      have hvall : ∀ (i : Nat) (s : List Nat), l[i]? = some s → ∃ bb : ByteArray, vals[i]? = some (Value.string bb) ∧ nats bb.data.toList = s := by
        intro i s hi
        have hf : rows.flatten[i]? = some (.str s) := by rw [hl2]; simp [hi]
        obtain ⟨vi, hvi⟩ : ∃ vi, vals[i]? = some vi := by
          have : i < vals.length := by rw [← hvl]; exact (List.getElem?_eq_some_iff.1 hf).1
          exact ⟨vals[i], by simp⟩
        have := hvv i _ _ hf hvi
        cases this with
        | @str _ _ bb hb => exact ⟨bb, hvi, hb⟩
      have hvlen : vals.length = rows.length := by rw [← hvl, hl2]; simp [hl1]
      have hxs : ∀ (j : Nat) (x : ByteArray), (vals.map bytesV)[j]? = some x → w.cell? ⟨b, o + j, none⟩ = some (.string x) := by
        intro j x hj
        simp only [List.getElem?_map, Option.map_eq_some_iff] at hj
        obtain ⟨v, hv, rfl⟩ := hj
        have hlt : j < l.length := by rw [hl1, ← hvlen]; exact (List.getElem?_eq_some_iff.1 hv).1
        obtain ⟨bb, h1, h2⟩ := hvall j l[j] (by simp)
        rw [hv] at h1; cases h1
        exact hR.know _ _ _ (hk j _ hv)
      have hnx : (vals.map bytesV).map (fun x => nats x.data.toList) = l := by
        apply List.ext_getElem?
        intro i
        simp only [List.map_map, List.getElem?_map]
        cases hi : l[i]? with
        | none =>
          have : vals[i]? = none := by
            rw [List.getElem?_eq_none_iff] at hi ⊢; omega
          rw [this]; rfl
        | some s =>
          obtain ⟨bb, h1, h2⟩ := hvall i s hi
          rw [h1]; simp [bytesV, h2]
      have hjoin : nats (Lib.join ((vals.map bytesV).map (·.data.toList)) sb.data.toList) = joinL sep l := by
        rw [joinL_eq, ← hy, ← hnx]
        rw [List.map_map, List.map_map, List.map_map]; rfl
      have hjl : (Lib.join ((vals.map bytesV).map (·.data.toList)) sb.data.toList).length ≤ 140737488355328 := by
        have := congrArg List.length hjoin
        simp only [nats, List.length_map] at this
        rw [this]
        have := hlen.1
        unfold maxRows at this; omega
      have hbk : b < w.heap.size := by
        have : 0 < vals.length := by rw [hvlen, hrows]; simp
        exact know_lt hR (hk 0 vals[0] (by simp))
      have hrun := Any.strings_Join L X b o cap (vals.map bytesV) sb w hxs hbk (by simp [hvlen]; have := hlen.2; unfold maxRows at this; omega) (by simp [hvlen]; exact hcap) hjl
      rw [show (vals.map bytesV).length = rows.length by simp [hvlen], hrows] at hrun
      refine hrun.mono ?_
      rintro e w' ⟨rfl, hb⟩
      obtain ⟨r1, r2⟩ := hR.below hb lo
      exact ⟨g, r1, r2, .str hjoin⟩
  · simp [strsOf] at hl; subst hl
    refine (Any.strings_Join_none L X _ _ _ w).mono ?_
    rintro e w' ⟨rfl, rfl⟩
    exact Done.same hR (.str rfl)
  · simp [strsOf] at hl; subst hl
    refine (Any.strings_Join_none L X _ _ _ w).mono ?_
    rintro e w' ⟨rfl, rfl⟩
    exact Done.same hR (.str rfl)

end Go.Sim
