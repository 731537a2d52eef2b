/-
Lemmas of one proof, the texts FtD to Fl0 joined.
-/
import Derived.Test.YtklnellnfbmokaaGreatT14
set_option linter.unusedSimpArgs false
set_option linter.unusedVariables false
open Nat (reduceEqDiff reduceAdd reduceMul reduceSub reduceLeDiff reduceLT)

namespace Go.Sim
open Go Go.Proofs
open Go.Sim.Pos (Nm Rst Msg Pst Rnd Len flat_len flat_take flat_drop flat_at)
set_option maxRecDepth 100000
set_option maxHeartbeats 8000000
noncomputable def dsl (t:TypeId) (x:AV) (a b m:Option AV):Option AV:=aslice NC.P t x a b m
noncomputable def dcl (lo:Nat) (H:Heap) (t:TypeId) (x:AV):Option (AV × Heap):=aclear NC.P lo H t x
section
variable {rec:Rec} {fid lo:Nat} {T:TT AV} {H:Heap} {K:AV→Heap→Prop} {d:Option Tmp} {t:TypeId} {p:String} {af:Array Edge} {gd:Option (Nat × Bool)}
theorem op_slD (t':TypeId) (x:Operand) (a b m:Option Operand):VO (aop PT rec fid lo ⟨d,.slice t' x a b m,t,p,af,gd⟩ T H) K=AO (evalO PT T x) fun x=>AO (evalOpt PT T a) fun a=>AO (evalOpt PT T b) fun b=>AO (evalOpt PT T m) fun m=>AO (dsl t' x a b m) fun v=>K v H:=op_slice t' x a b m
theorem op_clD (x:Operand) (t':TypeId):VO (aop PT rec fid lo ⟨d,.call ⟨.builtin .clear,#[x],#[t']⟩,t,p,af,gd⟩ T H) K=AO (evalO PT T x) fun x=>VO (dcl lo H t' x) K:=by
 simp only [aop,acall,evalOs]
 cases evalO PT T x<;>rfl
end
attribute [go_sem ↓ 2000] op_slD op_clD
theorem flat_row {sz i:Nat} {rows:List (List AV)} {r:List AV} (h:Len sz rows) (hi:i < rows.length) (hr:r.length=sz):over rows.flatten (i * sz) r=(rows.set i r).flatten:=by
 unfold over
 rw [List.set_eq_take_append_cons_drop,if_pos hi,List.flatten_append,List.flatten_cons,flat_take i h,hr]
 have e:i * sz+sz=(i+1) * sz:=by rw [Nat.succ_mul]
 rw [e,flat_drop (i+1) h,List.append_assoc]
theorem st_rst {lo id n:Nat} {H:Heap} {Y:List Rst} {x:Rst} {j:Nat} (hg:H.get id=.row (Y.map Pos.Rst.row).flatten 4 43) (hlo:lo≤id) (hj:j < Y.length):sst lo H 43 (elA (.rs id 0 n 4 none) 4 j) (.agg [.str x.name,.int .i64 x.frm,.int .i64 x.to,.int .i64 x.speed])=some (H.set id (.row ((Y.set j x).map Pos.Rst.row).flatten 4 43)):=by
 have hsz:szOf NC.P 43=some 4:=by kernel_rfl
 have hL:Len 4 (Y.map Pos.Rst.row):=rows_Len (by intro x;rfl) Y
 have hf:=flat_len hL
 rw [List.length_map] at hf
 have ho:=flat_row (i:=j) (r:=Pos.Rst.row x) hL (by rw [List.length_map];exact hj) rfl
 have e:(Y.map Pos.Rst.row).set j (Pos.Rst.row x)=(Y.set j x).map Pos.Rst.row:=by rw [List.map_set]
 rw [e] at ho
 show astore NC.P lo H 43 (.ptr id (0+j * 4)) (.agg (Pos.Rst.row x))=_
 unfold astore
 have h1:(AV.agg (Pos.Rst.row x)).cells.length=4:=rfl
 have h2:(AV.agg (Pos.Rst.row x)).cells.all AV.one=true:=rfl
 have h3:(AV.agg (Pos.Rst.row x)).cells=Pos.Rst.row x:=rfl
 have h4:0+j * 4+(Pos.Rst.row x).length≤(Y.map Pos.Rst.row).flatten.length:=by
  show 0+j * 4+4≤_
  rw [hf];omega
 simp only [hsz]
 rw [if_pos (by rw [h2,h1];simp [hlo]),hg,h3]
 simp only [setBlk]
 rw [if_pos h4,Nat.zero_add,ho]
theorem e_applied_1 {H : Heap} {f : Rst} {id : Nat} {s : Nm} (hid : id < H.n) (hg : H.get id = .cells [.str s] 9) {lo : Nat} {K : AV → Heap → Prop} : VO (aenter PT (R PT) lo 79 [.agg [.str f.name, .int .i64 f.frm, .int .i64 f.to, .int .i64 f.speed], .ptr id 0] H) K = K (.bool (decide (f.name = s))) H := by
 obtain ⟨w, H2, h1, h2⟩ := R_of_body (C := PT) (f := 79) (lo := H.n) (args := [.agg [.str f.name, .int .i64 f.frm, .int .i64 f.to, .int .i64 f.speed], .ptr id 0]) (H := H) (fn := Tryz.f79) (Q := fun w _ => w = .bool (decide (f.name = s))) (by kernel_rfl) Tryz.func79 rfl rfl (by
  have hne : (id = H.n) = False := eq_false (by omega)
  simp (config := { maxDischargeDepth := 12 }) only [go_sem, reduceIte, reduceEqDiff, reduceAdd, reduceMul, reduceSub, reduceLeDiff, reduceLT, Nat.reduceBEq, reduceCtorEq, hne, hg, beqL_dec])
 exact enter_p (en79 rfl) ⟨H2, h1⟩ (by rw [h2]; rfl) rfl
def leftR (s:Nm) (f:List Rst):List Rst:=f.filter fun r=>decide (r.name ≠ s)
theorem left_snoc (s:Nm) (f:List Rst) (x:Rst):leftR s (f++[x])=leftR s f++(if x.name=s then [] else [x]):=by
 unfold leftR
 rw [List.filter_append]
 by_cases h:x.name=s<;>simp [h]
theorem left_len (s:Nm) (f:List Rst):(leftR s f).length≤f.length:=List.length_filter_le _ _
theorem left_none {s:Nm} {f:List Rst} (h:∀ x ∈ f,decide (x.name=s)=false):leftR s f=f:=by
 unfold leftR
 rw [List.filter_eq_self]
 intro x hx
 have:=h x hx
 simpa using this
theorem left_lt {s:Nm} {f:List Rst} (h:Pos.hasR f s=true):(leftR s f).length < f.length:=by
 unfold Pos.hasR at h
 unfold leftR
 induction f with
 | nil=>cases h
 | cons x r ih =>
   rw [List.filter_cons,List.length_cons]
   have hr:=List.length_filter_le (fun r:Rst=>decide (r.name ≠ s)) r
   by_cases c:x.name=s
   · rw [if_neg (by simp [c])];omega
   · rw [if_pos (by simp [c]),List.length_cons]
     rw [List.any_cons,decide_eq_false c,Bool.false_or] at h
     have:=ih h
     omega
theorem sl_low {id n j:Nat} (hj:j < n):dsl 76 (.rs id 0 n 4 none) (some (.int .i64 (j:Nat))) none none=some (.rs id (j * 4) (n - j) 4 none):=by
 have hu:NC.P.underlying 76=some (.slice 43):=by kernel_rfl
 have hz:szOf NC.P 43=some 4:=by kernel_rfl
 have hb:boundOf 0 n (some (.int .i64 (j:Nat)))=some j:=by
  have hn':natOf (n+1) (.int .i64 (j:Nat))=some j:=by rw [natOf_cast,if_pos (by omega)]
  unfold boundOf
  simp only [hn']
 have h0:boundOf n n none=some n:=rfl
 unfold dsl aslice
 simp only [hu,hz,if_true,hb,h0]
 rw [if_neg (by omega)]
 simp
theorem sl_up {id n j:Nat} (hj:j < n):dsl 76 (.rs id 0 n 4 none) none (some (.int .i64 (j:Nat))) none=some (.rs id 0 j 4 none):=by
 have hu:NC.P.underlying 76=some (.slice 43):=by kernel_rfl
 have hz:szOf NC.P 43=some 4:=by kernel_rfl
 have hb:boundOf n n (some (.int .i64 (j:Nat)))=some j:=by
  have hn':natOf (n+1) (.int .i64 (j:Nat))=some j:=by rw [natOf_cast,if_pos (by omega)]
  unfold boundOf
  simp only [hn']
 have h0:∀ k,boundOf 0 k none=some 0:=fun k=>rfl
 unfold dsl aslice
 simp only [hu,hz,if_true,hb,h0]
 rw [if_neg (by omega)]
 simp
theorem cl_rst {lo id n j:Nat} {H:Heap} {Y:List Rst} (hg:H.get id=.row (Y.map Pos.Rst.row).flatten 4 43) (hlo:lo≤id) (hj:j < n) (hY:Y.length=n):dcl lo H 76 (.rs id (j * 4) (n - j) 4 none)=some (aundef,H.set id (.row (((Y.take j).map Pos.Rst.row).flatten++(List.replicate (n - j) [AV.str [],.int .i64 0,.int .i64 0,.int .i64 0]).flatten) 4 43)):=by
 have he:elemOf NC.P 76=some 43:=by kernel_rfl
 have hs:szOf NC.P 43=some 4:=by kernel_rfl
 obtain ⟨z,hz,hzc⟩:∃ z,zeroOf NC.P 43=some z∧z.cells=[AV.str [],.int .i64 0,.int .i64 0,.int .i64 0]:=⟨_,ze_43,rfl⟩
 have hL:Len 4 (Y.map Pos.Rst.row):=rows_Len (by intro x;rfl) Y
 have hf:=flat_len hL
 rw [List.length_map] at hf
 have hlen:((List.replicate (n - j) [AV.str [],.int .i64 0,.int .i64 0,.int .i64 0]).flatten).length=(n - j) * 4:=by simp
 have hone:((List.replicate (n - j) [AV.str [],.int .i64 0,.int .i64 0,.int .i64 0]).flatten).all AV.one=true:=by
  rw [List.all_eq_true]
  intro x hx
  obtain ⟨r,hr,hx⟩:=List.mem_flatten.1 hx
  have:=List.eq_of_mem_replicate hr
  subst this
  have:x=.str []∨x=.int .i64 0:=by simpa using hx
  rcases this with rfl | rfl<;>rfl
 have hov:over (Y.map Pos.Rst.row).flatten (j * 4) (List.replicate (n - j) [AV.str [],.int .i64 0,.int .i64 0,.int .i64 0]).flatten=((Y.take j).map Pos.Rst.row).flatten++(List.replicate (n - j) [AV.str [],.int .i64 0,.int .i64 0,.int .i64 0]).flatten:=by
  unfold over
  rw [hlen,flat_take j hL,List.map_take]
  have e:(Y.map Pos.Rst.row).flatten.drop (j * 4+(n - j) * 4)=[]:=List.drop_eq_nil_of_le (by rw [hf,hY];omega)
  rw [e,List.append_nil]
 unfold dcl aclear
 simp only [he,hs,hz,hzc]
 rw [if_neg (by omega),hone,hg]
 simp only [hlo,decide_true,Bool.and_self,if_true,setBlk]
 rw [hlen,if_pos (by rw [hf,hY];omega),hov]
theorem r_delF {H : Heap} {id b : Nat} {f : List Rst} {s : Nm} (hid : id < H.n) (hg : H.get id = .row (f.map Pos.Rst.row).flatten 4 43) (hb : b < H.n) (hgb : H.get b = .cells [.str s] 9) (hl : f.length ≤ maxRows) (hh : Pos.hasR f s = true) {lo : Nat} (hlo : lo ≤ id) :
 ∃ v H', R PT (.call lo 78 [.rs id 0 f.length 4 none, .fn 79 [] [.ptr b 0]] H) = some (.ofVal v H') ∧ v = .rs id 0 (leftR s f).length 4 none ∧ H.n ≤ H'.n ∧ ∃ cs m, cs.length = m * 4 ∧ H'.get id = .row (((leftR s f).map Pos.Rst.row).flatten ++ cs) 4 43 := by
 refine R_of_body (C := PT) (f := 78) (lo := lo) (args := [.rs id 0 f.length 4 none, .fn 79 [] [.ptr b 0]]) (H := H) (fn := Tryz.f78) (Q := fun v H' => v = .rs id 0 (leftR s f).length 4 none ∧ H.n ≤ H'.n ∧ ∃ cs m, cs.length = m * 4 ∧ H'.get id = .row (((leftR s f).map Pos.Rst.row).flatten ++ cs) 4 43) (by kernel_rfl) Tryz.func78 rfl rfl ?_
 have hbid : b ≠ id := fun h => by rw [h, hg] at hgb; cases hgb
 have hs : Sl H (.rs id 0 f.length 4 none) 4 43 (f.map Pos.Rst.row) := .inr ⟨id, [], by rw [List.length_map], hid, by rw [hg, List.append_nil]⟩
 obtain ⟨i0, hi0⟩ : ∃ i, f.findIdx? (fun r => decide (r.name = s)) = some i := by
  cases hf : f.findIdx? (fun r => decide (r.name = s)) with
  | some i => exact ⟨i, rfl⟩
  | none =>
    rw [List.findIdx?_eq_none_iff] at hf
    unfold Pos.hasR at hh
    rw [List.any_eq_true] at hh
    obtain ⟨x, hx, hq⟩ := hh
    have := hf x hx
    rw [hq] at this; cases this
 have hi0' := hi0
 rw [List.findIdx?_eq_some_iff_getElem] at hi0'
 obtain ⟨hlt, hq0, hbef⟩ := hi0'
 obtain ⟨w, H2, hr, rfl⟩ := r_idxRst (g := 79) (caps := [.ptr b 0]) (q := fun r => decide (r.name = s)) hs hl rfl (fun x _ Hc ho lo K => e_applied_1 (Nat.lt_of_lt_of_le hb ho.1) (by rw [ho.2 b hb]; exact hgb))
 have hidx : idxRst (fun r => decide (r.name = s)) f = (i0 : Int) := by unfold idxRst; rw [hi0]
 rw [hidx] at hr
 have eidx : ∀ lo K, VO (aenter PT (R PT) lo 80 [.rs id 0 f.length 4 none, .fn 79 [] [.ptr b 0]] H) K = K (.int .i64 (i0 : Int)) H := fun lo K => enter_p (en80 rfl) ⟨H2, hr⟩ rfl rfl
 have hne : ((i0 : Int) = -1) = False := eq_false (by omega)
 have hw0 : wrapq .i64 (Int.add (i0 : Int) 1) = ((i0 + 1 : Nat) : Int) := wrap_nat (n := i0 + 1) (by unfold maxRows at hl; omega)
 have hlen := fun H' => hs.len (t := 76) (by kernel_rfl) H'
 simp only [List.length_map] at hlen
 have hx0 : f.take (i0 + 1) = f.take i0 ++ [f[i0]] := by rw [Pos.take_snoc (List.getElem?_eq_getElem hlt)]
 have hl0 : leftR s (f.take i0) = f.take i0 := left_none fun x hx => by
  obtain ⟨j, hj, rfl⟩ := List.mem_take_iff_getElem.1 hx
  have := hbef j (by omega)
  simpa using this
 have hl1 : leftR s (f.take (i0 + 1)) = f.take i0 := by
  rw [hx0, left_snoc, hl0, if_pos (by simpa using hq0), List.append_nil]
 have hl1n : (leftR s (f.take (i0 + 1))).length = i0 := by rw [hl1, List.length_take]; omega
 rw [W_assoc, W_assoc]
 refine W_cut (fun T H' M => M = [] ∧ H = H' ∧ getT T 0 = .rs id 0 f.length 4 none ∧ getT T 1 = .fn 79 [] [.ptr b 0] ∧ getT T 5 = i64 (i0 : Nat)) ?_ ?_
 · simp (config := { maxDischargeDepth := 12 }) only [go_sem, reduceIte, reduceEqDiff, reduceAdd, reduceMul, reduceSub, reduceLeDiff, reduceLT, Nat.reduceBEq, reduceCtorEq, eidx, hne]
 rintro T H' M ⟨rfl, rfl, g0, g1, g5⟩
 refine W_cut (fun T H' M => M = [] ∧ H.n ≤ H'.n ∧ getT T 0 = .rs id 0 f.length 4 none ∧ getT T 5 = i64 ((leftR s f).length : Nat) ∧ ∃ Y : List Rst, Y.length = f.length ∧ Y.take (leftR s f).length = leftR s f ∧ H'.get id = .row (Y.map Pos.Rst.row).flatten 4 43) ?_ ?_
 · simp (config := { maxDischargeDepth := 12 }) only [go_sem, reduceIte, reduceEqDiff, reduceAdd, reduceMul, reduceSub, reduceLeDiff, reduceLT, Nat.reduceBEq, reduceCtorEq, g5, hw0]
   refine W_for (fun k T H' M => M = [] ∧ H.n ≤ H'.n ∧ getT T 0 = .rs id 0 f.length 4 none ∧ getT T 1 = .fn 79 [] [.ptr b 0] ∧ getT T 5 = i64 ((leftR s (f.take (i0 + 1 + k))).length : Nat) ∧ getT T 6 = i64 (i0 + 1 + k : Nat) ∧ H'.get b = .cells [.str s] 9 ∧ ∃ Y : List Rst, Y.length = f.length ∧ Y.take (leftR s (f.take (i0 + 1 + k))).length = leftR s (f.take (i0 + 1 + k)) ∧ Y.drop (i0 + 1 + k) = f.drop (i0 + 1 + k) ∧ H'.get id = .row (Y.map Pos.Rst.row).flatten 4 43) (f.length - (i0 + 1)) ?_ ?_ ?_
   · simp (config := { maxDischargeDepth := 12 }) only [go_sem, reduceIte, reduceEqDiff, reduceAdd, reduceMul, reduceSub, reduceLeDiff, reduceLT, Nat.reduceBEq, reduceCtorEq, g0, g1, g5, hl1n, hgb]
     exact ⟨f, rfl, by rw [Nat.add_zero, hl1], rfl, hg⟩
   · clear g0 g1 g5
     rintro k T H1 M hk ⟨rfl, hn1, g0, g1, g5, g6, gb, Y, y1, y2, y3, gy⟩
     generalize hm : i0 + 1 + k = m at *
     have hm1 : i0 + 1 + (k + 1) = m + 1 := by omega
     rw [hm1]
     have hmlt : m < f.length := by omega
     obtain ⟨x, hx⟩ : ∃ x, f[m]? = some x := ⟨f[m], by simp [hmlt]⟩
     have hYx : Y[m]? = some x := by
      have h1 : (Y.drop m)[0]? = (f.drop m)[0]? := by rw [y3]
      rw [List.getElem?_drop, List.getElem?_drop] at h1
      simpa [hx] using h1
     have hsn : leftR s (f.take (m + 1)) = leftR s (f.take m) ++ (if x.name = s then [] else [x]) := by rw [Pos.take_snoc hx, left_snoc]
     have hjm : (leftR s (f.take m)).length ≤ m := by
      have := left_len s (f.take m)
      rw [List.length_take] at this; omega
     have hsY : Sl H1 (.rs id 0 f.length 4 none) 4 43 (Y.map Pos.Rst.row) := .inr ⟨id, [], by rw [List.length_map, y1], by omega, by rw [gy, List.append_nil]⟩
     have hYl : (Y.map Pos.Rst.row).length = f.length := by rw [List.length_map, y1]
     have hlenY := fun H' => hsY.len (t := 76) (by kernel_rfl) H'
     rw [hYl] at hlenY
     have hix := hsY.idx (t := 76) (k := m) (by kernel_rfl) (by kernel_rfl) (rows_Len (by intro x; rfl) Y) (by rw [hYl]; exact hmlt) .i64
     have hij := hsY.idx (t := 76) (k := (leftR s (f.take m)).length) (by kernel_rfl) (by kernel_rfl) (rows_Len (by intro x; rfl) Y) (by rw [hYl]; omega) .i64
     have hd := hsY.ld (by kernel_rfl) (by kernel_rfl) (rows_Len (by intro x; rfl) Y) (map_at hYx) (Old.refl H1)
     simp only [Pos.Rst.row] at hd
     have hw : wrapq .i64 (Int.add (m : Int) 1) = ((m + 1 : Nat) : Int) := wrap_nat (n := m + 1) (by unfold maxRows at hl; omega)
     have hw2 : wrapq .i64 (Int.add ((leftR s (f.take m)).length : Int) 1) = (((leftR s (f.take m)).length + 1 : Nat) : Int) := wrap_nat (n := (leftR s (f.take m)).length + 1) (by unfold maxRows at hl; omega)
     obtain ⟨H2, hH2⟩ : ∃ H2 : Heap, H2 = (H1.push (.cells [.str [], .int .i64 0, .int .i64 0, .int .i64 0] 43)).set H1.n (.cells [.str x.name, .int .i64 x.frm, .int .i64 x.to, .int .i64 x.speed] 43) := ⟨_, rfl⟩
     have hn2 : H2.n = H1.n + 1 := by rw [hH2]; simp
     have hgn : H2.get H1.n = .cells [.str x.name, .int .i64 x.frm, .int .i64 x.to, .int .i64 x.speed] 43 := by rw [hH2, Heap.get_set, if_pos rfl]
     have hgb2 : H2.get b = .cells [.str s] 9 := by rw [hH2, Heap.get_set, if_neg (by omega), Heap.get_push, if_neg (by omega)]; exact gb
     have hgy2 : H2.get id = .row (Y.map Pos.Rst.row).flatten 4 43 := by rw [hH2, Heap.get_set, if_neg (by omega), Heap.get_push, if_neg (by omega)]; exact gy
     have hap := fun lo K => e_applied_1 (H := H2) (f := x) (id := b) (s := s) (by omega) hgb2 (lo := lo) (K := K)
     have hst := fun n => st_rst (lo := lo) (n := n) (x := x) hgy2 hlo (j := (leftR s (f.take m)).length) (by omega)
     have hlt : (m < f.length) = True := eq_true hmlt
     have hloN : (lo ≤ H1.n) = True := eq_true (by omega)
     have hn12 : (H1.n < H2.n) = True := eq_true (by omega)
     by_cases hq : x.name = s
     · rw [if_pos hq, List.append_nil] at hsn
       have hdq : decide (x.name = s) = true := decide_eq_true hq
       simp (config := { maxDischargeDepth := 12 }) only [go_sem, reduceIte, reduceEqDiff, reduceAdd, reduceMul, reduceSub, reduceLeDiff, reduceLT, Nat.reduceBEq, reduceCtorEq, g0, g1, g5, g6, hlenY, hlt, hix, hd, hloN, hn12, ← hH2, hgn, hap, hdq, hw, hsn]
       refine ⟨by omega, hgb2, Y, y1, y2, ?_, hgy2⟩
       have := congrArg (List.drop 1) y3
       rw [List.drop_drop, List.drop_drop] at this
       exact this
     · rw [if_neg hq] at hsn
       have hdq : decide (x.name = s) = false := decide_eq_false hq
       have hlen2 : (leftR s (f.take (m + 1))).length = (leftR s (f.take m)).length + 1 := by rw [hsn]; simp
       simp (config := { maxDischargeDepth := 12 }) only [go_sem, reduceIte, reduceEqDiff, reduceAdd, reduceMul, reduceSub, reduceLeDiff, reduceLT, Nat.reduceBEq, reduceCtorEq, g0, g1, g5, g6, hlenY, hlt, hix, hij, hd, hloN, hn12, ← hH2, hgn, hap, hdq, hw, hw2, hst, hlen2]
       have hset : Y.set (leftR s (f.take m)).length x = leftR s (f.take m) ++ x :: Y.drop ((leftR s (f.take m)).length + 1) := by
        rw [List.set_eq_take_append_cons_drop, if_pos (by omega), y2]
       have hy3 : Y.drop (m + 1) = f.drop (m + 1) := by
        have := congrArg (List.drop 1) y3
        rw [List.drop_drop, List.drop_drop] at this
        exact this
       refine ⟨by omega, by rw [if_neg hbid]; exact hgb2, Y.set (leftR s (f.take m)).length x, by simp [y1], ?_, ?_, rfl⟩
       · rw [hset, List.take_length_add_append, hsn]; rfl
       · rw [List.drop_set_of_lt (by omega), hy3]
   · rintro T H1 M ⟨rfl, hn1, g0, g1, g5, g6, gb, Y, y1, y2, y3, gy⟩
     have e : i0 + 1 + (f.length - (i0 + 1)) = f.length := by omega
     rw [e, List.take_length] at g5 y2
     rw [e] at g6
     simp (config := { maxDischargeDepth := 12 }) only [go_sem, reduceIte, reduceEqDiff, reduceAdd, reduceMul, reduceSub, reduceLeDiff, reduceLT, Nat.reduceBEq, reduceCtorEq, g0, g1, g5, g6, hlen, Nat.lt_irrefl]
     exact ⟨hn1, Y, y1, y2, gy⟩
 rintro T H1 M ⟨rfl, hn1, g0, g5, Y, y1, y2, gy⟩
 have hjlt := left_lt hh
 have h1 := sl_low (id := id) hjlt
 have h2 := sl_up (id := id) hjlt
 have h3 := cl_rst gy hlo hjlt y1
 rw [y2] at h3
 simp (config := { maxDischargeDepth := 12 }) only [go_sem, reduceIte, reduceEqDiff, reduceAdd, reduceMul, reduceSub, reduceLeDiff, reduceLT, Nat.reduceBEq, reduceCtorEq, g0, g5, h1, h2, h3]
 exact ⟨hn1, _, f.length - (leftR s f).length, by simp, rfl⟩
theorem en24 {P:FuncId→Option (List AV→Option AV)} (hP:P 24=none) {lo:Nat} {args:List AV} {H:Heap} {K:AV→Heap→Prop}:VO (aenter (NC.withPrims P) (R (NC.withPrims P)) lo 24 args H) K=AO (R (NC.withPrims P) (.call H.n 24 args H)) fun o=>o.val.strip.pure=true∧K o.val.strip H:=by
 refine enter_pure rfl ?_ (by kernel_rfl) (by kernel_rfl) (by kernel_rfl)
 show (match NC.prim 24 with | some p=>some p | none=>P 24)=none
 rw [hP];kernel_rfl
theorem en78 {P:FuncId→Option (List AV→Option AV)} (hP:P 78=none) {lo:Nat} {args:List AV} {H:Heap} {K:AV→Heap→Prop}:VO (aenter (NC.withPrims P) (R (NC.withPrims P)) lo 78 args H) K=AO (R (NC.withPrims P) (.call lo 78 args H)) fun o=>K o.val o.s.H:=by
 refine enter_free rfl ?_ (by kernel_rfl) (by kernel_rfl) (by kernel_rfl)
 show (match NC.prim 78 with | some p=>some p | none=>P 78)=none
 rw [hP];kernel_rfl
theorem e_hasOf {H : Heap} {f : List Rst} {s : Nm} (hl : f.length ≤ maxRows) {lo : Nat} {K : AV → Heap → Prop} : VO (aenter PT (R PT) lo 24 [.ps .unk (f.map Pos.Rst.row), .str s] H) K = K (.bool (Pos.hasR f s)) H := by
 obtain ⟨w, H2, h1, h2⟩ := R_of_body (C := PT) (f := 24) (lo := H.n) (args := [.ps .unk (f.map Pos.Rst.row), .str s]) (H := H) (fn := Tryz.f24) (Q := fun w _ => w = .bool (Pos.hasR f s)) (by kernel_rfl) Tryz.func24 rfl rfl (by
  have hh := fun lo K => e_hasRst (H := H.push (.cells [.str s] 9)) (v := .ps .unk (f.map Pos.Rst.row)) (l := f) (.inl ⟨_, rfl, rfl⟩) hl (g := 52) (caps := [.ptr H.n 0]) (q := fun r => decide (r.name = s)) rfl (fun x _ Hc ho lo K => e_has_1 (Nat.lt_of_lt_of_le (by simp) ho.1) (by rw [ho.2 H.n (by simp), Heap.get_push, if_pos rfl])) (lo := lo) (K := K)
  simp only [strp_ps] at hh
  simp (config := { maxDischargeDepth := 12 }) only [go_sem, reduceIte, reduceEqDiff, reduceAdd, reduceMul, reduceSub, reduceLeDiff, reduceLT, Nat.reduceBEq, reduceCtorEq, hh]
  rfl)
 exact enter_p (en24 rfl) ⟨H2, h1⟩ (by rw [h2]; rfl) rfl
end Go.Sim

namespace Go.Sim
open Go Go.Proofs
open Go.Sim.Pos (Nm Rst Msg Pst Rnd Len flat_len flat_take flat_drop flat_at)
set_option maxRecDepth 100000
set_option maxHeartbeats 4000000
theorem frz_sv {sz:Nat} {te:TypeId} {H:Heap} {v:AV} {α:Type} {u:α→List AV} {l:List α} (h:Pos.SV sz te H v (l.map u)) (hu:∀ x,(u x).length=sz∧pureRow (u x)=true∧(u x).map AV.strip0=u x):∃ v2 H2,afreeze 0 H v=some (v2,H2)∧v2.strip0=.ps .unk (l.map u):=by
 rcases h with ⟨h1,rfl⟩ | ⟨id,cs,m,rfl,h2,h3,h4⟩
 · exact ⟨_,_,rfl,by rw [h1];rfl⟩
 · refine ⟨_,_,frz_rs (lo:=0) (H:=H) (id:=id) (cap:=none) (cs:=cs) (rows:=l.map u) rfl (by rw [h3];rfl) ?_ ?_ ?_ (Nat.zero_le _),rfl⟩
   · intro r hr
     obtain ⟨x,_,rfl⟩:=List.mem_map.1 hr
     exact (hu x).1
   · exact pure_mrows (fun x=>(hu x).2.1) l
   · exact strip_mrows (fun x=>(hu x).2.2) l
theorem rst_row (x:Rst):(Pos.Rst.row x).length=4∧pureRow (Pos.Rst.row x)=true∧(Pos.Rst.row x).map AV.strip0=Pos.Rst.row x:=⟨rfl,rfl,rfl⟩
theorem msg_row (x:Msg):(Pos.Msg.row x).length=6∧pureRow (Pos.Msg.row x)=true∧(Pos.Msg.row x).map AV.strip0=Pos.Msg.row x:=⟨rfl,rfl,rfl⟩
theorem frz_pair {H:Heap} {v w:AV} {b:Bool} (hna:∀ cs,v ≠ .agg cs) (h:∃ v2 H2,afreeze 0 H v=some (v2,H2)∧v2.strip0=w):∃ v2 H2,frzV 0 H (.tup [v,.bool b])=some (v2,H2)∧v2.strip=.tup [w,.bool b]:=by
 obtain ⟨v2,H2,h1,h2⟩:=h
 have hA:frzA 0 H v=afreeze 0 H v:=by cases v<;>first | rfl | exact absurd rfl (hna _)
 have hB:frzA 0 H2 (.bool b)=some (.bool b,H2):=rfl
 refine ⟨.tup [v2,.bool b],H2, ?_, ?_⟩
 · simp only [frzV,frzAs,hA,h1,hB]
 · have hn:∀ cs,v2 ≠ .agg cs:=by
    intro cs hc
    subst hc
    cases v with
    | agg cs'=>exact absurd rfl (hna _)
    | rs id off n sz cap =>
      unfold afreeze at h1
      repeat' split at h1
      all_goals cases h1
    | _=>cases h1
   rw [← h2]
   cases v2<;>first | rfl | exact absurd rfl (hn _)
theorem e_cloneF {P:FuncId→Option (List AV→Option AV)} (hP:P 77=none) {f:List Rst} (hne:f ≠ []) (hl:f.length≤maxRows) (lo:Nat) (H:Heap) (K:AV→Heap→Prop):VO (aenter (NC.withPrims P) (R (NC.withPrims P)) lo 77 [.ps .unk (f.map Pos.Rst.row)] H) K=K (.rs H.n 0 f.length 4 none) (H.push (.row (f.map Pos.Rst.row).flatten 4 43)):=by
 cases f with
 | nil=>exact absurd rfl hne
 | cons x r =>
   obtain ⟨v,H',h1,rfl,rfl⟩:=r_cloneF (P:=P) x r hl H.n H (Nat.le_refl _)
   rw [en_cloneF hP rfl,h1]
   rfl
theorem eqt_bool:eqType NC.P 100 4=true:=by kernel_rfl
theorem aeq_ff:aeqT NC.P 100 4 (.bool false) (.bool false)=some true:=by kernel_rfl
theorem aeq_ft:aeqT NC.P 100 4 (.bool false) (.bool true)=some false:=by kernel_rfl
theorem aeq_tf:aeqT NC.P 100 4 (.bool true) (.bool false)=some false:=by kernel_rfl
theorem aeq_tt:aeqT NC.P 100 4 (.bool true) (.bool true)=some true:=by kernel_rfl
attribute [go_sem] eqt_bool aeq_ff aeq_ft aeq_tf aeq_tt
noncomputable def PPF49:FuncId→Option (List AV→Option AV):=addPrim 24 p24 (fun _=>none)
theorem primsF49:PrimsOk NC PPF49:=primsOk_add (primsOk_none) (by kernel_rfl) (by kernel_rfl) pok24
theorem enF49_24:En PPF49 24 p24:=enter_prim (by rfl) (by kernel_rfl)
attribute [go_sem ↓] enF49_24
theorem cA49 (f : List Rst) (m : Msg) (hp : f.length + 1 ≤ maxRows ∧ m.wd = false) : ∀ lo H, CallOk NC lo 49 [.ps .unk (f.map Pos.Rst.row), .agg m.row] H (.tup [.ps .unk ((Pos.applied f m).1.map Pos.Rst.row), .bool (Pos.applied f m).2]) H := by
 refine contract_frz saneNC primsF49 (fn := Tryz.f49) (by kernel_rfl) Tryz.func49 rfl rfl (by rfl) (by rfl) ?_
 obtain ⟨hl, hwd⟩ := hp
 obtain ⟨num, wd, name, frm, to, speed⟩ := m
 simp only at hwd
 subst hwd
 have hhas := pe24 f name (by omega)
 have hlen : (!decide (((f.map Pos.Rst.row).length : Int) < 64)) = decide (64 ≤ f.length) := by
  rw [List.length_map]
  by_cases h : 64 ≤ f.length
  · rw [decide_eq_true h, decide_eq_false (by omega)]; rfl
  · rw [decide_eq_false h, decide_eq_true (by omega)]; rfl
 have hlen2 : (!decide ((f.length : Int) < 64)) = decide (64 ≤ f.length) := by
  rw [List.length_map] at hlen; exact hlen
 unfold Pos.applied
 cases hh : Pos.hasR f name
 · rw [hh] at hhas
   by_cases c2 : 64 ≤ f.length
   · have hd := decide_eq_true c2
     have hcc : (false ≠ false ∨ false = false ∧ 64 ≤ f.length) := .inr ⟨rfl, c2⟩
     rw [if_pos hcc]
     simp (config := { maxDischargeDepth := 12 }) only [go_sem, reduceIte, reduceEqDiff, reduceAdd, reduceMul, reduceSub, reduceLeDiff, reduceLT, Nat.reduceBEq, reduceCtorEq, Pos.Msg.row, hhas, hlen, hlen2, hd]
     exact frz_pair (fun cs h => by cases h) ⟨_, _, rfl, rfl⟩
   · have hd := decide_eq_false c2
     have hcc : ¬ (false ≠ false ∨ false = false ∧ 64 ≤ f.length) := by simpa using c2
     rw [if_neg hcc, if_pos rfl]
     obtain ⟨H0, hH0⟩ : ∃ H0 : Heap, H0 = ((Heap.empty.push (.cells [.int .i64 num, .bool false, .str name, .int .i64 frm, .int .i64 to, .int .i64 speed] 86)).push (.cells [.str []] 9)).set 1 (.cells [.str name] 9) := ⟨_, rfl⟩
     have hn0 : H0.n = 2 := by rw [hH0]; simp [empty_n]
     have hg0 : H0.get 0 = .cells [.int .i64 num, .bool false, .str name, .int .i64 frm, .int .i64 to, .int .i64 speed] 86 := by rw [hH0]; rfl
     have hg1 : H0.get 1 = .cells [.str name] 9 := by rw [hH0]; rfl
     by_cases hne : f = []
     · subst hne
       simp only [List.map_nil] at hhas hlen
       have h64 : ((0 : Int) < 64) = True := eq_true (by decide)
       have hap : ∀ H : Heap, appR 0 H 4 43 (.ps .exact []) [[.str name, .int .i64 frm, .int .i64 to, .int .i64 speed]] = some (.rs H.n 0 1 4 none, H.push (.row [.str name, .int .i64 frm, .int .i64 to, .int .i64 speed] 4 43)) := fun H => rfl
       have hfz := frz_sv (u := Pos.Rst.row) (l := [⟨name, frm, to, speed⟩]) (H := H0.push (.row [.str name, .int .i64 frm, .int .i64 to, .int .i64 speed] 4 43)) (v := .rs 2 0 1 4 none) (te := 43) (.inr ⟨2, [], 0, rfl, by rw [hn_push, hn0]; decide, by rw [Heap.get_push, hn0, if_pos rfl]; rfl, rfl⟩) rst_row
       simp (config := { maxDischargeDepth := 12 }) only [go_sem, reduceIte, reduceEqDiff, reduceAdd, reduceMul, reduceSub, reduceLeDiff, reduceLT, Nat.reduceBEq, reduceCtorEq, appO, Pos.Msg.row, hhas, hlen, hlen2, hd, h64, en_cloneFn (P := PPF49) rfl, hap, ← hH0, hn0, hg0, hg1]
       exact frz_pair (fun cs h => by cases h) hfz
     · have hcl := e_cloneF (P := PPF49) rfl hne (by omega : f.length ≤ maxRows)
       have hsv : Pos.SV 4 43 (H0.push (.row (f.map Pos.Rst.row).flatten 4 43)) (.rs H0.n 0 f.length 4 none) (f.map Pos.Rst.row) := .inr ⟨H0.n, [], 0, by rw [List.length_map], by simp, by rw [Heap.get_push, if_pos rfl, List.append_nil], rfl⟩
       obtain ⟨v', H', ha, hv', _, _⟩ := Pos.appSV (Pos.Rst.row ⟨name, frm, to, speed⟩) hsv (rows_Len (by intro x; rfl) _) rfl rfl (by decide) (by rw [List.length_map]; exact hl)
       simp only [Pos.Rst.row] at ha
       rw [hn0] at ha
       have hfz := frz_sv (u := Pos.Rst.row) (l := f ++ [⟨name, frm, to, speed⟩]) (by rw [List.map_append]; exact hv') rst_row
       have hna : ∀ cs, v' ≠ .agg cs := by
        rcases hv' with ⟨_, rfl⟩ | ⟨_, _, _, rfl, _⟩ <;> exact fun cs h => by cases h
       simp (config := { maxDischargeDepth := 12 }) only [go_sem, reduceIte, reduceEqDiff, reduceAdd, reduceMul, reduceSub, reduceLeDiff, reduceLT, Nat.reduceBEq, reduceCtorEq, appO, Pos.Msg.row, hhas, hlen, hlen2, hd, hcl, ← hH0, hn0, hg0, hg1, ha]
       exact frz_pair hna hfz
 · rw [hh] at hhas
   have hcc : (false ≠ true ∨ false = false ∧ 64 ≤ f.length) := .inl (by decide)
   rw [if_pos hcc]
   simp (config := { maxDischargeDepth := 12 }) only [go_sem, reduceIte, reduceEqDiff, reduceAdd, reduceMul, reduceSub, reduceLeDiff, reduceLT, Nat.reduceBEq, reduceCtorEq, Pos.Msg.row, hhas, hlen, hlen2]
   exact frz_pair (fun cs h => by cases h) ⟨_, _, rfl, rfl⟩
theorem cB49 (f : List Rst) (m : Msg) (hp : f.length + 1 ≤ maxRows ∧ m.wd = true) : ∀ lo H, CallOk NC lo 49 [.ps .unk (f.map Pos.Rst.row), .agg m.row] H (.tup [.ps .unk ((Pos.applied f m).1.map Pos.Rst.row), .bool (Pos.applied f m).2]) H := by
 refine contract_frz saneNC primsT (fn := Tryz.f49) (by kernel_rfl) Tryz.func49 rfl rfl (by rfl) (by rfl) ?_
 obtain ⟨hl, hwd⟩ := hp
 obtain ⟨num, wd, name, frm, to, speed⟩ := m
 simp only at hwd
 subst hwd
 have hhas := fun H lo K => e_hasOf (H := H) (f := f) (s := name) (by omega) (lo := lo) (K := K)
 unfold Pos.applied
 cases hh : Pos.hasR f name
 · rw [hh] at hhas
   rw [if_pos (.inl (by simp))]
   simp (config := { maxDischargeDepth := 12 }) only [go_sem, reduceIte, reduceEqDiff, reduceAdd, reduceMul, reduceSub, reduceLeDiff, reduceLT, Nat.reduceBEq, reduceCtorEq, Pos.Msg.row, hhas]
   exact frz_pair (fun cs h => by cases h) ⟨_, _, rfl, rfl⟩
 · rw [hh] at hhas
   rw [if_neg (by simp), if_neg (by simp)]
   have hne : f ≠ [] := fun h => by rw [h] at hh; cases hh
   have hcl := e_cloneF (P := PPT) rfl hne (by omega : f.length ≤ maxRows)
   obtain ⟨H0, hH0⟩ : ∃ H0 : Heap, H0 = ((Heap.empty.push (.cells [.int .i64 num, .bool true, .str name, .int .i64 frm, .int .i64 to, .int .i64 speed] 86)).push (.cells [.str []] 9)).set 1 (.cells [.str name] 9) := ⟨_, rfl⟩
   have hn0 : H0.n = 2 := by rw [hH0]; simp [empty_n]
   have hg0 : H0.get 0 = .cells [.int .i64 num, .bool true, .str name, .int .i64 frm, .int .i64 to, .int .i64 speed] 86 := by rw [hH0]; rfl
   have hg1 : H0.get 1 = .cells [.str name] 9 := by rw [hH0]; rfl
   obtain ⟨v, H', hd, rfl, hn', cs, mm, hcs, hgd⟩ := r_delF (H := H0.push (.row (f.map Pos.Rst.row).flatten 4 43)) (id := 2) (b := 1) (f := f) (s := name) (by simp [hn0]) (by rw [Heap.get_push, hn0, if_pos rfl]) (by simp [hn0]) (by rw [Heap.get_push, hn0, if_neg (by decide)]; exact hg1) (by omega) hh (lo := 0) (Nat.zero_le _)
   have hdel := fun K => enter_f (K := K) (en78 rfl) hd
   have hfz := frz_sv (u := Pos.Rst.row) (l := leftR name f) (H := H') (v := .rs 2 0 (leftR name f).length 4 none) (te := 43) (.inr ⟨2, cs, mm, by rw [List.length_map], by simp [hn0] at hn'; omega, hgd, hcs⟩) rst_row
   simp (config := { maxDischargeDepth := 12 }) only [go_sem, reduceIte, reduceEqDiff, reduceAdd, reduceMul, reduceSub, reduceLeDiff, reduceLT, Nat.reduceBEq, reduceCtorEq, Pos.Msg.row, hhas, ← hH0, hn0, hg0, hg1, hcl, hdel]
   exact frz_pair (fun cs h => by cases h) hfz
theorem c49 (f:List Rst) (m:Msg) (hp:f.length+1≤maxRows):∀ lo H,CallOk NC lo 49 [.ps .unk (f.map Pos.Rst.row),.agg m.row] H (.tup [.ps .unk ((Pos.applied f m).1.map Pos.Rst.row),.bool (Pos.applied f m).2]) H:=by
 cases hw:m.wd with
 | false=>exact cA49 f m ⟨hp,hw⟩
 | true=>exact cB49 f m ⟨hp,hw⟩
noncomputable def p49:List AV→Option AV:=primOf (α:=(List Rst) × (Msg)) (fun x=>[.ps .unk (x.1.map Pos.Rst.row),.agg x.2.row]) (fun x=>x.1.length+1≤maxRows) (fun x=>.tup [.ps .unk ((Pos.applied x.1 x.2).1.map Pos.Rst.row),.bool (Pos.applied x.1 x.2).2])
theorem pok49:∀ args v,p49 args=some v → ∀ lo H,CallOk NC lo 49 args H v H:=by
 intro args v h
 obtain ⟨x,rfl,hp,rfl⟩:=primOf_inv h
 exact c49 x.1 x.2 hp
theorem pe49 (f:List Rst) (m:Msg) (hp:f.length+1≤maxRows):p49 [.ps .unk (f.map Pos.Rst.row),.agg m.row]=some (.tup [.ps .unk ((Pos.applied f m).1.map Pos.Rst.row),.bool (Pos.applied f m).2]):=primOf_enc (by intro x y h;(simp only [List.cons.injEq,AV.ps.injEq,AV.agg.injEq,Pos.Msg.row_inj,rsts_inj,true_and,and_true] at h;simpa only [Prod.ext_iff] using h)) (f,m) hp
attribute [go_sem] pe49
theorem applied_len (f:List Rst) (m:Msg):(Pos.applied f m).1.length≤f.length+1:=by
 unfold Pos.applied
 split
 · exact Nat.le_succ _
 · split
   · simp
   · exact Nat.le_trans (List.length_filter_le _ _) (Nat.le_succ _)
theorem after_len (l:List Msg):(Pos.afterF l).length≤l.length:=by
 have:∀ (l:List Msg) (f:List Rst),(l.foldl (fun f m=>(Pos.applied f m).1) f).length≤f.length+l.length:=fun l=>by
  induction l with
  | nil=>intro f;exact Nat.le_refl _
  | cons m l ih =>
    intro f
    have h1:=ih (Pos.applied f m).1
    have h2:=applied_len f m
    simp only [List.foldl_cons,List.length_cons]
    omega
 have h:=this l []
 simpa [Pos.afterF] using h
noncomputable def PPF23:FuncId→Option (List AV→Option AV):=addPrim 49 p49 (fun _=>none)
theorem primsF23:PrimsOk NC PPF23:=primsOk_add (primsOk_none) (by kernel_rfl) (by kernel_rfl) pok49
theorem enF23_49:En PPF23 49 p49:=enter_prim (by rfl) (by kernel_rfl)
attribute [go_sem ↓] enF23_49
theorem c23 (l:List Msg) (hp:l.length≤64):∀ lo H,CallOk NC lo 23 [.ps .unk (l.map Pos.Msg.row)] H (.ps .unk ((Pos.afterF l).map Pos.Rst.row)) H:=by
 refine contract saneNC primsF23 (fn:=Tryz.f23) (by kernel_rfl) Tryz.func23 rfl rfl (by rfl) (by first | rfl | (split<;>first | rfl | (split<;>rfl))) ?_
 have hl:=hp
 simp (config:={ maxDischargeDepth:=12 }) only [go_sem,reduceIte,reduceEqDiff,reduceAdd,reduceMul,reduceSub,reduceLeDiff,reduceLT,Nat.reduceBEq,reduceCtorEq]
 refine W_for (fun k T H M=>M=[]∧getT T 6=.ps .unk (l.map Pos.Msg.row)∧getT T 7=i64 (l.length:Nat)∧getT T 8=i64 k ∧ ∃ t,getT T 3=.ps t ((Pos.afterF (l.take k)).map Pos.Rst.row)) l.length ?_ ?_ ?_
 · simp (config:={ maxDischargeDepth:=12 }) only [go_sem,reduceIte,reduceEqDiff,reduceAdd,reduceMul,reduceSub,reduceLeDiff,reduceLT,Nat.reduceBEq,reduceCtorEq];exact ⟨.nil,rfl⟩
 · rintro k T H M hk ⟨rfl,g6,g7,g8,t,g3⟩
   obtain ⟨m,hm⟩:∃ x,l[k]? = some x:=⟨l[k],by simp⟩
   have hw:=wrap_succ hk (by unfold maxRows;omega:l.length≤maxRows)
   have hr:(l.map Pos.Msg.row)[k]? = some m.row:=map_at hm
   have hal:=after_len (l.take k)
   rw [List.length_take] at hal
   have hap:=pe49 (Pos.afterF (l.take k)) m (by unfold maxRows;omega)
   have hsn:(Pos.applied (Pos.afterF (l.take k)) m).1=Pos.afterF (l.take (k+1)):=by rw [Pos.take_snoc hm,Pos.after_snoc]
   rw [hsn] at hap
   generalize (Pos.applied (Pos.afterF (l.take k)) m).2=B at hap
   generalize Pos.afterF (l.take (k+1))=F' at hap ⊢
   generalize Pos.afterF (l.take k)=F at hap g3
   obtain ⟨num,wd,name,frm,to,speed⟩:=m
   simp only [Pos.Msg.row] at hap hr
   simp (config:={ maxDischargeDepth:=12 }) only [go_sem,reduceIte,reduceEqDiff,reduceAdd,reduceMul,reduceSub,reduceLeDiff,reduceLT,Nat.reduceBEq,reduceCtorEq,g3,g6,g7,g8,hk,hr,hw,hap]
   exact ⟨_,rfl⟩
 · rintro T H M ⟨rfl,g6,g7,g8,t,g3⟩
   rw [List.take_length] at g3
   simp (config:={ maxDischargeDepth:=12 }) only [go_sem,reduceIte,reduceEqDiff,reduceAdd,reduceMul,reduceSub,reduceLeDiff,reduceLT,Nat.reduceBEq,reduceCtorEq,g3,g6,g7,g8,Nat.lt_irrefl]
noncomputable def p23:List AV→Option AV:=primOf (α:=(List Msg)) (fun x=>[.ps .unk (x.map Pos.Msg.row)]) (fun x=>x.length≤64) (fun x=>.ps .unk ((Pos.afterF x).map Pos.Rst.row))
theorem pok23:∀ args v,p23 args=some v → ∀ lo H,CallOk NC lo 23 args H v H:=by
 intro args v h
 obtain ⟨x,rfl,hp,rfl⟩:=primOf_inv h
 exact c23 x hp
theorem pe23 (l:List Msg) (hp:l.length≤64):p23 [.ps .unk (l.map Pos.Msg.row)]=some (.ps .unk ((Pos.afterF l).map Pos.Rst.row)):=primOf_enc (by intro x y h;(simp only [List.cons.injEq,AV.agg.injEq,AV.str.injEq,AV.int.injEq,AV.ps.injEq,AV.bool.injEq,Pos.Rst.row_inj,Pos.Msg.row_inj,rsts_inj,msgs_inj,true_and,and_true] at h;first | simpa only [Prod.ext_iff] using h | simpa only [Prod.ext_iff,and_assoc] using h)) l hp
attribute [go_sem] pe23
def offGo:List Rst→Nat→List Msg→Int
 | _,_,[]=>0
 | f,i,m::l=>if firstI [msgE m,whenI (decide (m.num ≠ (i:Int)+1)) 11,whenI (!m.wd && Pos.hasR f m.r.name) 9,whenI (m.wd && !Pos.hasR f m.r.name) 10] ≠ 0 then firstI [msgE m,whenI (decide (m.num ≠ (i:Int)+1)) 11,whenI (!m.wd && Pos.hasR f m.r.name) 9,whenI (m.wd && !Pos.hasR f m.r.name) 10] else offGo (Pos.applied f m).1 (i+1) l
theorem offGo_cons (f:List Rst) (i:Nat) (m:Msg) (l:List Msg):offGo f i (m::l)=if firstI [msgE m,whenI (decide (m.num ≠ (i:Int)+1)) 11,whenI (!m.wd && Pos.hasR f m.r.name) 9,whenI (m.wd && !Pos.hasR f m.r.name) 10] ≠ 0 then firstI [msgE m,whenI (decide (m.num ≠ (i:Int)+1)) 11,whenI (!m.wd && Pos.hasR f m.r.name) 9,whenI (m.wd && !Pos.hasR f m.r.name) 10] else offGo (Pos.applied f m).1 (i+1) l:=rfl
def officeE (l:List Msg) (a:Int):Int:=if 64 < l.length then 5 else if offGo [] 0 l ≠ 0 then offGo [] 0 l else withinI a 0 l.length
noncomputable def PPF21:FuncId→Option (List AV→Option AV):=addPrim 37 p37 (addPrim 49 p49 (addPrim 20 p20 (addPrim 48 p48 (addPrim 47 p47 (addPrim 24 p24 (fun _=>none))))))
theorem primsF21:PrimsOk NC PPF21:=primsOk_add (primsOk_add (primsOk_add (primsOk_add (primsOk_add (primsOk_add (primsOk_none) (by kernel_rfl) (by kernel_rfl) pok24) (by kernel_rfl) (by kernel_rfl) pok47) (by kernel_rfl) (by kernel_rfl) pok48) (by kernel_rfl) (by kernel_rfl) pok20) (by kernel_rfl) (by kernel_rfl) pok49) (by kernel_rfl) (by kernel_rfl) pok37
theorem enF21_24:En PPF21 24 p24:=enter_prim (by rfl) (by kernel_rfl)
theorem enF21_47:En PPF21 47 p47:=enter_prim (by rfl) (by kernel_rfl)
theorem enF21_48:En PPF21 48 p48:=enter_prim (by rfl) (by kernel_rfl)
theorem enF21_20:En PPF21 20 p20:=enter_prim (by rfl) (by kernel_rfl)
theorem enF21_49:En PPF21 49 p49:=enter_prim (by rfl) (by kernel_rfl)
theorem enF21_37:En PPF21 37 p37:=enter_prim (by rfl) (by kernel_rfl)
attribute [go_sem ↓] enF21_24 enF21_47 enF21_48 enF21_20 enF21_49 enF21_37
theorem c21 (l:List Msg) (a:Int) (hp:l.length≤maxRows):∀ lo H,CallOk NC lo 21 [.agg [.ps .unk (l.map Pos.Msg.row),i64 a]] H (i64 (officeE l a)) H:=by
 refine contract saneNC primsF21 (fn:=Tryz.f21) (by kernel_rfl) Tryz.func21 rfl rfl (by rfl) (by first | rfl | (split<;>first | rfl | (split<;>rfl))) ?_
 have hlr:=hp
 unfold officeE
 by_cases hl:64 < l.length
 · have h1:((64:Int) < (l.length:Int))=True:=eq_true (by omega)
   rw [if_pos hl]
   simp (config:={ maxDischargeDepth:=12 }) only [go_sem,reduceIte,reduceEqDiff,reduceAdd,reduceMul,reduceSub,reduceLeDiff,reduceLT,Nat.reduceBEq,reduceCtorEq,h1]
 have h1:((64:Int) < (l.length:Int))=False:=eq_false (by omega)
 rw [if_neg hl]
 simp (config:={ maxDischargeDepth:=12 }) only [go_sem,reduceIte,reduceEqDiff,reduceAdd,reduceMul,reduceSub,reduceLeDiff,reduceLT,Nat.reduceBEq,reduceCtorEq,h1]
 refine W_for (fun k T H M=>M=[]∧getT T 1=.ptr 0 0∧0 < H.n∧H.get 0=.cells [.ps .unk (l.map Pos.Msg.row),.int .i64 a] 31∧getT T 13=.ps .unk (l.map Pos.Msg.row)∧getT T 14=i64 (l.length:Nat)∧getT T 15=i64 k∧offGo [] 0 l=offGo (Pos.afterF (l.take k)) k (l.drop k) ∧ ∃ t,getT T 3=.ps t ((Pos.afterF (l.take k)).map Pos.Rst.row)) l.length ?_ ?_ ?_
 · simp (config:={ maxDischargeDepth:=12 }) only [go_sem,reduceIte,reduceEqDiff,reduceAdd,reduceMul,reduceSub,reduceLeDiff,reduceLT,Nat.reduceBEq,reduceCtorEq]
   exact ⟨rfl,.nil,rfl⟩
 · rintro k T H M hk ⟨rfl,g1,hn,hg,g13,g14,g15,hsp,t,g3⟩
   obtain ⟨m,hm⟩:∃ x,l[k]? = some x:=⟨l[k],by simp⟩
   have hw:=wrap_succ hk (by unfold maxRows;omega:l.length≤maxRows)
   have hr:(l.map Pos.Msg.row)[k]? = some m.row:=map_at hm
   have hal:=after_len (l.take k)
   rw [List.length_take] at hal
   have hap:=pe49 (Pos.afterF (l.take k)) m (by unfold maxRows;omega)
   have hhs:=pe24 (Pos.afterF (l.take k)) m.r.name (by unfold maxRows;omega)
   have hck:=pe47 m
   have hsn:(Pos.applied (Pos.afterF (l.take k)) m).1=Pos.afterF (l.take (k+1)):=by rw [Pos.take_snoc hm,Pos.after_snoc]
   rw [drop_at hm,offGo_cons,hsn] at hsp
   rw [hsn] at hap
   generalize (Pos.applied (Pos.afterF (l.take k)) m).2=B at hap
   generalize Pos.afterF (l.take (k+1))=F' at hap hsp ⊢
   generalize Pos.afterF (l.take k)=F at hap hhs hsp g3
   obtain ⟨num,wd,name,frm,to,speed⟩:=m
   simp only at hsp hhs
   have hne:(decide (num ≠ (k:Int)+1)) = !decide (num=(k:Int)+1):=by rw [decide_not]
   rw [hne] at hsp
   simp only [Pos.Msg.row] at hap hr hck
   have hn0:((0:Nat)=H.n)=False:=eq_false (by omega)
   generalize hE:firstI [msgE ⟨num,wd,⟨name,frm,to,speed⟩⟩,whenI (!decide (num=(k:Int)+1)) 11,whenI (!wd && Pos.hasR F name) 9,whenI (wd && !Pos.hasR F name) 10]=E at hsp
   have hk1:(k:Int)+1=((k+1:Nat):Int):=by omega
   rw [hk1] at hE
   cases wd<;>simp only [Bool.not_false,Bool.not_true,Bool.true_and,Bool.false_and] at hE
   all_goals
    by_cases hE0:E=0
    · subst hE0
      rw [if_neg (by simp)] at hsp
      simp (config:={ maxDischargeDepth:=12 }) only [go_sem,reduceIte,reduceEqDiff,reduceAdd,reduceMul,reduceSub,reduceLeDiff,reduceLT,Nat.reduceBEq,reduceCtorEq,g1,g3,g13,g14,g15,hk,hr,hap,hhs,hck,hw,hE,hg,hn0,hn]
      exact ⟨hsp,_,rfl⟩
    · rw [if_pos hE0] at hsp
      rw [hsp,if_pos hE0]
      simp (config:={ maxDischargeDepth:=12 }) only [go_sem,reduceIte,reduceEqDiff,reduceAdd,reduceMul,reduceSub,reduceLeDiff,reduceLT,Nat.reduceBEq,reduceCtorEq,g1,g3,g13,g14,g15,hk,hr,hap,hhs,hck,hw,hE,hE0,hg,hn0,hn]
 · rintro T H M ⟨rfl,g1,hn,hg,g13,g14,g15,hsp,t,g3⟩
   rw [List.drop_length] at hsp
   have h0:offGo [] 0 l=0:=hsp
   rw [if_neg (by rw [h0];simp)]
   simp (config:={ maxDischargeDepth:=12 }) only [go_sem,reduceIte,reduceEqDiff,reduceAdd,reduceMul,reduceSub,reduceLeDiff,reduceLT,Nat.reduceBEq,reduceCtorEq,g1,g3,g13,g14,g15,Nat.lt_irrefl,hg]
noncomputable def p21:List AV→Option AV:=primOf (α:=(List Msg) × (Int)) (fun x=>[.agg [.ps .unk (x.1.map Pos.Msg.row),i64 x.2]]) (fun x=>x.1.length≤maxRows) (fun x=>i64 (officeE x.1 x.2))
theorem pok21:∀ args v,p21 args=some v → ∀ lo H,CallOk NC lo 21 args H v H:=by
 intro args v h
 obtain ⟨x,rfl,hp,rfl⟩:=primOf_inv h
 exact c21 x.1 x.2 hp
theorem pe21 (l:List Msg) (a:Int) (hp:l.length≤maxRows):p21 [.agg [.ps .unk (l.map Pos.Msg.row),.int .i64 a]]=some (.int .i64 (officeE l a)):=primOf_enc (by intro x y h;(simp only [List.cons.injEq,AV.agg.injEq,AV.str.injEq,AV.int.injEq,AV.ps.injEq,AV.bool.injEq,Pos.Rst.row_inj,Pos.Msg.row_inj,rsts_inj,msgs_inj,true_and,and_true] at h;first | simpa only [Prod.ext_iff] using h | simpa only [Prod.ext_iff,and_assoc] using h)) (l,a) hp
attribute [go_sem] pe21
theorem frz_off {H:Heap} {v w:AV} {a c:Int} (hna:∀ cs,v ≠ .agg cs) (h:∃ v2 H2,afreeze 0 H v=some (v2,H2)∧v2.strip0=w):∃ v2 H2,frzV 0 H (.tup [.agg [v,.int .i64 a],.int .i64 c])=some (v2,H2)∧v2.strip=.tup [.agg [w,.int .i64 a],.int .i64 c]:=by
 obtain ⟨v2,H2,h1,h2⟩:=h
 have hA:frzA 0 H (.agg [v,.int .i64 a])=some (.agg [v2,.int .i64 a],H2):=by
  unfold frzA
  simp only [frzL,h1,frz_int]
 have hB:frzA 0 H2 (.int .i64 c)=some (.int .i64 c,H2):=rfl
 refine ⟨.tup [.agg [v2,.int .i64 a],.int .i64 c],H2, ?_, ?_⟩
 · simp only [frzV,frzAs,hA,hB]
 · rw [← h2]
   rfl
def withV (l:List Msg) (a:Int) (wd:Bool) (r:Rst):AV:=if 64≤l.length then .tup [.agg [.ps .unk [],.int .i64 0],.int .i64 5] else .tup [.agg [.ps .unk ((l++[(⟨(l.length:Int)+1,wd,r⟩:Msg)]).map Pos.Msg.row),.int .i64 a],.int .i64 0]
noncomputable def PPF25:FuncId→Option (List AV→Option AV):=fun _=>none
theorem primsF25:PrimsOk NC PPF25:=primsOk_none
theorem c25 (l : List Msg) (a : Int) (wd : Bool) (r : Rst) (hp : l.length ≤ maxRows) : ∀ lo H, CallOk NC lo 25 [.agg [.ps .unk (l.map Pos.Msg.row), i64 a], .bool wd, .agg r.row] H (withV l a wd r) H := by
 refine contract_frz saneNC primsF25 (fn := Tryz.f25) (by kernel_rfl) Tryz.func25 rfl rfl (by rfl) (by unfold withV; split <;> rfl) ?_
 obtain ⟨name, frm, to, speed⟩ := r
 have hd : (!decide ((l.length : Int) < 64)) = decide (64 ≤ l.length) := by
  by_cases h : 64 ≤ l.length
  · rw [decide_eq_true h, decide_eq_false (by omega)]; rfl
  · rw [decide_eq_false h, decide_eq_true (by omega)]; rfl
 unfold withV
 by_cases c : 64 ≤ l.length
 · rw [if_pos c]
   have hd1 := decide_eq_true c
   simp (config := { maxDischargeDepth := 12 }) only [go_sem, reduceIte, reduceEqDiff, reduceAdd, reduceMul, reduceSub, reduceLeDiff, reduceLT, Nat.reduceBEq, reduceCtorEq, Pos.Rst.row, hd, hd1]
   exact frz_off (fun cs h => by cases h) ⟨_, _, rfl, rfl⟩
 · rw [if_neg c]
   have hd1 := decide_eq_false c
   have hw : wrapq .i64 (Int.add (l.length : Int) 1) = ((l.length + 1 : Nat) : Int) := wrap_nat (n := l.length + 1) (by omega)
   obtain ⟨z, hz⟩ : ∃ z, zeroOf NC.P 86 = some z := ⟨_, ze_86⟩
   have hzl : z.cells.length = 6 := by rw [ze_86] at hz; cases hz; rfl
   have hmk := fun (H : Heap) => mk_more (H := H) (t := 29) (e := 86) (z := z) (sz := 6) (b := 56) (N := l.length) (M := l.length + 1) (by kernel_rfl) (by kernel_rfl) (by kernel_rfl) hz hzl (by decide) (by decide) (by unfold maxRows; omega) (Nat.lt_succ_self _)
   generalize hZ : (List.replicate (l.length + 1) z.cells).flatten = Z at hmk
   have hZl : Z.length = (l.length + 1) * 6 := by
    rw [← hZ, flat_len (sz := 6) (fun r hr => by rw [List.eq_of_mem_replicate hr]; exact hzl), List.length_replicate]
   have hone : (l.map Pos.Msg.row).flatten.all AV.one = true := by
    rw [List.all_eq_true]
    intro c hc
    obtain ⟨r, hr, hc⟩ := List.mem_flatten.1 hc
    obtain ⟨m, _, rfl⟩ := List.mem_map.1 hr
    simp only [Pos.Msg.row, List.mem_cons, List.not_mem_nil, or_false] at hc
    rcases hc with rfl | rfl | rfl | rfl | rfl | rfl <;> rfl
   obtain ⟨H3, hH3⟩ : ∃ H3 : Heap, H3 = (((Heap.empty.push (.cells [.ps .unk (l.map Pos.Msg.row), .int .i64 a] 31)).push (.cells [.str name, .int .i64 frm, .int .i64 to, .int .i64 speed] 43)).push (.cells [.ps .nil [], .int .i64 0] 31)).push (.row Z 6 86) := ⟨_, rfl⟩
   have hn3 : H3.n = 4 := by rw [hH3]; simp [empty_n]
   have hg3 : H3.get 3 = .row Z 6 86 := by rw [hH3]; simp [Heap.get_push, empty_n]
   obtain ⟨Hc, hHc⟩ : ∃ Hc : Heap, Hc = H3.set 3 (.row ((l.map Pos.Msg.row).flatten ++ Z.drop (l.length * 6)) 6 86) := ⟨_, rfl⟩
   have hcp : acopy NC.P 0 H3 29 (.rs 3 0 l.length 6 none) (.ps .unk (l.map Pos.Msg.row)) = some (.int .i64 (l.length : Nat), Hc) := by
    rw [hHc]
    exact cp_row (e := 86) (by kernel_rfl) (by kernel_rfl) hg3 (by rw [hZl, Nat.succ_mul]; omega) (List.length_map _) (rows_Len (by intro x; rfl) _) hone (Nat.zero_le _)
   have hg0 : H3.get 0 = .cells [.ps .unk (l.map Pos.Msg.row), .int .i64 a] 31 := by rw [hH3]; simp [Heap.get_push, empty_n]
   have k0 : Hc.get 0 = .cells [.ps .unk (l.map Pos.Msg.row), .int .i64 a] 31 := by rw [hHc, Heap.get_set, if_neg (by decide)]; exact hg0
   have k1 : Hc.get 1 = .cells [.str name, .int .i64 frm, .int .i64 to, .int .i64 speed] 43 := by rw [hHc, Heap.get_set, if_neg (by decide), hH3]; simp [Heap.get_push, empty_n]
   have k2 : Hc.get 2 = .cells [.ps .nil [], .int .i64 0] 31 := by rw [hHc, Heap.get_set, if_neg (by decide), hH3]; simp [Heap.get_push, empty_n]
   have hnc : Hc.n = 4 := by rw [hHc]; simpa using hn3
   have hsv : Pos.SV 6 86 Hc (.rs 3 0 l.length 6 none) (l.map Pos.Msg.row) := .inr ⟨3, Z.drop (l.length * 6), 1, by rw [List.length_map], by rw [hnc]; decide, by rw [hHc, Heap.get_set, if_pos rfl], by rw [List.length_drop, hZl, Nat.succ_mul]; omega⟩
   obtain ⟨v', H', ha, hv', hn', hk'⟩ := Pos.appSV (Pos.Msg.row ⟨(l.length : Int) + 1, wd, ⟨name, frm, to, speed⟩⟩) hsv (rows_Len (by intro x; rfl) _) rfl rfl (by decide) (by rw [List.length_map]; unfold maxRows; omega)
   simp only [Pos.Msg.row] at ha
   have e1 : (l.length : Int) + 1 = ((l.length + 1 : Nat) : Int) := by omega
   rw [e1] at ha
   have hs0 : H'.get 0 = _ := (hk' 0 (by omega) (by simp)).trans k0
   have hs2 : H'.get 2 = _ := (hk' 2 (by omega) (by simp)).trans k2
   have hfz : ∃ v2 H2, afreeze 0 (H'.set 2 (.cells [v', .int .i64 a] 31)) v' = some (v2, H2) ∧ v2.strip0 = .ps .unk ((l ++ [(⟨(l.length : Int) + 1, wd, ⟨name, frm, to, speed⟩⟩ : Msg)]).map Pos.Msg.row) := by
    refine frz_sv (u := Pos.Msg.row) (te := 86) (sz := 6) (l := l ++ [⟨(l.length : Int) + 1, wd, ⟨name, frm, to, speed⟩⟩]) ?_ msg_row
    rw [List.map_append]
    refine hv'.keep (by simp) fun i hi hv => ?_
    rw [Heap.get_set]
    split
    · rename_i he
      subst he
      rcases hv' with ⟨h1, _⟩ | ⟨id, cs, m, h1, h2, h3, _⟩
      · simp at h1
      · rw [hv] at h1
        cases h1
        rw [hs2] at h3
        cases h3
    · rfl
   have hna : ∀ cs, v' ≠ .agg cs := by
    rcases hv' with ⟨_, rfl⟩ | ⟨_, _, _, rfl, _⟩ <;> exact fun cs h => by cases h
   have hv1 : v'.one = true := by
    rcases hv' with ⟨_, rfl⟩ | ⟨_, _, _, rfl, _⟩ <;> rfl
   unfold AV.one at hv1
   simp (config := { maxDischargeDepth := 12 }) only [go_sem, reduceIte, reduceEqDiff, reduceAdd, reduceMul, reduceSub, reduceLeDiff, reduceLT, Nat.reduceBEq, reduceCtorEq, appO, Pos.Rst.row, hd, hd1, hw, hmk, ← hH3, hn3, hg0, hcp, k0, k1, k2, hnc, ha, hs0, hs2, hv1]
   exact frz_off hna hfz
noncomputable def p25:List AV→Option AV:=primOf (α:=(List Msg) × (Int) × (Bool) × (Rst)) (fun x=>[.agg [.ps .unk (x.1.map Pos.Msg.row),i64 x.2.1],.bool x.2.2.1,.agg x.2.2.2.row]) (fun x=>x.1.length≤maxRows) (fun x=>withV x.1 x.2.1 x.2.2.1 x.2.2.2)
theorem pok25:∀ args v,p25 args=some v → ∀ lo H,CallOk NC lo 25 args H v H:=by
 intro args v h
 obtain ⟨x,rfl,hp,rfl⟩:=primOf_inv h
 exact c25 x.1 x.2.1 x.2.2.1 x.2.2.2 hp
theorem pe25 (l:List Msg) (a:Int) (wd:Bool) (r:Rst) (hp:l.length≤maxRows):p25 [.agg [.ps .unk (l.map Pos.Msg.row),.int .i64 a],.bool wd,.agg r.row]=some (withV l a wd r):=primOf_enc (by intro x y h;(simp only [List.cons.injEq,AV.agg.injEq,AV.str.injEq,AV.int.injEq,AV.ps.injEq,AV.bool.injEq,Pos.Rst.row_inj,Pos.Msg.row_inj,rsts_inj,msgs_inj,true_and,and_true] at h;first | simpa only [Prod.ext_iff] using h | simpa only [Prod.ext_iff,and_assoc] using h)) (l,a,wd,r) hp
attribute [go_sem] pe25
noncomputable def PPF29:FuncId→Option (List AV→Option AV):=fun _=>none
theorem primsF29:PrimsOk NC PPF29:=primsOk_none
theorem c29 (l:List Msg) (a:Int) (hp:l.length≤maxRows):∀ lo H,CallOk NC lo 29 [.agg [.ps .unk (l.map Pos.Msg.row),i64 a]] H (.agg [.ps .unk (l.map Pos.Msg.row),i64 a]) H:=by
 refine contract saneNC primsF29 (fn:=Tryz.f29) (by kernel_rfl) Tryz.func29 rfl rfl (by rfl) (by first | rfl | (split<;>first | rfl | (split<;>rfl))) ?_
 obtain ⟨t,ht⟩:=e_cloneM (P:=PPF29) rfl l hp
 simp (config:={ maxDischargeDepth:=12 }) only [go_sem,reduceIte,reduceEqDiff,reduceAdd,reduceMul,reduceSub,reduceLeDiff,reduceLT,Nat.reduceBEq,reduceCtorEq,ht]
noncomputable def p29:List AV→Option AV:=primOf (α:=(List Msg) × (Int)) (fun x=>[.agg [.ps .unk (x.1.map Pos.Msg.row),i64 x.2]]) (fun x=>x.1.length≤maxRows) (fun x=>.agg [.ps .unk (x.1.map Pos.Msg.row),i64 x.2])
theorem pok29:∀ args v,p29 args=some v → ∀ lo H,CallOk NC lo 29 args H v H:=by
 intro args v h
 obtain ⟨x,rfl,hp,rfl⟩:=primOf_inv h
 exact c29 x.1 x.2 hp
theorem pe29 (l:List Msg) (a:Int) (hp:l.length≤maxRows):p29 [.agg [.ps .unk (l.map Pos.Msg.row),.int .i64 a]]=some (.agg [.ps .unk (l.map Pos.Msg.row),.int .i64 a]):=primOf_enc (by intro x y h;(simp only [List.cons.injEq,AV.agg.injEq,AV.str.injEq,AV.int.injEq,AV.ps.injEq,AV.bool.injEq,Pos.Rst.row_inj,Pos.Msg.row_inj,rsts_inj,msgs_inj,true_and,and_true] at h;first | simpa only [Prod.ext_iff] using h | simpa only [Prod.ext_iff,and_assoc] using h)) (l,a) hp
attribute [go_sem] pe29
noncomputable def PPF30:FuncId→Option (List AV→Option AV):=fun _=>none
theorem primsF30:PrimsOk NC PPF30:=primsOk_none
theorem c30 (h:Int) (f:List Rst) (hp:f.length≤maxRows):∀ lo H,CallOk NC lo 30 [.agg [i64 h,.ps .unk (f.map Pos.Rst.row)]] H (.agg [i64 h,.ps .unk (f.map Pos.Rst.row)]) H:=by
 refine contract saneNC primsF30 (fn:=Tryz.f30) (by kernel_rfl) Tryz.func30 rfl rfl (by rfl) (by first | rfl | (split<;>first | rfl | (split<;>rfl))) ?_
 obtain ⟨t,ht⟩:=e_cloneR (P:=PPF30) rfl f hp
 simp (config:={ maxDischargeDepth:=12 }) only [go_sem,reduceIte,reduceEqDiff,reduceAdd,reduceMul,reduceSub,reduceLeDiff,reduceLT,Nat.reduceBEq,reduceCtorEq,ht]
noncomputable def p30:List AV→Option AV:=primOf (α:=(Int) × (List Rst)) (fun x=>[.agg [i64 x.1,.ps .unk (x.2.map Pos.Rst.row)]]) (fun x=>x.2.length≤maxRows) (fun x=>.agg [i64 x.1,.ps .unk (x.2.map Pos.Rst.row)])
theorem pok30:∀ args v,p30 args=some v → ∀ lo H,CallOk NC lo 30 args H v H:=by
 intro args v h
 obtain ⟨x,rfl,hp,rfl⟩:=primOf_inv h
 exact c30 x.1 x.2 hp
theorem pe30 (h:Int) (f:List Rst) (hp:f.length≤maxRows):p30 [.agg [.int .i64 h,.ps .unk (f.map Pos.Rst.row)]]=some (.agg [.int .i64 h,.ps .unk (f.map Pos.Rst.row)]):=primOf_enc (by intro x y h;(simp only [List.cons.injEq,AV.agg.injEq,AV.str.injEq,AV.int.injEq,AV.ps.injEq,AV.bool.injEq,Pos.Rst.row_inj,Pos.Msg.row_inj,rsts_inj,msgs_inj,true_and,and_true] at h;first | simpa only [Prod.ext_iff] using h | simpa only [Prod.ext_iff,and_assoc] using h)) (h,f) hp
attribute [go_sem] pe30
def impV (l:List Msg) (a:Int) (r:Rst):AV:=if firstI [officeE l a,rstE r] ≠ 0 then .tup [.agg [.ps .unk [],.int .i64 0],.int .i64 (firstI [officeE l a,rstE r])] else if Pos.hasR (Pos.afterF l) r.name=true then .tup [.agg [.ps .unk [],.int .i64 0],.int .i64 9] else withV l a false r
theorem office_len {l:List Msg} {a:Int} (h:officeE l a=0):l.length≤64:=by
 unfold officeE at h
 split at h
 · cases h
 · omega
noncomputable def PPF9:FuncId→Option (List AV→Option AV):=addPrim 25 p25 (addPrim 24 p24 (addPrim 23 p23 (addPrim 20 p20 (addPrim 22 p22 (addPrim 21 p21 (fun _=>none))))))
theorem primsF9:PrimsOk NC PPF9:=primsOk_add (primsOk_add (primsOk_add (primsOk_add (primsOk_add (primsOk_add (primsOk_none) (by kernel_rfl) (by kernel_rfl) pok21) (by kernel_rfl) (by kernel_rfl) pok22) (by kernel_rfl) (by kernel_rfl) pok20) (by kernel_rfl) (by kernel_rfl) pok23) (by kernel_rfl) (by kernel_rfl) pok24) (by kernel_rfl) (by kernel_rfl) pok25
theorem enF9_21:En PPF9 21 p21:=enter_prim (by rfl) (by kernel_rfl)
theorem enF9_22:En PPF9 22 p22:=enter_prim (by rfl) (by kernel_rfl)
theorem enF9_20:En PPF9 20 p20:=enter_prim (by rfl) (by kernel_rfl)
theorem enF9_23:En PPF9 23 p23:=enter_prim (by rfl) (by kernel_rfl)
theorem enF9_24:En PPF9 24 p24:=enter_prim (by rfl) (by kernel_rfl)
theorem enF9_25:En PPF9 25 p25:=enter_prim (by rfl) (by kernel_rfl)
attribute [go_sem ↓] enF9_21 enF9_22 enF9_20 enF9_23 enF9_24 enF9_25
theorem c9 (l:List Msg) (a:Int) (r:Rst) (hp:l.length≤maxRows):∀ lo H,CallOk NC lo 9 [.agg [.ps .unk (l.map Pos.Msg.row),i64 a],.agg r.row] H (impV l a r) H:=by
 refine contract saneNC primsF9 (fn:=Tryz.f9) (by kernel_rfl) Tryz.func9 rfl rfl (by rfl) (by unfold impV withV;(repeat' split)<;>rfl) ?_
 have hl:=hp
 have hof:=pe21 l a hl
 have hrc:=pe22 r
 have hwi:=pe25 l a false r hl
 obtain ⟨name,frm,to,speed⟩:=r
 simp only [Pos.Rst.row] at hrc hwi
 unfold impV
 generalize hR:rstE ⟨name,frm,to,speed⟩=RE at hrc ⊢
 by_cases c1:firstI [officeE l a,RE]=0
 · rw [if_neg (by simpa using c1)]
   have ho:officeE l a=0:=by
    refine Decidable.byContradiction fun h => ?_
    simp [firstI,h] at c1
   have hlen:=office_len ho
   have haf:=pe23 l hlen
   have hal:=after_len l
   have hha:=pe24 (Pos.afterF l) name (by unfold maxRows;omega)
   cases hh:Pos.hasR (Pos.afterF l) name
   · rw [hh] at hha
     rw [if_neg (by simp)]
     unfold withV at hwi ⊢
     by_cases c2:64≤l.length
     · rw [if_pos c2] at hwi ⊢
       simp (config:={ maxDischargeDepth:=12 }) only [go_sem,reduceIte,reduceEqDiff,reduceAdd,reduceMul,reduceSub,reduceLeDiff,reduceLT,Nat.reduceBEq,reduceCtorEq,Pos.Rst.row,hof,hrc,c1,haf,hha,hwi]
     · rw [if_neg c2] at hwi ⊢
       simp (config:={ maxDischargeDepth:=12 }) only [go_sem,reduceIte,reduceEqDiff,reduceAdd,reduceMul,reduceSub,reduceLeDiff,reduceLT,Nat.reduceBEq,reduceCtorEq,Pos.Rst.row,hof,hrc,c1,haf,hha,hwi]
   · rw [hh] at hha
     rw [if_pos rfl]
     simp (config:={ maxDischargeDepth:=12 }) only [go_sem,reduceIte,reduceEqDiff,reduceAdd,reduceMul,reduceSub,reduceLeDiff,reduceLT,Nat.reduceBEq,reduceCtorEq,Pos.Rst.row,hof,hrc,c1,haf,hha]
 · rw [if_pos c1]
   simp (config:={ maxDischargeDepth:=12 }) only [go_sem,reduceIte,reduceEqDiff,reduceAdd,reduceMul,reduceSub,reduceLeDiff,reduceLT,Nat.reduceBEq,reduceCtorEq,Pos.Rst.row,hof,hrc,c1]
noncomputable def p9:List AV→Option AV:=primOf (α:=(List Msg) × (Int) × (Rst)) (fun x=>[.agg [.ps .unk (x.1.map Pos.Msg.row),i64 x.2.1],.agg x.2.2.row]) (fun x=>x.1.length≤maxRows) (fun x=>impV x.1 x.2.1 x.2.2)
theorem pok9:∀ args v,p9 args=some v → ∀ lo H,CallOk NC lo 9 args H v H:=by
 intro args v h
 obtain ⟨x,rfl,hp,rfl⟩:=primOf_inv h
 exact c9 x.1 x.2.1 x.2.2 hp
theorem pe9 (l:List Msg) (a:Int) (r:Rst) (hp:l.length≤maxRows):p9 [.agg [.ps .unk (l.map Pos.Msg.row),.int .i64 a],.agg r.row]=some (impV l a r):=primOf_enc (by intro x y h;(simp only [List.cons.injEq,AV.agg.injEq,AV.str.injEq,AV.int.injEq,AV.ps.injEq,AV.bool.injEq,Pos.Rst.row_inj,Pos.Msg.row_inj,rsts_inj,msgs_inj,true_and,and_true] at h;first | simpa only [Prod.ext_iff] using h | simpa only [Prod.ext_iff,and_assoc] using h)) (l,a,r) hp
attribute [go_sem] pe9
def safeV (l:List Msg) (a:Int):AV:=if officeE l a ≠ 0 then .tup [.bool false,.int .i64 (officeE l a)] else .tup [.bool (decide (a=(l.length:Int))),.int .i64 0]
theorem office_ack {l:List Msg} {a:Int} (h:officeE l a=0):0≤a∧a≤l.length:=by
 unfold officeE at h
 split at h
 · cases h
 split at h
 · rename_i h2;exact absurd h h2
 unfold withinI whenI at h
 split at h
 · cases h
 · rename_i h2
   simp only [Bool.or_eq_true,decide_eq_true_eq] at h2
   omega
noncomputable def PPF13:FuncId→Option (List AV→Option AV):=addPrim 21 p21 (fun _=>none)
theorem primsF13:PrimsOk NC PPF13:=primsOk_add (primsOk_none) (by kernel_rfl) (by kernel_rfl) pok21
theorem enF13_21:En PPF13 21 p21:=enter_prim (by rfl) (by kernel_rfl)
attribute [go_sem ↓] enF13_21
theorem c13 (l:List Msg) (a:Int) (hp:l.length≤maxRows∧(∀ z ∈ l,z.wd=false)):∀ lo H,CallOk NC lo 13 [.agg [.ps .unk (l.map Pos.Msg.row),i64 a]] H (safeV l a) H:=by
 refine contract saneNC primsF13 (fn:=Tryz.f13) (by kernel_rfl) Tryz.func13 rfl rfl (by rfl) (by unfold safeV;split<;>rfl) ?_
 obtain ⟨hl,hwd⟩:=hp
 have hof:=pe21 l a hl
 unfold safeV
 by_cases c1:officeE l a=0
 · rw [if_neg (by simpa using c1)]
   obtain ⟨h0,h1⟩:=office_ack c1
   have hlen:=office_len c1
   have hsub:wrapq .i64 (Int.sub (l.length:Int) a)=(l.length:Int) - a:=by
    show wrapq .i64 ((l.length:Int) - a)=_
    exact wrapq_i64 (by omega) (by omega)
   obtain ⟨n,rfl⟩:=Int.eq_ofNat_of_zero_le h0
   have hn:n≤l.length:=by omega
   have hadd:wrapq .i64 (Int.add (n:Int) 0)=(n:Int):=by
    show wrapq .i64 ((n:Int)+0)=_
    rw [Int.add_zero]
    exact wrap_nat (by omega)
   simp (config:={ maxDischargeDepth:=12 }) only [go_sem,reduceIte,reduceEqDiff,reduceAdd,reduceMul,reduceSub,reduceLeDiff,reduceLT,Nat.reduceBEq,reduceCtorEq,hof,c1,hsub]
   by_cases he:n=l.length
   · have hd:decide ((n:Int)=(l.length:Int))=true:=decide_eq_true (by omega)
     have hlt:((0:Int) < (l.length:Int) - (n:Int))=False:=eq_false (by omega)
     refine W_for (fun k T H M=>M=[]∧getT T 16=.int .i64 ((l.length:Int) - (n:Int))∧getT T 17=.int .i64 0) 0 ?_ ?_ ?_
     · simp (config:={ maxDischargeDepth:=12 }) only [go_sem,reduceIte,reduceEqDiff,reduceAdd,reduceMul,reduceSub,reduceLeDiff,reduceLT,Nat.reduceBEq,reduceCtorEq]
     · intro k T H M hk;omega
     · rintro T H M ⟨rfl,g16,g17⟩
       simp (config:={ maxDischargeDepth:=12 }) only [go_sem,reduceIte,reduceEqDiff,reduceAdd,reduceMul,reduceSub,reduceLeDiff,reduceLT,Nat.reduceBEq,reduceCtorEq,g16,g17,hlt,hd]
   · have hd:decide ((n:Int)=(l.length:Int))=false:=decide_eq_false (by omega)
     have hlt:((0:Int) < (l.length:Int) - (n:Int))=True:=eq_true (by omega)
     obtain ⟨m,hm⟩:∃ x,l[n]? = some x:=⟨l[n]'(by omega),by simp⟩
     have hmw:=hwd m (List.mem_of_getElem? hm)
     have hr:(l.map Pos.Msg.row)[n]? = some m.row:=map_at hm
     have hnl:n < l.length:=by omega
     obtain ⟨num,wd,name,frm,to,speed⟩:=m
     simp only at hmw
     subst hmw
     simp only [Pos.Msg.row] at hr
     refine W_for (fun k T H M=>k=0∧M=[]∧getT T 1=.ptr 0 0∧0 < H.n∧H.get 0=.cells [.ps .unk (l.map Pos.Msg.row),.int .i64 n] 31∧getT T 16=.int .i64 ((l.length:Int) - (n:Int))∧getT T 17=.int .i64 0) 1 ?_ ?_ ?_
     · simp (config:={ maxDischargeDepth:=12 }) only [go_sem,reduceIte,reduceEqDiff,reduceAdd,reduceMul,reduceSub,reduceLeDiff,reduceLT,Nat.reduceBEq,reduceCtorEq]
     · rintro k T H M hk ⟨rfl,rfl,g1,hHn,hg,g16,g17⟩
       simp (config:={ maxDischargeDepth:=12 }) only [go_sem,reduceIte,reduceEqDiff,reduceAdd,reduceMul,reduceSub,reduceLeDiff,reduceLT,Nat.reduceBEq,reduceCtorEq,g1,g16,g17,hlt,hd,hg,hadd,hr,hnl]
     · rintro T H M ⟨h,_⟩;cases h
 · rw [if_pos c1]
   simp (config:={ maxDischargeDepth:=12 }) only [go_sem,reduceIte,reduceEqDiff,reduceAdd,reduceMul,reduceSub,reduceLeDiff,reduceLT,Nat.reduceBEq,reduceCtorEq,hof,c1]
noncomputable def p13:List AV→Option AV:=primOf (α:=(List Msg) × (Int)) (fun x=>[.agg [.ps .unk (x.1.map Pos.Msg.row),i64 x.2]]) (fun x=>x.1.length≤maxRows∧(∀ z ∈ x.1,z.wd=false)) (fun x=>safeV x.1 x.2)
theorem pok13:∀ args v,p13 args=some v → ∀ lo H,CallOk NC lo 13 args H v H:=by
 intro args v h
 obtain ⟨x,rfl,hp,rfl⟩:=primOf_inv h
 exact c13 x.1 x.2 hp
theorem pe13 (l:List Msg) (a:Int) (hp:l.length≤maxRows∧(∀ z ∈ l,z.wd=false)):p13 [.agg [.ps .unk (l.map Pos.Msg.row),.int .i64 a]]=some (safeV l a):=primOf_enc (by intro x y h;(simp only [List.cons.injEq,AV.agg.injEq,AV.str.injEq,AV.int.injEq,AV.ps.injEq,AV.bool.injEq,Pos.Rst.row_inj,Pos.Msg.row_inj,rsts_inj,msgs_inj,true_and,and_true] at h;first | simpa only [Prod.ext_iff] using h | simpa only [Prod.ext_iff,and_assoc] using h)) (l,a) hp
attribute [go_sem] pe13
def nmMap (l:List Nm):List (AV × AV):=l.map fun s=>(.str s,.bool true)
theorem nm_find (s:Nm):∀ l:List Nm,findS s (nmMap l)=some (decide (s ∈ l))
 | []=>by simp [nmMap,findS]
 | a::r=>by
   have ih:=nm_find s r
   show cond (beqL s a) (some true) (findS s (nmMap r))=_
   rw [ih,beqL_dec]
   by_cases h:s=a
   · simp [h]
   · simp [h]
theorem nm_lk (s:Nm):∀ l:List Nm,lkS s (nmMap l)=if s ∈ l then some (.bool true) else none
 | []=>by simp [nmMap,lkS]
 | a::r=>by
   have ih:=nm_lk s r
   show (if s=a then some (AV.bool true) else lkS s (nmMap r))=_
   rw [ih]
   by_cases h:s=a
   · simp [h]
   · simp [h]
theorem nm_look {H:Heap} {m:Nat} {l:List Nm} (h:H.get m=.map (nmMap l)) (s:Nm):alookup NC.P H 123 (.map m) (.str s) false=some (.bool (decide (s ∈ l))):=by
 unfold alookup
 have hu:NC.P.underlying 123=some (.map 9 4):=by kernel_rfl
 have hz:zeroOf NC.P 4=some (.bool false):=by kernel_rfl
 simp only [hu,keyS,if_true,hz,mapEntries,h]
 obtain ⟨h1,h2⟩:=afindL s (nmMap l) 0 (fun x hx=>by
  obtain ⟨k,_,rfl⟩:=List.mem_map.1 hx
  exact ⟨_,rfl⟩)
 rw [nm_lk] at h1 h2
 by_cases hb:s ∈ l
 · obtain ⟨j,k,e⟩:=h2 (.bool true) (by rw [if_pos hb])
   rw [e]
   simp [hb]
 · rw [h1 (by rw [if_neg hb])]
   simp [hb]
theorem nm_upd {H:Heap} {m:Nat} {l:List Nm} (h:H.get m=.map (nmMap l)) {s:Nm} (hs:decide (s ∈ l)=false):amapUpdate NC.P 0 H 123 (.map m) (.str s) (.bool true)=some (H.set m (.map (nmMap (l++[s])))):=by
 unfold amapUpdate
 have hu:NC.P.underlying 123=some (.map 9 4):=by kernel_rfl
 have hf:=afindS s (nmMap l) 0 (by rw [nm_find,hs])
 simp only [hu,keyS,Nat.zero_le,decide_true,Bool.and_self,if_true,h,hf]
 simp [nmMap,AV.strip]
def pstGo:List Nm→List Rst→Int
 | _,[]=>0
 | seen,r::l=>if firstI [rstE r,whenI (decide (r.name ∈ seen)) 9] ≠ 0 then firstI [rstE r,whenI (decide (r.name ∈ seen)) 9] else pstGo (seen++[r.name]) l
theorem pstGo_cons (seen:List Nm) (r:Rst) (l:List Rst):pstGo seen (r::l)=if firstI [rstE r,whenI (decide (r.name ∈ seen)) 9] ≠ 0 then firstI [rstE r,whenI (decide (r.name ∈ seen)) 9] else pstGo (seen++[r.name]) l:=rfl
def postE (h:Int) (f:List Rst):Int:=if firstI [withinI h 0 64,whenI (decide (64 < f.length)) 5] ≠ 0 then firstI [withinI h 0 64,whenI (decide (64 < f.length)) 5] else pstGo [] f
noncomputable def PPF26:FuncId→Option (List AV→Option AV):=addPrim 22 p22 (addPrim 20 p20 (addPrim 48 p48 (addPrim 37 p37 (fun _=>none))))
theorem primsF26:PrimsOk NC PPF26:=primsOk_add (primsOk_add (primsOk_add (primsOk_add (primsOk_none) (by kernel_rfl) (by kernel_rfl) pok37) (by kernel_rfl) (by kernel_rfl) pok48) (by kernel_rfl) (by kernel_rfl) pok20) (by kernel_rfl) (by kernel_rfl) pok22
theorem enF26_37:En PPF26 37 p37:=enter_prim (by rfl) (by kernel_rfl)
theorem enF26_48:En PPF26 48 p48:=enter_prim (by rfl) (by kernel_rfl)
theorem enF26_20:En PPF26 20 p20:=enter_prim (by rfl) (by kernel_rfl)
theorem enF26_22:En PPF26 22 p22:=enter_prim (by rfl) (by kernel_rfl)
attribute [go_sem ↓] enF26_37 enF26_48 enF26_20 enF26_22
theorem c26 (h:Int) (f:List Rst) (hp:f.length≤maxRows):∀ lo H,CallOk NC lo 26 [.agg [i64 h,.ps .unk (f.map Pos.Rst.row)]] H (i64 (postE h f)) H:=by
 refine contract saneNC primsF26 (fn:=Tryz.f26) (by kernel_rfl) Tryz.func26 rfl rfl (by rfl) (by first | rfl | (split<;>first | rfl | (split<;>rfl))) ?_
 have hd:(decide ((64:Int) < (f.length:Int)))=decide (64 < f.length):=by rw [decide_eq_decide];omega
 unfold postE
 by_cases c1:firstI [withinI h 0 64,whenI (decide (64 < f.length)) 5]=0
 · rw [if_neg (by simpa using c1)]
   simp (config:={ maxDischargeDepth:=12 }) only [go_sem,reduceIte,reduceEqDiff,reduceAdd,reduceMul,reduceSub,reduceLeDiff,reduceLT,Nat.reduceBEq,reduceCtorEq,hd,c1]
   refine W_for (fun k T H M=>M=[]∧getT T 4=.map 1∧1 < H.n∧H.get 1=.map (nmMap ((f.take k).map (·.name)))∧getT T 23=.ps .unk (f.map Pos.Rst.row)∧getT T 24=i64 (f.length:Nat)∧getT T 25=i64 k∧pstGo [] f=pstGo ((f.take k).map (·.name)) (f.drop k)) f.length ?_ ?_ ?_
   · simp (config:={ maxDischargeDepth:=12 }) only [go_sem,reduceIte,reduceEqDiff,reduceAdd,reduceMul,reduceSub,reduceLeDiff,reduceLT,Nat.reduceBEq,reduceCtorEq]
     rfl
   · rintro k T H M hk ⟨rfl,g4,hn,hg,g23,g24,g25,hsp⟩
     obtain ⟨m,hm⟩:∃ x,f[k]? = some x:=⟨f[k],by simp⟩
     have hw:=wrap_succ hk hp
     have hr:(f.map Pos.Rst.row)[k]? = some m.row:=map_at hm
     have hrc:=pe22 m
     rw [drop_at hm,pstGo_cons] at hsp
     have htk:(f.take (k+1)).map (·.name)=(f.take k).map (·.name)++[m.name]:=by rw [Pos.take_snoc hm,List.map_append];rfl
     rw [htk]
     generalize (f.take k).map (·.name)=seen at hg hsp ⊢
     obtain ⟨name,frm,to,speed⟩:=m
     simp only [Pos.Rst.row] at hr hrc
     simp only at hsp ⊢
     have hlk:=fun H2 (h2:Heap.get H2 1=.map (nmMap seen))=>nm_look h2 name
     have hfs:=nm_find name seen
     generalize hR:rstE ⟨name,frm,to,speed⟩=RE at hrc hsp
     have h1n:((1:Nat)=H.n)=False:=eq_false (by omega)
     have h1l:(1 < H.n+1)=True:=eq_true (by omega)
     by_cases c2:firstI [RE,whenI (decide (name ∈ seen)) 9]=0
     · rw [if_neg (by simpa using c2)] at hsp
       have hns:decide (name ∈ seen)=false:=by
        by_cases hin:name ∈ seen
        · exfalso
          by_cases hre:RE=0
          · simp [firstI,whenI,hre,hin] at c2
          · simp [firstI,hre] at c2
        · exact decide_eq_false hin
       rw [hns] at hfs c2
       have hup:=fun H2 (h2:Heap.get H2 1=.map (nmMap seen))=>nm_upd h2 hns
       simp (config:={ maxDischargeDepth:=12 }) only [go_sem,reduceIte,reduceEqDiff,reduceAdd,reduceMul,reduceSub,reduceLeDiff,reduceLT,Nat.reduceBEq,reduceCtorEq,g4,g23,g24,g25,hk,hr,hrc,hw,hlk,hg,hns,c2,h1n,h1l,hup]
       exact hsp
     · rw [if_pos c2] at hsp
       simp (config:={ maxDischargeDepth:=12 }) only [go_sem,reduceIte,reduceEqDiff,reduceAdd,reduceMul,reduceSub,reduceLeDiff,reduceLT,Nat.reduceBEq,reduceCtorEq,g4,g23,g24,g25,hk,hr,hrc,hw,hlk,hg,c2,h1n,h1l,hsp]
   · rintro T H M ⟨rfl,g4,hn,hg,g23,g24,g25,hsp⟩
     rw [List.drop_length] at hsp
     have h0:pstGo [] f=0:=hsp
     simp (config:={ maxDischargeDepth:=12 }) only [go_sem,reduceIte,reduceEqDiff,reduceAdd,reduceMul,reduceSub,reduceLeDiff,reduceLT,Nat.reduceBEq,reduceCtorEq,g4,g23,g24,g25,Nat.lt_irrefl,h0]
 · rw [if_pos c1]
   simp (config:={ maxDischargeDepth:=12 }) only [go_sem,reduceIte,reduceEqDiff,reduceAdd,reduceMul,reduceSub,reduceLeDiff,reduceLT,Nat.reduceBEq,reduceCtorEq,hd,c1]
noncomputable def p26:List AV→Option AV:=primOf (α:=(Int) × (List Rst)) (fun x=>[.agg [i64 x.1,.ps .unk (x.2.map Pos.Rst.row)]]) (fun x=>x.2.length≤maxRows) (fun x=>i64 (postE x.1 x.2))
theorem pok26:∀ args v,p26 args=some v → ∀ lo H,CallOk NC lo 26 args H v H:=by
 intro args v h
 obtain ⟨x,rfl,hp,rfl⟩:=primOf_inv h
 exact c26 x.1 x.2 hp
theorem pe26 (h:Int) (f:List Rst) (hp:f.length≤maxRows):p26 [.agg [.int .i64 h,.ps .unk (f.map Pos.Rst.row)]]=some (.int .i64 (postE h f)):=primOf_enc (by intro x y h;(simp only [List.cons.injEq,AV.agg.injEq,AV.str.injEq,AV.int.injEq,AV.ps.injEq,AV.bool.injEq,Pos.Rst.row_inj,Pos.Msg.row_inj,rsts_inj,msgs_inj,true_and,and_true] at h;first | simpa only [Prod.ext_iff] using h | simpa only [Prod.ext_iff,and_assoc] using h)) (h,f) hp
attribute [go_sem] pe26
def alF (f:List Rst) (x:Int):Int:=f.foldl (fun s r=>if (decide (r.frm≤x) && decide (x < r.to))=true then minI s r.speed else s) 500
def alwV (h:Int) (f:List Rst) (x:Int):AV:=if firstI [postE h f,withinI x 0 100000000] ≠ 0 then .tup [.int .i64 0,.int .i64 (firstI [postE h f,withinI x 0 100000000])] else .tup [.int .i64 (alF f x),.int .i64 0]
noncomputable def PPF15:FuncId→Option (List AV→Option AV):=addPrim 20 p20 (addPrim 37 p37 (addPrim 26 p26 (fun _=>none)))
theorem primsF15:PrimsOk NC PPF15:=primsOk_add (primsOk_add (primsOk_add (primsOk_none) (by kernel_rfl) (by kernel_rfl) pok26) (by kernel_rfl) (by kernel_rfl) pok37) (by kernel_rfl) (by kernel_rfl) pok20
theorem enF15_26:En PPF15 26 p26:=enter_prim (by rfl) (by kernel_rfl)
theorem enF15_37:En PPF15 37 p37:=enter_prim (by rfl) (by kernel_rfl)
theorem enF15_20:En PPF15 20 p20:=enter_prim (by rfl) (by kernel_rfl)
attribute [go_sem ↓] enF15_26 enF15_37 enF15_20
theorem c15 (h:Int) (f:List Rst) (q:Int) (hp:f.length≤maxRows):∀ lo H,CallOk NC lo 15 [.agg [i64 h,.ps .unk (f.map Pos.Rst.row)],i64 q] H (alwV h f q) H:=by
 refine contract saneNC primsF15 (fn:=Tryz.f15) (by kernel_rfl) Tryz.func15 rfl rfl (by rfl) (by unfold alwV;split<;>rfl) ?_
 have hpo:=pe26 h f hp
 unfold alwV
 generalize postE h f=PE at hpo ⊢
 by_cases c1:firstI [PE,withinI q 0 100000000]=0
 · rw [if_neg (by simpa using c1)]
   simp (config:={ maxDischargeDepth:=12 }) only [go_sem,reduceIte,reduceEqDiff,reduceAdd,reduceMul,reduceSub,reduceLeDiff,reduceLT,Nat.reduceBEq,reduceCtorEq,hpo,c1]
   refine W_for (fun k T H M=>M=[]∧getT T 1=.int .i64 q∧getT T 7=.int .i64 (alF (f.take k) q)∧getT T 20=.ps .unk (f.map Pos.Rst.row)∧getT T 21=i64 (f.length:Nat)∧getT T 22=i64 k) f.length ?_ ?_ ?_
   · simp (config:={ maxDischargeDepth:=12 }) only [go_sem,reduceIte,reduceEqDiff,reduceAdd,reduceMul,reduceSub,reduceLeDiff,reduceLT,Nat.reduceBEq,reduceCtorEq]
     rfl
   · rintro k T H M hk ⟨rfl,g1,g7,g20,g21,g22⟩
     obtain ⟨m,hm⟩:∃ q,f[k]? = some q:=⟨f[k],by simp⟩
     have hw:=wrap_succ hk hp
     have hr:(f.map Pos.Rst.row)[k]? = some m.row:=map_at hm
     have hal:alF (f.take (k+1)) q=if (decide (m.frm≤q) && decide (q < m.to))=true then minI (alF (f.take k) q) m.speed else alF (f.take k) q:=by
      rw [Pos.take_snoc hm]
      unfold alF
      rw [List.foldl_append]
      rfl
     rw [hal]
     generalize alF (f.take k) q=S at g7 ⊢
     obtain ⟨name,frm,to,speed⟩:=m
     simp only [Pos.Rst.row] at hr
     simp only
     have hd1:(!decide (q < frm))=decide (frm≤q):=by
      by_cases h:frm≤q
      · rw [decide_eq_true h,decide_eq_false (by omega)];rfl
      · rw [decide_eq_false h,decide_eq_true (by omega)];rfl
     by_cases a1:frm≤q
     · have d1:=decide_eq_true a1
       by_cases a2:q < to
       · have d2:=decide_eq_true a2
         simp (config:={ maxDischargeDepth:=12 }) only [go_sem,reduceIte,reduceEqDiff,reduceAdd,reduceMul,reduceSub,reduceLeDiff,reduceLT,Nat.reduceBEq,reduceCtorEq,g1,g7,g20,g21,g22,hk,hr,hw,hd1,d1,d2]
       · have d2:=decide_eq_false a2
         simp (config:={ maxDischargeDepth:=12 }) only [go_sem,reduceIte,reduceEqDiff,reduceAdd,reduceMul,reduceSub,reduceLeDiff,reduceLT,Nat.reduceBEq,reduceCtorEq,g1,g7,g20,g21,g22,hk,hr,hw,hd1,d1,d2]
     · have d1:=decide_eq_false a1
       simp (config:={ maxDischargeDepth:=12 }) only [go_sem,reduceIte,reduceEqDiff,reduceAdd,reduceMul,reduceSub,reduceLeDiff,reduceLT,Nat.reduceBEq,reduceCtorEq,g1,g7,g20,g21,g22,hk,hr,hw,hd1,d1]
   · rintro T H M ⟨rfl,g1,g7,g20,g21,g22⟩
     rw [List.take_length] at g7
     simp (config:={ maxDischargeDepth:=12 }) only [go_sem,reduceIte,reduceEqDiff,reduceAdd,reduceMul,reduceSub,reduceLeDiff,reduceLT,Nat.reduceBEq,reduceCtorEq,g1,g7,g20,g21,g22,Nat.lt_irrefl]
 · rw [if_pos c1]
   simp (config:={ maxDischargeDepth:=12 }) only [go_sem,reduceIte,reduceEqDiff,reduceAdd,reduceMul,reduceSub,reduceLeDiff,reduceLT,Nat.reduceBEq,reduceCtorEq,hpo,c1]
noncomputable def p15:List AV→Option AV:=primOf (α:=(Int) × (List Rst) × (Int)) (fun x=>[.agg [i64 x.1,.ps .unk (x.2.1.map Pos.Rst.row)],i64 x.2.2]) (fun x=>x.2.1.length≤maxRows) (fun x=>alwV x.1 x.2.1 x.2.2)
theorem pok15:∀ args v,p15 args=some v → ∀ lo H,CallOk NC lo 15 args H v H:=by
 intro args v h
 obtain ⟨x,rfl,hp,rfl⟩:=primOf_inv h
 exact c15 x.1 x.2.1 x.2.2 hp
theorem pe15 (h:Int) (f:List Rst) (q:Int) (hp:f.length≤maxRows):p15 [.agg [.int .i64 h,.ps .unk (f.map Pos.Rst.row)],.int .i64 q]=some (alwV h f q):=primOf_enc (by intro x y h;(simp only [List.cons.injEq,AV.agg.injEq,AV.str.injEq,AV.int.injEq,AV.ps.injEq,AV.bool.injEq,Pos.Rst.row_inj,Pos.Msg.row_inj,rsts_inj,msgs_inj,true_and,and_true] at h;first | simpa only [Prod.ext_iff] using h | simpa only [Prod.ext_iff,and_assoc] using h)) (h,f,q) hp
attribute [go_sem] pe15
end Go.Sim

namespace Go.Sim.Pos
open Go Go.Sim
def Rnd.row (x:Rnd):List AV:=[.ps .unk (ints x.lost),.bool x.deaf]
theorem Rnd.row_inj (a b:Rnd):(a.row=b.row)=(a=b):=by
 cases a;cases b;simp [Rnd.row,ints_inj]
end Go.Sim.Pos
namespace Go.Sim
open Go Go.Proofs
open Go.Sim.Pos (Nm Rst Msg Pst Rnd Len flat_len flat_take flat_drop flat_at)
set_option maxRecDepth 100000
set_option maxHeartbeats 4000000
theorem rnds_inj {l m:List Rnd}:(l.map Pos.Rnd.row=m.map Pos.Rnd.row)=(l=m):=propext ⟨map_inj (fun a b h=>by rw [Pos.Rnd.row_inj] at h;exact h),fun h=>by rw [h]⟩
def idxV (x:Int):List Int→Int
 | []=>-1
 | a::l=>if a=x then 0 else if idxV x l = -1 then -1 else idxV x l+1
theorem idxV_none {x:Int}:∀ {l:List Int},x ∉ l→idxV x l = -1
 | [],_=>rfl
 | a::l,h=>by
   have h1:¬ a=x:=fun e=>h (by simp [e])
   have h2:=idxV_none (x:=x) (l:=l) fun hm=>h (by simp [hm])
   unfold idxV
   rw [if_neg h1,if_pos h2]
theorem idxV_at {x:Int}:∀ {l:List Int} {k:Nat},l[k]? = some x→x ∉ l.take k→idxV x l=(k:Int)
 | [],k,h,_=>by simp at h
 | a::l,0,h,_=>by
   have:a=x:=by simpa using h
   unfold idxV;rw [if_pos this];rfl
 | a::l,k+1,h,hn=>by
   rw [List.take_succ_cons] at hn
   have h1:¬ a=x:=fun e=>hn (by simp [e])
   have h2:=idxV_at (x:=x) (l:=l) (k:=k) (by simpa using h) fun hm=>hn (by simp [hm])
   unfold idxV
   rw [if_neg h1,h2,if_neg (by omega)]
   omega
noncomputable def PPF59:FuncId→Option (List AV→Option AV):=fun _=>none
theorem primsF59:PrimsOk NC PPF59:=primsOk_none
theorem c59 (l:List Int) (w:Int) (hp:l.length≤maxRows):∀ lo H,CallOk NC lo 59 [.ps .unk (ints l),i64 w] H (i64 (idxV w l)) H:=by
 refine contract saneNC primsF59 (fn:=Tryz.f59) (by kernel_rfl) Tryz.func59 rfl rfl (by rfl) (by first | rfl | (split<;>first | rfl | (split<;>rfl))) ?_
 simp (config:={ maxDischargeDepth:=12 }) only [go_sem,reduceIte,reduceEqDiff,reduceAdd,reduceMul,reduceSub,reduceLeDiff,reduceLT,Nat.reduceBEq,reduceCtorEq]
 refine W_for (fun k T H M=>M=[]∧getT T 0=.ps .unk (ints l)∧getT T 1=i64 w∧getT T 7=i64 (l.length:Nat)∧getT T 8=i64 k∧w ∉ l.take k) l.length ?_ ?_ ?_
 · simp (config:={ maxDischargeDepth:=12 }) only [go_sem,reduceIte,reduceEqDiff,reduceAdd,reduceMul,reduceSub,reduceLeDiff,reduceLT,Nat.reduceBEq,reduceCtorEq,ints_len];simp
 · rintro k T H M hk ⟨rfl,g0,g1,g7,g8,hz⟩
   obtain ⟨y,hy⟩:∃ x,l[k]? = some x:=⟨l[k],by simp⟩
   have hr:=ints_at hy
   have hw:=wrap_succ hk hp
   by_cases h0:w=y
   · have hd:=eq_true h0
     simp (config:={ maxDischargeDepth:=12 }) only [go_sem,reduceIte,reduceEqDiff,reduceAdd,reduceMul,reduceSub,reduceLeDiff,reduceLT,Nat.reduceBEq,reduceCtorEq,g0,g1,g7,g8,hk,ints_len,hr,hw,hd]
     rw [idxV_at (by rw [h0];exact hy) hz]
   · have hd:=eq_false h0
     simp (config:={ maxDischargeDepth:=12 }) only [go_sem,reduceIte,reduceEqDiff,reduceAdd,reduceMul,reduceSub,reduceLeDiff,reduceLT,Nat.reduceBEq,reduceCtorEq,g0,g1,g7,g8,hk,ints_len,hr,hw,hd]
     rw [List.take_add_one,hy]
     simp only [Option.toList,List.mem_append,List.mem_singleton]
     rintro (h | h)
     · exact hz h
     · exact h0 h
 · rintro T H M ⟨rfl,g0,g1,g7,g8,hz⟩
   rw [List.take_length] at hz
   simp (config:={ maxDischargeDepth:=12 }) only [go_sem,reduceIte,reduceEqDiff,reduceAdd,reduceMul,reduceSub,reduceLeDiff,reduceLT,Nat.reduceBEq,reduceCtorEq,g0,g1,g7,g8,Nat.lt_irrefl]
   rw [idxV_none hz]
noncomputable def p59:List AV→Option AV:=primOf (α:=(List Int) × (Int)) (fun x=>[.ps .unk (ints x.1),i64 x.2]) (fun x=>x.1.length≤maxRows) (fun x=>i64 (idxV x.2 x.1))
theorem pok59:∀ args v,p59 args=some v → ∀ lo H,CallOk NC lo 59 args H v H:=by
 intro args v h
 obtain ⟨x,rfl,hp,rfl⟩:=primOf_inv h
 exact c59 x.1 x.2 hp
theorem pe59 (l:List Int) (w:Int) (hp:l.length≤maxRows):p59 [.ps .unk (ints l),.int .i64 w]=some (.int .i64 (idxV w l)):=primOf_enc (by intro x y h;(simp only [List.cons.injEq,AV.agg.injEq,AV.str.injEq,AV.int.injEq,AV.ps.injEq,AV.bool.injEq,ints_inj,Pos.Rst.row_inj,Pos.Msg.row_inj,rsts_inj,msgs_inj,rnds_inj,Pos.Rnd.row_inj,true_and,and_true] at h;first | simpa only [Prod.ext_iff] using h | simpa only [Prod.ext_iff,and_assoc] using h)) (l,w) hp
attribute [go_sem] pe59
theorem idxV_ge (x:Int) (l:List Int):(idxV x l < 0)=(x ∉ l):=by
 simp only [eq_iff_iff]
 by_cases h:x ∈ l
 · obtain ⟨k,hk⟩:=List.mem_iff_getElem?.1 h
   have hex:∃ k,l[k]? = some x∧x ∉ l.take k:=by
    clear hk
    induction l with
    | nil=>simp at h
    | cons a r ih =>
      by_cases ha:a=x
      · exact ⟨0,by simp [ha],by simp⟩
      · have hr:x ∈ r:=by
         rcases List.mem_cons.1 h with e | e
         · exact absurd e.symm ha
         · exact e
        obtain ⟨k,h1,h2⟩:=ih hr
        exact ⟨k+1,by simpa using h1,by rw [List.take_succ_cons];simp [h2,Ne.symm ha]⟩
   obtain ⟨k,h1,h2⟩:=hex
   rw [idxV_at h1 h2]
   constructor
   · intro h;omega
   · intro h';exact absurd h h'
 · rw [idxV_none h]
   constructor
   · intro _;exact h
   · intro _;decide
noncomputable def PPF32:FuncId→Option (List AV→Option AV):=addPrim 59 p59 (fun _=>none)
theorem primsF32:PrimsOk NC PPF32:=primsOk_add (primsOk_none) (by kernel_rfl) (by kernel_rfl) pok59
theorem enF32_59:En PPF32 59 p59:=enter_prim (by rfl) (by kernel_rfl)
attribute [go_sem ↓] enF32_59
theorem c32 (l:List Int) (w:Int) (hp:l.length≤maxRows):∀ lo H,CallOk NC lo 32 [.ps .unk (ints l),i64 w] H (.bool (decide (w ∈ l))) H:=by
 refine contract saneNC primsF32 (fn:=Tryz.f32) (by kernel_rfl) Tryz.func32 rfl rfl (by rfl) (by first | rfl | (split<;>first | rfl | (split<;>rfl))) ?_
 simp (config:={ maxDischargeDepth:=12 }) only [go_sem,reduceIte,reduceEqDiff,reduceAdd,reduceMul,reduceSub,reduceLeDiff,reduceLT,Nat.reduceBEq,reduceCtorEq,pe59 l w hp,idxV_ge]
 simp
noncomputable def p32:List AV→Option AV:=primOf (α:=(List Int) × (Int)) (fun x=>[.ps .unk (ints x.1),i64 x.2]) (fun x=>x.1.length≤maxRows) (fun x=>.bool (decide (x.2 ∈ x.1)))
theorem pok32:∀ args v,p32 args=some v → ∀ lo H,CallOk NC lo 32 args H v H:=by
 intro args v h
 obtain ⟨x,rfl,hp,rfl⟩:=primOf_inv h
 exact c32 x.1 x.2 hp
theorem pe32 (l:List Int) (w:Int) (hp:l.length≤maxRows):p32 [.ps .unk (ints l),.int .i64 w]=some (.bool (decide (w ∈ l))):=primOf_enc (by intro x y h;(simp only [List.cons.injEq,AV.agg.injEq,AV.str.injEq,AV.int.injEq,AV.ps.injEq,AV.bool.injEq,ints_inj,Pos.Rst.row_inj,Pos.Msg.row_inj,rsts_inj,msgs_inj,rnds_inj,Pos.Rnd.row_inj,true_and,and_true] at h;first | simpa only [Prod.ext_iff] using h | simpa only [Prod.ext_iff,and_assoc] using h)) (l,w) hp
attribute [go_sem] pe32
def rndE (r:Rnd):Int:=firstI (r.lost.map ltErr)
noncomputable def PPF54:FuncId→Option (List AV→Option AV):=addPrim 20 p20 (addPrim 55 p55 (fun _=>none))
theorem primsF54:PrimsOk NC PPF54:=primsOk_add (primsOk_add (primsOk_none) (by kernel_rfl) (by kernel_rfl) pok55) (by kernel_rfl) (by kernel_rfl) pok20
theorem enF54_55:En PPF54 55 p55:=enter_prim (by rfl) (by kernel_rfl)
theorem enF54_20:En PPF54 20 p20:=enter_prim (by rfl) (by kernel_rfl)
attribute [go_sem ↓] enF54_55 enF54_20
theorem c54 (r:Rnd) (hp:r.lost.length≤maxRows):∀ lo H,CallOk NC lo 54 [.agg r.row] H (i64 (rndE r)) H:=by
 refine contract saneNC primsF54 (fn:=Tryz.f54) (by kernel_rfl) Tryz.func54 rfl rfl (by rfl) (by first | rfl | (split<;>first | rfl | (split<;>rfl))) ?_
 obtain ⟨lost,deaf⟩:=r
 simp only at hp
 have h1:=pe55 lost hp
 have h2:=pe20 (lost.map ltErr) (by rw [List.length_map];exact hp)
 simp (config:={ maxDischargeDepth:=12 }) only [go_sem,reduceIte,reduceEqDiff,reduceAdd,reduceMul,reduceSub,reduceLeDiff,reduceLT,Nat.reduceBEq,reduceCtorEq,Pos.Rnd.row,h1,h2]
 rfl
noncomputable def p54:List AV→Option AV:=primOf (α:=(Rnd)) (fun x=>[.agg x.row]) (fun x=>x.lost.length≤maxRows) (fun x=>i64 (rndE x))
theorem pok54:∀ args v,p54 args=some v → ∀ lo H,CallOk NC lo 54 args H v H:=by
 intro args v h
 obtain ⟨x,rfl,hp,rfl⟩:=primOf_inv h
 exact c54 x hp
theorem pe54 (r:Rnd) (hp:r.lost.length≤maxRows):p54 [.agg r.row]=some (.int .i64 (rndE r)):=primOf_enc (by intro x y h;(simp only [List.cons.injEq,AV.agg.injEq,AV.str.injEq,AV.int.injEq,AV.ps.injEq,AV.bool.injEq,Pos.Rst.row_inj,Pos.Msg.row_inj,rsts_inj,msgs_inj,rnds_inj,Pos.Rnd.row_inj,true_and,and_true] at h;first | simpa only [Prod.ext_iff] using h | simpa only [Prod.ext_iff,and_assoc] using h)) r hp
attribute [go_sem] pe54
noncomputable def PPF53:FuncId→Option (List AV→Option AV):=addPrim 54 p54 (fun _=>none)
theorem primsF53:PrimsOk NC PPF53:=primsOk_add (primsOk_none) (by kernel_rfl) (by kernel_rfl) pok54
theorem enF53_54:En PPF53 54 p54:=enter_prim (by rfl) (by kernel_rfl)
attribute [go_sem ↓] enF53_54
theorem c53 (l:List Rnd) (hp:l.length≤maxRows∧(∀ z ∈ l,z.lost.length≤maxRows)):∀ lo H,CallOk NC lo 53 [.ps .unk (l.map Pos.Rnd.row),.fn 54 [] []] H (.ps .unk (ints (l.map rndE))) H:=by
 refine contract saneNC primsF53 (fn:=Tryz.f53) (by kernel_rfl) Tryz.func53 rfl rfl (by rfl) (by first | rfl | (split<;>first | rfl | (split<;>rfl))) ?_
 obtain ⟨hp,hz⟩:=hp
 simp (config:={ maxDischargeDepth:=12 }) only [go_sem,reduceIte,reduceEqDiff,reduceAdd,reduceMul,reduceSub,reduceLeDiff,reduceLT,Nat.reduceBEq,reduceCtorEq]
 refine W_for (fun k T H M=>M=[]∧getT T 1=.fn 54 [] []∧getT T 8=.ps .unk (l.map Pos.Rnd.row)∧getT T 9=i64 (l.length:Nat)∧getT T 10=i64 k ∧ ∃ t,getT T 5=.ps t (ints ((l.take k).map rndE))∧AppB 0 H t (ints ((l.take k).map rndE)) 1 39) l.length ?_ ?_ ?_
 · simp (config:={ maxDischargeDepth:=12 }) only [go_sem,reduceIte,reduceEqDiff,reduceAdd,reduceMul,reduceSub,reduceLeDiff,reduceLT,Nat.reduceBEq,reduceCtorEq];exact ⟨.nil,rfl,.inl ⟨rfl,rfl⟩⟩
 · rintro k T H M hk ⟨rfl,g1,g8,g9,g10,t,g5,hA⟩
   obtain ⟨x,hx⟩:∃ x,l[k]? = some x:=⟨l[k],by simp⟩
   have hr:(l.map Pos.Rnd.row)[k]? = some x.row:=map_at hx
   have hw:=wrap_succ hk hp
   have hrd:=pe54 x (hz x (List.mem_of_getElem? hx))
   obtain ⟨z,hze⟩:∃ z,zeroOf NC.P 61=some z:=⟨_,ze_61⟩
   have hA1:=hA.new (.cells z.cells 61) (.cells (Pos.Rnd.row x) 61)
   obtain ⟨t',H',ha,hA',_⟩:=app_b (lo:=0) hA1 (Nat.zero_le _) (Nat.le_refl _) (r:=[i64 (rndE x)]) (by rw [ints_len,List.length_map,List.length_take];omega) rfl (by decide) (ints_all _)
   have e1:[AV.int .i64 (rndE x)].map AV.strip0=[i64 (rndE x)]:=rfl
   rw [e1,← ints_take hx] at ha hA'
   rw [ze_61] at hze
   cases hze
   generalize rndE x=E at hrd ha
   obtain ⟨lost,deaf⟩:=x
   simp only [Pos.Rnd.row] at hr hrd ha
   simp (config:={ maxDischargeDepth:=12 }) only [go_sem,reduceIte,reduceEqDiff,reduceAdd,reduceMul,reduceSub,reduceLeDiff,reduceLT,Nat.reduceBEq,reduceCtorEq] at ha
   simp (config:={ maxDischargeDepth:=12 }) only [go_sem,reduceIte,reduceEqDiff,reduceAdd,reduceMul,reduceSub,reduceLeDiff,reduceLT,Nat.reduceBEq,reduceCtorEq,g1,g5,g8,g9,g10,hk,hr,hw,hrd,appO,ha]
   exact ⟨t',rfl,hA'⟩
 · rintro T H M ⟨rfl,g1,g8,g9,g10,t,g5,hA⟩
   rw [List.take_length] at g5
   simp (config:={ maxDischargeDepth:=12 }) only [go_sem,reduceIte,reduceEqDiff,reduceAdd,reduceMul,reduceSub,reduceLeDiff,reduceLT,Nat.reduceBEq,reduceCtorEq,g1,g5,g8,g9,g10,Nat.lt_irrefl]
noncomputable def p53:List AV→Option AV:=primOf (α:=(List Rnd)) (fun x=>[.ps .unk (x.map Pos.Rnd.row),.fn 54 [] []]) (fun x=>x.length≤maxRows∧(∀ z ∈ x,z.lost.length≤maxRows)) (fun x=>.ps .unk (ints (x.map rndE)))
theorem pok53:∀ args v,p53 args=some v → ∀ lo H,CallOk NC lo 53 args H v H:=by
 intro args v h
 obtain ⟨x,rfl,hp,rfl⟩:=primOf_inv h
 exact c53 x hp
theorem pe53 (l:List Rnd) (hp:l.length≤maxRows∧(∀ z ∈ l,z.lost.length≤maxRows)):p53 [.ps .unk (l.map Pos.Rnd.row),.fn 54 [] []]=some (.ps .unk (ints (l.map rndE))):=primOf_enc (by intro x y h;(simp only [List.cons.injEq,AV.agg.injEq,AV.str.injEq,AV.int.injEq,AV.ps.injEq,AV.bool.injEq,ints_inj,Pos.Rst.row_inj,Pos.Msg.row_inj,rsts_inj,msgs_inj,rnds_inj,Pos.Rnd.row_inj,true_and,and_true] at h;first | simpa only [Prod.ext_iff] using h | simpa only [Prod.ext_iff,and_assoc] using h)) l hp
attribute [go_sem] pe53
def roundsE (l:List Rnd):Int:=if 64 < l.length then 5 else firstI (l.map rndE)
noncomputable def PPF27:FuncId→Option (List AV→Option AV):=addPrim 20 p20 (addPrim 53 p53 (fun _=>none))
theorem primsF27:PrimsOk NC PPF27:=primsOk_add (primsOk_add (primsOk_none) (by kernel_rfl) (by kernel_rfl) pok53) (by kernel_rfl) (by kernel_rfl) pok20
theorem enF27_53:En PPF27 53 p53:=enter_prim (by rfl) (by kernel_rfl)
theorem enF27_20:En PPF27 20 p20:=enter_prim (by rfl) (by kernel_rfl)
attribute [go_sem ↓] enF27_53 enF27_20
theorem c27 (l:List Rnd) (hp:l.length≤maxRows∧(∀ z ∈ l,z.lost.length≤maxRows)):∀ lo H,CallOk NC lo 27 [.ps .unk (l.map Pos.Rnd.row)] H (i64 (roundsE l)) H:=by
 refine contract saneNC primsF27 (fn:=Tryz.f27) (by kernel_rfl) Tryz.func27 rfl rfl (by rfl) (by first | rfl | (split<;>first | rfl | (split<;>rfl))) ?_
 have h1:=pe53 l hp
 have h2:=pe20 (l.map rndE) (by rw [List.length_map];exact hp.1)
 unfold roundsE
 by_cases c:64 < l.length
 · have hc:((64:Int) < (l.length:Int))=True:=eq_true (by omega)
   rw [if_pos c]
   simp (config:={ maxDischargeDepth:=12 }) only [go_sem,reduceIte,reduceEqDiff,reduceAdd,reduceMul,reduceSub,reduceLeDiff,reduceLT,Nat.reduceBEq,reduceCtorEq,hc]
 · have hc:((64:Int) < (l.length:Int))=False:=eq_false (by omega)
   rw [if_neg c]
   simp (config:={ maxDischargeDepth:=12 }) only [go_sem,reduceIte,reduceEqDiff,reduceAdd,reduceMul,reduceSub,reduceLeDiff,reduceLT,Nat.reduceBEq,reduceCtorEq,hc,h1,h2]
noncomputable def p27:List AV→Option AV:=primOf (α:=(List Rnd)) (fun x=>[.ps .unk (x.map Pos.Rnd.row)]) (fun x=>x.length≤maxRows∧(∀ z ∈ x,z.lost.length≤maxRows)) (fun x=>i64 (roundsE x))
theorem pok27:∀ args v,p27 args=some v → ∀ lo H,CallOk NC lo 27 args H v H:=by
 intro args v h
 obtain ⟨x,rfl,hp,rfl⟩:=primOf_inv h
 exact c27 x hp
theorem pe27 (l:List Rnd) (hp:l.length≤maxRows∧(∀ z ∈ l,z.lost.length≤maxRows)):p27 [.ps .unk (l.map Pos.Rnd.row)]=some (.int .i64 (roundsE l)):=primOf_enc (by intro x y h;(simp only [List.cons.injEq,AV.agg.injEq,AV.str.injEq,AV.int.injEq,AV.ps.injEq,AV.bool.injEq,Pos.Rst.row_inj,Pos.Msg.row_inj,rsts_inj,msgs_inj,rnds_inj,Pos.Rnd.row_inj,true_and,and_true] at h;first | simpa only [Prod.ext_iff] using h | simpa only [Prod.ext_iff,and_assoc] using h)) l hp
attribute [go_sem] pe27
end Go.Sim

namespace Go.Sim
open Go Go.Proofs
open Go.Sim.Pos (Nm Rst Msg Pst Rnd Len flat_len flat_take flat_drop flat_at)
set_option maxRecDepth 100000
set_option maxHeartbeats 4000000
def pstV (p:Pst):AV:=.agg [.int .i64 (p.heard:Int),.ps .unk (p.force.map Pos.Rst.row)]
noncomputable def PPF31:FuncId→Option (List AV→Option AV):=addPrim 49 p49 (fun _=>none)
theorem primsF31:PrimsOk NC PPF31:=primsOk_add (primsOk_none) (by kernel_rfl) (by kernel_rfl) pok49
theorem enF31_49:En PPF31 49 p49:=enter_prim (by rfl) (by kernel_rfl)
attribute [go_sem ↓] enF31_49
theorem c31 (h:Int) (f:List Rst) (num:Int) (wd:Bool) (name:Nm) (frm:Int) (to:Int) (speed:Int) (b:Bool) (hp:f.length+1≤maxRows∧0≤h∧h≤1000):∀ lo H,CallOk NC lo 31 [.agg [i64 h,.ps .unk (f.map Pos.Rst.row)],.agg [i64 num,.bool wd,.str name,i64 frm,i64 to,i64 speed,.bool b]] H (pstV (Pos.arrived ⟨h.toNat,f⟩ b ⟨num,wd,⟨name,frm,to,speed⟩⟩)) H:=by
 refine contract saneNC primsF31 (fn:=Tryz.f31) (by kernel_rfl) Tryz.func31 rfl rfl (by rfl) (by rfl) ?_
 obtain ⟨hl,h0,h1⟩:=hp
 obtain ⟨n,rfl⟩:=Int.eq_ofNat_of_zero_le h0
 have hn:((n:Int)).toNat=n:=rfl
 have hw:wrapq .i64 (Int.add (n:Int) 1)=((n+1:Nat):Int):=wrap_nat (n:=n+1) (by omega)
 have hap:=pe49 f ⟨num,wd,⟨name,frm,to,speed⟩⟩ hl
 simp only [Pos.Msg.row] at hap
 unfold pstV Pos.arrived
 rw [hn]
 cases b with
 | true =>
   rw [if_pos (.inl rfl)]
   simp (config:={ maxDischargeDepth:=12 }) only [go_sem,reduceIte,reduceEqDiff,reduceAdd,reduceMul,reduceSub,reduceLeDiff,reduceLT,Nat.reduceBEq,reduceCtorEq]
 | false =>
   by_cases c:num=((n+1:Nat):Int)
   · have c1:=eq_true c
     have cn:¬ (false=true∨num ≠ (n:Int)+1):=by
      rintro (h | h)
      · cases h
      · omega
     rw [if_neg cn]
     generalize Pos.applied f ⟨num,wd,⟨name,frm,to,speed⟩⟩=A at hap ⊢
     obtain ⟨F',B⟩:=A
     cases B with
     | true =>
       rw [if_pos rfl]
       simp (config:={ maxDischargeDepth:=12 }) only [go_sem,reduceIte,reduceEqDiff,reduceAdd,reduceMul,reduceSub,reduceLeDiff,reduceLT,Nat.reduceBEq,reduceCtorEq,hw,c1,hap]
       rw [c]
     | false =>
       rw [if_neg (by simp)]
       simp (config:={ maxDischargeDepth:=12 }) only [go_sem,reduceIte,reduceEqDiff,reduceAdd,reduceMul,reduceSub,reduceLeDiff,reduceLT,Nat.reduceBEq,reduceCtorEq,hw,c1,hap]
   · have c1:=eq_false c
     rw [if_pos (.inr (show num ≠ (n:Int)+1 by omega))]
     simp (config:={ maxDischargeDepth:=12 }) only [go_sem,reduceIte,reduceEqDiff,reduceAdd,reduceMul,reduceSub,reduceLeDiff,reduceLT,Nat.reduceBEq,reduceCtorEq,hw,c1]
noncomputable def p31:List AV→Option AV:=primOf (α:=(Int) × (List Rst) × (Int) × (Bool) × (Nm) × (Int) × (Int) × (Int) × (Bool)) (fun x=>[.agg [i64 x.1,.ps .unk (x.2.1.map Pos.Rst.row)],.agg [i64 x.2.2.1,.bool x.2.2.2.1,.str x.2.2.2.2.1,i64 x.2.2.2.2.2.1,i64 x.2.2.2.2.2.2.1,i64 x.2.2.2.2.2.2.2.1,.bool x.2.2.2.2.2.2.2.2]]) (fun x=>x.2.1.length+1≤maxRows∧0≤x.1∧x.1≤1000) (fun x=>pstV (Pos.arrived ⟨x.1.toNat,x.2.1⟩ x.2.2.2.2.2.2.2.2 ⟨x.2.2.1,x.2.2.2.1,⟨x.2.2.2.2.1,x.2.2.2.2.2.1,x.2.2.2.2.2.2.1,x.2.2.2.2.2.2.2.1⟩⟩))
theorem pok31:∀ args v,p31 args=some v → ∀ lo H,CallOk NC lo 31 args H v H:=by
 intro args v h
 obtain ⟨x,rfl,hp,rfl⟩:=primOf_inv h
 exact c31 x.1 x.2.1 x.2.2.1 x.2.2.2.1 x.2.2.2.2.1 x.2.2.2.2.2.1 x.2.2.2.2.2.2.1 x.2.2.2.2.2.2.2.1 x.2.2.2.2.2.2.2.2 hp
theorem pe31 (h:Int) (f:List Rst) (num:Int) (wd:Bool) (name:Nm) (frm:Int) (to:Int) (speed:Int) (b:Bool) (hp:f.length+1≤maxRows∧0≤h∧h≤1000):p31 [.agg [.int .i64 h,.ps .unk (f.map Pos.Rst.row)],.agg [.int .i64 num,.bool wd,.str name,.int .i64 frm,.int .i64 to,.int .i64 speed,.bool b]]=some (pstV (Pos.arrived ⟨h.toNat,f⟩ b ⟨num,wd,⟨name,frm,to,speed⟩⟩)):=primOf_enc (by intro x y h;(simp only [List.cons.injEq,AV.agg.injEq,AV.str.injEq,AV.int.injEq,AV.ps.injEq,AV.bool.injEq,Pos.Rst.row_inj,Pos.Msg.row_inj,rsts_inj,msgs_inj,rnds_inj,Pos.Rnd.row_inj,true_and,and_true] at h;first | simpa only [Prod.ext_iff] using h | simpa only [Prod.ext_iff,and_assoc] using h)) (h,f,num,wd,name,frm,to,speed,b) hp
attribute [go_sem] pe31
end Go.Sim

namespace Go.Sim
open Go Go.Proofs
open Go.Sim.Pos (Nm Rst Msg Pst Rnd Off)
theorem firstI_zero:∀ {l:List Int},firstI l=0 → ∀ x ∈ l,x=0
 | [],_,x,hx=>by cases hx
 | e::r,h,x,hx=>by
   unfold firstI at h
   by_cases he:e=0
   · rw [if_pos he] at h
     rcases List.mem_cons.1 hx with rfl | hx
     · exact he
     · exact firstI_zero h x hx
   · rw [if_neg he] at h
     exact absurd h he
theorem whenI_zero {b:Bool} {e:Int} (he:e ≠ 0) (h:whenI b e=0):b=false:=by
 cases b
 · rfl
 · exact absurd h he
theorem offGo_all:∀ (l:List Msg) (f:List Rst) (i:Nat),offGo f i l=0 → ∀ (k:Nat) m,l[k]? = some m→m.num=((i+k:Nat):Int)+1∧Pos.hasR ((l.take k).foldl (fun f m=>(Pos.applied f m).1) f) m.r.name=m.wd∧msgE m=0
 | [],f,i,_,k,m,hm=>by simp at hm
 | x::l,f,i,h,k,m,hm=>by
   rw [offGo_cons] at h
   split at h
   · rename_i h1;exact absurd h h1
   rename_i h1
   have h1:firstI [msgE x,whenI (decide (x.num ≠ (i:Int)+1)) 11,whenI (!x.wd && Pos.hasR f x.r.name) 9,whenI (x.wd && !Pos.hasR f x.r.name) 10]=0:=Decidable.byContradiction h1
   have hz:=firstI_zero h1
   cases k with
   | zero =>
     have hx:x=m:=by simpa using hm
     subst hx
     have e1:=hz (msgE x) (by simp)
     have e2:=whenI_zero (by decide) (hz _ (List.mem_cons_of_mem _ (List.mem_cons_self ..)))
     have e3:=whenI_zero (by decide) (hz (whenI (!x.wd && Pos.hasR f x.r.name) 9) (by simp))
     have e4:=whenI_zero (by decide) (hz (whenI (x.wd && !Pos.hasR f x.r.name) 10) (by simp))
     have hw:Pos.hasR f x.r.name=x.wd:=by
      cases hx1:x.wd<;>cases hx2:Pos.hasR f x.r.name<;>rw [hx1,hx2] at e3 e4<;>first | rfl | exact absurd e3 (by decide) | exact absurd e4 (by decide)
     refine ⟨?_,by simpa using hw,e1⟩
     have:=of_decide_eq_false e2
     simpa using this
   | succ k =>
     have hm':l[k]? = some m:=by simpa using hm
     obtain ⟨a,b,c⟩:=offGo_all l (Pos.applied f x).1 (i+1) h k m hm'
     refine ⟨by rw [a];congr 2;omega, ?_,c⟩
     rw [List.take_succ_cons,List.foldl_cons]
     exact b
theorem office_go {l:List Msg} {a:Int} (h:officeE l a=0):offGo [] 0 l=0:=by
 unfold officeE at h
 split at h
 · cases h
 split at h
 · rename_i h2;exact absurd h h2
 · rename_i h2;exact Decidable.byContradiction h2
theorem offok_of {l:List Msg} {a:Int} (h:officeE l a=0):Pos.OffOk l:=by
 have hlen:=office_len h
 have hall:=offGo_all l [] 0 (office_go h)
 refine ⟨fun i m hm => ?_,fun i m hm => ?_⟩
 · have:=(hall i m hm).1
   rw [Nat.zero_add] at this
   exact this
 · have hh:=(hall i m hm).2.1
   have hi:i < l.length:=(List.getElem?_eq_some_iff.1 hm).1
   have hal:=after_len (l.take i)
   rw [List.length_take] at hal
   have hh:Pos.hasR (Pos.afterF (l.take i)) m.r.name=m.wd:=hh
   unfold Pos.applied
   rw [hh,if_neg (by rintro (h | ⟨_,h⟩);exact h rfl;omega)]
   split<;>rfl
theorem hear_sub {msgs:List Msg} (O:Pos.OffOk msgs) (lost:List Int):∀ (ms:List Msg) (p:Pst),(∀ m ∈ ms,m ∈ msgs)→p.heard≤msgs.length→p.force=Pos.afterF (msgs.take p.heard)→(Pos.hear lost p ms).heard≤msgs.length∧(Pos.hear lost p ms).force=Pos.afterF (msgs.take (Pos.hear lost p ms).heard)
 | [],p,_,h1,h2=>⟨h1,h2⟩
 | m::ms,p,hm,h1,h2=>by
   obtain ⟨i,hi⟩:=List.mem_iff_getElem?.1 (hm m (by simp))
   have e:Pos.hear lost p (m::ms)=Pos.hear lost (Pos.arrived p (decide (m.num ∈ lost)) m) ms:=rfl
   rw [e,Pos.arrive_one O h2 hi]
   have hlt:i < msgs.length:=(List.getElem?_eq_some_iff.1 hi).1
   split
   · exact hear_sub O lost ms _ (fun z hz=>hm z (by simp [hz])) (by show i+1≤_;omega) rfl
   · exact hear_sub O lost ms p (fun z hz=>hm z (by simp [hz])) h1 h2
theorem hear_snoc (lost:List Int) (p:Pst) (ms:List Msg) (m:Msg):Pos.hear lost p (ms++[m])=Pos.arrived (Pos.hear lost p ms) (decide (m.num ∈ lost)) m:=by
 unfold Pos.hear
 rw [List.foldl_append]
 rfl
end Go.Sim

namespace Go.Sim
open Go Go.Proofs
open Go.Sim.Pos (Nm Rst Msg Pst Rnd Off Len flat_len flat_take flat_drop flat_at)
set_option maxRecDepth 100000
set_option maxHeartbeats 8000000
theorem sl_hi {l:List Msg} {n:Nat} (hn:n≤l.length):∃ t,(∀ (k:Nat) (rows:List (List AV)),(AV.ps t rows).under k=true)∧aslice NC.P 29 (.ps .unk (l.map Pos.Msg.row)) none (some (.int .i64 (n:Nat))) none=some (.ps t ((l.take n).map Pos.Msg.row)):=by
 have hu:NC.P.underlying 29=some (.slice 86):=by kernel_rfl
 have hz:szOf NC.P 86=some 6:=by kernel_rfl
 have hb:boundOf l.length l.length (some (.int .i64 (n:Nat)))=some n:=by
  have hn':natOf (l.length+1) (.int .i64 (n:Nat))=some n:=by rw [natOf_cast,if_pos (by omega)]
  unfold boundOf
  simp only [hn']
 have h0:∀ k,boundOf 0 k none=some 0:=fun k=>rfl
 unfold aslice
 simp only [hu,hz,all_mrows (u:=Pos.Msg.row) (n:=6) (fun _=>rfl) l,if_true,asliceRows,List.length_map,hb,h0,List.map_take,List.drop_zero]
 exact ⟨.unk,fun _ _=>rfl,rfl⟩
theorem sl_lo {l:List Msg} {n:Nat} {t:Tok} (hn:n≤l.length):∃ t',aslice NC.P 29 (.ps t (l.map Pos.Msg.row)) (some (.int .i64 (n:Nat))) none none=some (.ps t' ((l.drop n).map Pos.Msg.row)):=by
 have hu:NC.P.underlying 29=some (.slice 86):=by kernel_rfl
 have hz:szOf NC.P 86=some 6:=by kernel_rfl
 have hb:boundOf 0 l.length (some (.int .i64 (n:Nat)))=some n:=by
  have hn':natOf (l.length+1) (.int .i64 (n:Nat))=some n:=by rw [natOf_cast,if_pos (by omega)]
  unfold boundOf
  simp only [hn']
 have h0:boundOf l.length l.length none=some l.length:=rfl
 unfold aslice
 simp only [hu,hz,all_mrows (u:=Pos.Msg.row) (n:=6) (fun _=>rfl) l,if_true,asliceRows,List.length_map,hb,h0,List.map_drop]
 exact ⟨cutTok l.length n l.length t,by rw [List.take_of_length_le (by simp)]⟩
def exV (l : List Msg) (a h : Int) (f : List Rst) (rs : List Rnd) : AV := if firstI [officeE l a, postE h f, roundsE rs] ≠ 0 then .tup [.agg [.ps .unk [], .int .i64 0], .agg [.int .i64 0, .ps .unk []], .int .i64 (firstI [officeE l a, postE h f, roundsE rs])] else if (l.length : Int) < h ∨ h < a ∨ Pos.afterF (l.take h.toNat) ≠ f then .tup [.agg [.ps .unk [], .int .i64 0], .agg [.int .i64 0, .ps .unk []], .int .i64 24] else .tup [.agg [.ps .unk (l.map Pos.Msg.row), .int .i64 ((Pos.exchF ⟨l, a.toNat⟩ ⟨h.toNat, f⟩ rs).1.acked : Int)], pstV (Pos.exchF ⟨l, a.toNat⟩ ⟨h.toNat, f⟩ rs).2, .int .i64 0]
theorem post_heard {h:Int} {f:List Rst} (he:postE h f=0):0≤h∧h≤64:=by
 unfold postE at he
 split at he
 · rename_i h1;exact absurd he h1
 rename_i h1
 have:=firstI_zero (Decidable.byContradiction h1) (withinI h 0 64) (by simp)
 have:=whenI_zero (by decide) this
 simp only [Bool.or_eq_false_iff,decide_eq_false_iff_not] at this
 omega
theorem exch_msgs:∀ (l:List Rnd) (o:Off) (p:Pst),(Pos.exchF o p l).1.msgs=o.msgs
 | [],_,_=>rfl
 | r::l,o,p=>exch_msgs l (Pos.round1 (o,p) r).1 (Pos.round1 (o,p) r).2
theorem exch_snoc (o:Off) (p:Pst) (l:List Rnd) (r:Rnd):Pos.exchF o p (l++[r])=Pos.round1 (Pos.exchF o p l) r:=by
 unfold Pos.exchF
 rw [List.foldl_append]
 rfl
noncomputable def PPF10:FuncId→Option (List AV→Option AV):=addPrim 31 p31 (addPrim 32 p32 (addPrim 30 p30 (addPrim 29 p29 (addPrim 28 p28 (addPrim 23 p23 (addPrim 20 p20 (addPrim 27 p27 (addPrim 26 p26 (addPrim 21 p21 (fun _=>none))))))))))
theorem primsF10:PrimsOk NC PPF10:=primsOk_add (primsOk_add (primsOk_add (primsOk_add (primsOk_add (primsOk_add (primsOk_add (primsOk_add (primsOk_add (primsOk_add (primsOk_none) (by kernel_rfl) (by kernel_rfl) pok21) (by kernel_rfl) (by kernel_rfl) pok26) (by kernel_rfl) (by kernel_rfl) pok27) (by kernel_rfl) (by kernel_rfl) pok20) (by kernel_rfl) (by kernel_rfl) pok23) (by kernel_rfl) (by kernel_rfl) pok28) (by kernel_rfl) (by kernel_rfl) pok29) (by kernel_rfl) (by kernel_rfl) pok30) (by kernel_rfl) (by kernel_rfl) pok32) (by kernel_rfl) (by kernel_rfl) pok31
theorem enF10_21:En PPF10 21 p21:=enter_prim (by rfl) (by kernel_rfl)
theorem enF10_26:En PPF10 26 p26:=enter_prim (by rfl) (by kernel_rfl)
theorem enF10_27:En PPF10 27 p27:=enter_prim (by rfl) (by kernel_rfl)
theorem enF10_20:En PPF10 20 p20:=enter_prim (by rfl) (by kernel_rfl)
theorem enF10_23:En PPF10 23 p23:=enter_prim (by rfl) (by kernel_rfl)
theorem enF10_28:En PPF10 28 p28:=enter_prim (by rfl) (by kernel_rfl)
theorem enF10_29:En PPF10 29 p29:=enter_prim (by rfl) (by kernel_rfl)
theorem enF10_30:En PPF10 30 p30:=enter_prim (by rfl) (by kernel_rfl)
theorem enF10_32:En PPF10 32 p32:=enter_prim (by rfl) (by kernel_rfl)
theorem enF10_31:En PPF10 31 p31:=enter_prim (by rfl) (by kernel_rfl)
attribute [go_sem ↓] enF10_21 enF10_26 enF10_27 enF10_20 enF10_23 enF10_28 enF10_29 enF10_30 enF10_32 enF10_31
theorem c10 (l : List Msg) (a : Int) (h : Int) (f : List Rst) (rs : List Rnd) (hp : l.length ≤ maxRows ∧ f.length ≤ maxRows ∧ rs.length ≤ maxRows ∧ (∀ z ∈ rs, z.lost.length ≤ maxRows)) : ∀ lo H, CallOk NC lo 10 [.agg [.ps .unk (l.map Pos.Msg.row), i64 a], .agg [i64 h, .ps .unk (f.map Pos.Rst.row)], .ps .unk (rs.map Pos.Rnd.row)] H (exV l a h f rs) H := by
 refine contract saneNC primsF10 (fn := Tryz.f10) (by kernel_rfl) Tryz.func10 rfl rfl (by rfl) (by unfold exV pstV; (repeat' split) <;> rfl) ?_
 obtain ⟨hl, hfl, hrl, hrz⟩ := hp
 have hof := pe21 l a hl
 have hpo := pe26 h f hfl
 have hro := pe27 rs ⟨hrl, hrz⟩
 unfold exV
 by_cases c1 : firstI [officeE l a, postE h f, roundsE rs] = 0
 · rw [if_neg (by simpa using c1)]
   have hz := firstI_zero c1
   have ho : officeE l a = 0 := hz _ (by simp)
   have hpE : postE h f = 0 := hz _ (by simp)
   have O := offok_of ho
   obtain ⟨ha0, ha1⟩ := office_ack ho
   obtain ⟨hh0, hh1⟩ := post_heard hpE
   have hlen := office_len ho
   obtain ⟨n, rfl⟩ := Int.eq_ofNat_of_zero_le ha0
   obtain ⟨m, rfl⟩ := Int.eq_ofNat_of_zero_le hh0
   have htn : ∀ k : Nat, ((k : Int)).toNat = k := fun k => rfl
   rw [htn, htn]
   have hoo := pe29 l (n : Int) hl
   have hpp := pe30 (m : Int) f hfl
   by_cases c2 : l.length < m
   · have d2 : ((l.length : Int) < (m : Int)) = True := eq_true (by omega)
     rw [if_pos (.inl (by omega))]
     simp (config := { maxDischargeDepth := 12 }) only [go_sem, reduceIte, reduceEqDiff, reduceAdd, reduceMul, reduceSub, reduceLeDiff, reduceLT, Nat.reduceBEq, reduceCtorEq, hof, hpo, hro, c1, d2]
   have d2 : ((l.length : Int) < (m : Int)) = False := eq_false (by omega)
   by_cases c3 : m < n
   · have d3 : ((m : Int) < (n : Int)) = True := eq_true (by omega)
     rw [if_pos (.inr (.inl (by omega)))]
     simp (config := { maxDischargeDepth := 12 }) only [go_sem, reduceIte, reduceEqDiff, reduceAdd, reduceMul, reduceSub, reduceLeDiff, reduceLT, Nat.reduceBEq, reduceCtorEq, hof, hpo, hro, c1, d2, d3]
   have d3 : ((m : Int) < (n : Int)) = False := eq_false (by omega)
   obtain ⟨tt, htt, hsl⟩ := sl_hi (l := l) (n := m) (by omega)
   have haf := pe23 (l.take m) (by rw [List.length_take]; omega)
   have hal := after_len (l.take m)
   rw [List.length_take] at hal
   have heq := pe28 (Pos.afterF (l.take m)) f (by unfold maxRows; omega)
   by_cases c4 : Pos.afterF (l.take m) = f
   · have d4 : decide (Pos.afterF (l.take m) = f) = true := decide_eq_true c4
     rw [if_neg (by rintro (h | h | h); omega; omega; exact h c4)]
     rw [d4] at heq
     have H0 : Pos.Heard ⟨l, n⟩ ⟨m, f⟩ := ⟨by show m ≤ l.length; omega, by show n ≤ m; omega, c4.symm⟩
     simp (config := { maxDischargeDepth := 12 }) only [go_sem, reduceIte, reduceEqDiff, reduceAdd, reduceMul, reduceSub, reduceLeDiff, reduceLT, Nat.reduceBEq, reduceCtorEq, hof, hpo, hro, c1, d2, d3, htt, hsl, haf, heq, hoo, hpp]
     refine W_for (fun k T H M => M = [] ∧ getT T 3 = .ptr 0 0 ∧ getT T 4 = .ptr 1 0 ∧ getT T 6 = .ptr 2 0 ∧ getT T 7 = .ptr 3 0 ∧ getT T 58 = .ps .unk (rs.map Pos.Rnd.row) ∧ getT T 59 = i64 (rs.length : Nat) ∧ getT T 60 = i64 k ∧ 4 ≤ H.n ∧ H.get 0 = .cells [.ps .unk (l.map Pos.Msg.row), .int .i64 ((Pos.exchF ⟨l, n⟩ ⟨m, f⟩ (rs.take k)).1.acked : Int)] 31 ∧ H.get 1 = .cells [.int .i64 ((Pos.exchF ⟨l, n⟩ ⟨m, f⟩ (rs.take k)).2.heard : Int), .ps .unk ((Pos.exchF ⟨l, n⟩ ⟨m, f⟩ (rs.take k)).2.force.map Pos.Rst.row)] 46 ∧ H.get 2 = .cells [.ps .nil [], .int .i64 0] 31 ∧ H.get 3 = .cells [.int .i64 0, .ps .nil []] 46) rs.length ?_ ?_ ?_
     · simp (config := { maxDischargeDepth := 12 }) only [go_sem, reduceIte, reduceEqDiff, reduceAdd, reduceMul, reduceSub, reduceLeDiff, reduceLT, Nat.reduceBEq, reduceCtorEq]
       exact ⟨rfl, rfl⟩
     · rintro k T H M hk ⟨rfl, g3, g4, g6, g7, g58, g59, g60, hHn, hb0, hb1, hb2, hb3⟩
       obtain ⟨r, hr⟩ : ∃ x, rs[k]? = some x := ⟨rs[k], by simp⟩
       have hw := wrap_succ hk hrl
       have hrr : (rs.map Pos.Rnd.row)[k]? = some r.row := map_at hr
       have hrlz := hrz r (List.mem_of_getElem? hr)
       obtain ⟨Hq, hmq, _⟩ := Pos.exch_ok (rs.take k) (o := ⟨l, n⟩) (p := ⟨m, f⟩) O H0
       have hsn : Pos.exchF ⟨l, n⟩ ⟨m, f⟩ (rs.take (k + 1)) = Pos.round1 (Pos.exchF ⟨l, n⟩ ⟨m, f⟩ (rs.take k)) r := by rw [Pos.take_snoc hr, exch_snoc]
       rw [hsn]
       generalize hq : Pos.exchF ⟨l, n⟩ ⟨m, f⟩ (rs.take k) = q at *
       obtain ⟨⟨ms, ack⟩, pp⟩ := q
       simp only at hmq hb0 hb1
       subst hmq
       obtain ⟨q1, q2, q3⟩ := Hq
       simp only at q1 q2 q3
       obtain ⟨lost, deaf⟩ := r
       simp only [Pos.Rnd.row] at hrr
       simp only at hrlz
       obtain ⟨t', hsd⟩ := sl_lo (l := ms) (n := ack) (t := .unk) (by omega)
       have hz0 : ((0 : Nat) = H.n) = False := eq_false (by omega)
       have hz1 : ((1 : Nat) = H.n) = False := eq_false (by omega)
       have hz2 : ((2 : Nat) = H.n) = False := eq_false (by omega)
       have hz3 : ((3 : Nat) = H.n) = False := eq_false (by omega)
       simp (config := { maxDischargeDepth := 12 }) only [go_sem, reduceIte, reduceEqDiff, reduceAdd, reduceMul, reduceSub, reduceLeDiff, reduceLT, Nat.reduceBEq, reduceCtorEq, g3, g4, g6, g7, g58, g59, g60, hk, hrr, hw, hb0, hb1, hz0, hz1, hsd]
       have hdl : (ms.drop ack).length ≤ maxRows := by rw [List.length_drop]; omega
       have hdd : ∀ z ∈ ms.drop ack, z ∈ ms := fun z hz => List.mem_of_mem_drop hz
       refine W_for (fun k2 T2 H2 M2 => M2 = [] ∧ getT T2 3 = .ptr 0 0 ∧ getT T2 4 = .ptr 1 0 ∧ getT T2 6 = .ptr 2 0 ∧ getT T2 7 = .ptr 3 0 ∧ getT T2 58 = .ps .unk (rs.map Pos.Rnd.row) ∧ getT T2 59 = i64 (rs.length : Nat) ∧ getT T2 60 = i64 k ∧ getT T2 11 = .ptr H.n 0 ∧ getT T2 68 = .ps t' ((ms.drop ack).map Pos.Msg.row) ∧ getT T2 69 = i64 ((ms.drop ack).length : Nat) ∧ getT T2 70 = i64 k2 ∧ H.n < H2.n ∧ H2.get H.n = .cells [.ps .unk (ints lost), .bool deaf] 61 ∧ H2.get 0 = .cells [.ps .unk (ms.map Pos.Msg.row), .int .i64 (ack : Int)] 31 ∧ H2.get 1 = .cells [.int .i64 ((Pos.hear lost pp ((ms.drop ack).take k2)).heard : Int), .ps .unk ((Pos.hear lost pp ((ms.drop ack).take k2)).force.map Pos.Rst.row)] 46 ∧ H2.get 2 = .cells [.ps .nil [], .int .i64 0] 31 ∧ H2.get 3 = .cells [.int .i64 0, .ps .nil []] 46) (ms.drop ack).length ?_ ?_ ?_
       · simp (config := { maxDischargeDepth := 12 }) only [go_sem, reduceIte, reduceEqDiff, reduceAdd, reduceMul, reduceSub, reduceLeDiff, reduceLT, Nat.reduceBEq, reduceCtorEq, hb2, hb3, hb0, hb1, hz0, hz1, hz2, hz3]
         exact ⟨g3, g4, g6, g7, g58, g59, g60, rfl⟩
       · rintro k2 T2 H2 M2 hk2 ⟨rfl, j3, j4, j6, j7, j58, j59, j60, j11, j68, j69, j70, jn, jr, jb0, jb1, jb2, jb3⟩
         obtain ⟨x, hx⟩ : ∃ x, (ms.drop ack)[k2]? = some x := ⟨(ms.drop ack)[k2], by simp⟩
         have hw2 := wrap_succ hk2 hdl
         have hxr : ((ms.drop ack).map Pos.Msg.row)[k2]? = some x.row := map_at hx
         have hxm : x ∈ ms := hdd x (List.mem_of_getElem? hx)
         have hsub := hear_sub O lost ((ms.drop ack).take k2) pp (fun z hz => hdd z (List.mem_of_mem_take hz)) q1 q3
         have hco := pe32 lost x.num hrlz
         have hfo := after_len (ms.take (Pos.hear lost pp ((ms.drop ack).take k2)).heard)
         rw [← hsub.2, List.length_take] at hfo
         have hhe := hsub.1
         have hsn2 : Pos.hear lost pp ((ms.drop ack).take (k2 + 1)) = Pos.arrived (Pos.hear lost pp ((ms.drop ack).take k2)) (decide (x.num ∈ lost)) x := by rw [Pos.take_snoc hx, hear_snoc]
         rw [hsn2]
         generalize Pos.hear lost pp ((ms.drop ack).take k2) = P at jb1 hfo hhe ⊢
         generalize decide (x.num ∈ lost) = D at hco ⊢
         obtain ⟨num, wd, name, frm, to, speed⟩ := x
         simp only at hco
         have har := pe31 (P.heard : Int) P.force num wd name frm to speed D ⟨by unfold maxRows; omega, by omega, by omega⟩
         rw [show ((P.heard : Int)).toNat = P.heard from rfl] at har
         generalize hQ : Pos.arrived ⟨P.heard, P.force⟩ D ⟨num, wd, ⟨name, frm, to, speed⟩⟩ = Q at har
         have hQ' : Pos.arrived P D ⟨num, wd, ⟨name, frm, to, speed⟩⟩ = Q := hQ
         try rw [hQ']
         unfold pstV at har
         simp only [Pos.Msg.row] at hxr
         have y0 : ((0 : Nat) = H2.n) = False := eq_false (by omega)
         have y1 : ((1 : Nat) = H2.n) = False := eq_false (by omega)
         have y2 : ((2 : Nat) = H2.n) = False := eq_false (by omega)
         have y3 : ((3 : Nat) = H2.n) = False := eq_false (by omega)
         have y4 : (H.n = H2.n) = False := eq_false (by omega)
         have y5 : (H.n = 1) = False := eq_false (by omega)
         have y6 : (H2.n = 1) = False := eq_false (by omega)
         have y7 : (H.n < H2.n + 1) = True := eq_true (by omega)
         have y8 : (1 < H2.n + 1) = True := eq_true (by omega)
         have y9 : (1 = H.n) = False := eq_false (by omega)
         simp (config := { maxDischargeDepth := 12 }) only [go_sem, reduceIte, reduceEqDiff, reduceAdd, reduceMul, reduceSub, reduceLeDiff, reduceLT, Nat.reduceBEq, reduceCtorEq, j3, j4, j6, j7, j58, j59, j60, j11, j68, j69, j70, hk2, hxr, hw2, jr, jb0, jb1, jb2, jb3, hco, har, y0, y1, y2, y3, y4, y5, y6, y7, y8, y9]
       · rintro T2 H2 M2 ⟨rfl, j3, j4, j6, j7, j58, j59, j60, j11, j68, j69, j70, jn, jr, jb0, jb1, jb2, jb3⟩
         rw [List.take_length] at jb1
         unfold Pos.round1
         simp only
         generalize Pos.hear lost pp (ms.drop ack) = P at jb1 ⊢
         have y0 : (H.n = 0) = False := eq_false (by omega)
         have y1 : (H.n = 1) = False := eq_false (by omega)
         have y2 : (4 ≤ H2.n) = True := eq_true (by omega)
         have hmx : maxI (ack : Int) (P.heard : Int) = ((max ack P.heard : Nat) : Int) := by
          unfold maxI
          split <;> omega
         cases deaf with
         | true =>
           simp (config := { maxDischargeDepth := 12 }) only [go_sem, reduceIte, reduceEqDiff, reduceAdd, reduceMul, reduceSub, reduceLeDiff, reduceLT, Nat.reduceBEq, reduceCtorEq, j3, j4, j6, j7, j58, j59, j60, j11, j68, j69, j70, Nat.lt_irrefl, jr, jb0, jb1, jb2, jb3, hw, y0, y1, y2]
         | false =>
           simp (config := { maxDischargeDepth := 12 }) only [go_sem, reduceIte, reduceEqDiff, reduceAdd, reduceMul, reduceSub, reduceLeDiff, reduceLT, Nat.reduceBEq, reduceCtorEq, j3, j4, j6, j7, j58, j59, j60, j11, j68, j69, j70, Nat.lt_irrefl, jr, jb0, jb1, jb2, jb3, hw, y0, y1, y2, hmx]
     · rintro T H M ⟨rfl, g3, g4, g6, g7, g58, g59, g60, hHn, hb0, hb1, hb2, hb3⟩
       rw [List.take_length] at hb0 hb1
       have hms := exch_msgs rs ⟨l, n⟩ ⟨m, f⟩
       generalize Pos.exchF ⟨l, n⟩ ⟨m, f⟩ rs = q at hb0 hb1 ⊢
       simp (config := { maxDischargeDepth := 12 }) only [go_sem, reduceIte, reduceEqDiff, reduceAdd, reduceMul, reduceSub, reduceLeDiff, reduceLT, Nat.reduceBEq, reduceCtorEq, g3, g4, g6, g7, g58, g59, g60, Nat.lt_irrefl, hb0, hb1, hb2, hb3]
       rfl
   · have d4 : decide (Pos.afterF (l.take m) = f) = false := decide_eq_false c4
     rw [if_pos (.inr (.inr c4))]
     rw [d4] at heq
     simp (config := { maxDischargeDepth := 12 }) only [go_sem, reduceIte, reduceEqDiff, reduceAdd, reduceMul, reduceSub, reduceLeDiff, reduceLT, Nat.reduceBEq, reduceCtorEq, hof, hpo, hro, c1, d2, d3, htt, hsl, haf, heq]
 · rw [if_pos c1]
   simp (config := { maxDischargeDepth := 12 }) only [go_sem, reduceIte, reduceEqDiff, reduceAdd, reduceMul, reduceSub, reduceLeDiff, reduceLT, Nat.reduceBEq, reduceCtorEq, hof, hpo, hro, c1]
noncomputable def p10:List AV→Option AV:=primOf (α:=(List Msg) × (Int) × (Int) × (List Rst) × (List Rnd)) (fun x=>[.agg [.ps .unk (x.1.map Pos.Msg.row),i64 x.2.1],.agg [i64 x.2.2.1,.ps .unk (x.2.2.2.1.map Pos.Rst.row)],.ps .unk (x.2.2.2.2.map Pos.Rnd.row)]) (fun x=>x.1.length≤maxRows∧x.2.2.2.1.length≤maxRows∧x.2.2.2.2.length≤maxRows∧(∀ z ∈ x.2.2.2.2,z.lost.length≤maxRows)) (fun x=>exV x.1 x.2.1 x.2.2.1 x.2.2.2.1 x.2.2.2.2)
theorem pok10:∀ args v,p10 args=some v → ∀ lo H,CallOk NC lo 10 args H v H:=by
 intro args v h
 obtain ⟨x,rfl,hp,rfl⟩:=primOf_inv h
 exact c10 x.1 x.2.1 x.2.2.1 x.2.2.2.1 x.2.2.2.2 hp
theorem pe10 (l:List Msg) (a:Int) (h:Int) (f:List Rst) (rs:List Rnd) (hp:l.length≤maxRows∧f.length≤maxRows∧rs.length≤maxRows∧(∀ z ∈ rs,z.lost.length≤maxRows)):p10 [.agg [.ps .unk (l.map Pos.Msg.row),.int .i64 a],.agg [.int .i64 h,.ps .unk (f.map Pos.Rst.row)],.ps .unk (rs.map Pos.Rnd.row)]=some (exV l a h f rs):=primOf_enc (by intro x y h;(simp only [List.cons.injEq,AV.agg.injEq,AV.str.injEq,AV.int.injEq,AV.ps.injEq,AV.bool.injEq,Pos.Rst.row_inj,Pos.Msg.row_inj,rsts_inj,msgs_inj,rnds_inj,Pos.Rnd.row_inj,true_and,and_true] at h;first | simpa only [Prod.ext_iff] using h | simpa only [Prod.ext_iff,and_assoc] using h)) (l,a,h,f,rs) hp
attribute [go_sem] pe10
end Go.Sim

namespace Go.Sim
open Go Go.Proofs
open Go.Sim.Pos (Nm Trk Flt Trn Pos Mch Reg Ev Rst Msg Pst Rnd Len flat_len flat_take flat_drop flat_at)
set_option maxRecDepth 100000
set_option maxHeartbeats 4000000
theorem ev_all (l:List Ev):(l.map Pos.Ev.row).all (fun r=>decide (r.length=5))=true:=all_mrows (u:=Pos.Ev.row) (n:=5) (fun _=>rfl) l
theorem app_evs {l:List Ev} (hl:l.length≤maxRows) (lo:Nat) (H:Heap):∃ t H',appP lo H 5 70 (.ps .exact []) (l.map Pos.Ev.row)=some (.ps t (l.map Pos.Ev.row),H')∧Old H.n H H'∧(∀ n,H'.n≤n→(AV.ps t (l.map Pos.Ev.row)).under n=true):=by
 cases l with
 | nil=>exact ⟨.exact,H,rfl,Old.refl H,fun _ _=>rfl⟩
 | cons x r =>
   refine ⟨.tok H.n,H.push (.row [] 5 70), ?_,(Old.refl H).push _,fun n hn => ?_⟩
   · have h1:([]:List (List AV)).length+((x::r).map Pos.Ev.row).length≤maxRows:=by simpa using hl
     have h2:=pure_mrows (u:=Pos.Ev.row) (fun _=>rfl) (x::r)
     have h4:=strip_mrows (u:=Pos.Ev.row) (fun _=>rfl) (x::r)
     unfold appP
     simp only [List.map_cons] at h1 h2 h4 ⊢
     simp only [h1,h2,h4,decide_true,Bool.and_self,Bool.true_and,if_true,List.all_nil]
     rfl
   · simp only [AV.under,Nat.blt_eq]
     simp only [hn_push] at hn
     omega
noncomputable def PPF14:FuncId→Option (List AV→Option AV):=addPrim 19 p19 (fun _=>none)
theorem primsF14:PrimsOk NC PPF14:=primsOk_add (primsOk_none) (by kernel_rfl) (by kernel_rfl) pok19
theorem enF14_19:En PPF14 19 p19:=enter_prim (by rfl) (by kernel_rfl)
attribute [go_sem ↓] enF14_19
theorem c14 (l : List Ev) (k : Nm) (vs : List Int) (ns : List Nm) (hp : l.length ≤ 1000 ∧ (∀ z ∈ l, EvS z) ∧ ns.length ≤ maxRows ∧ vs.length ≤ maxRows) : ∀ lo H, CallOk NC lo 14 [.ps .unk (l.map Pos.Ev.row), .str k, .ps .unk (ints vs), .ps .unk (strs ns)] H (i64 (acceptsL l ⟨(l.length : Int) + 1, k, ns, vs, []⟩)) H := by
 refine contract saneNC primsF14 (fn := Tryz.f14) (by kernel_rfl) Tryz.func14 rfl rfl (by rfl) (by first | rfl | (split <;> first | rfl | (split <;> rfl))) ?_
 obtain ⟨hl, hz, hn, hv⟩ := hp
 have hac := pe19 l ⟨(l.length : Int) + 1, k, ns, vs, []⟩ ⟨hl, hz, hn, hv⟩
 simp only [Pos.Ev.row] at hac
 have hap := fun H => app_evs (l := l) (by unfold maxRows; omega) 0 H
 obtain ⟨t, H', ha, hO, hu⟩ := hap Heap.empty
 have hw : wrapq .i64 (Int.add (l.length : Int) 1) = (l.length : Int) + 1 := wrap_nat (n := l.length + 1) (by omega)
 have hall := ev_all l
 have hac' : p19 [.ps .unk (l.map Pos.Ev.row), .agg [.int .i64 ((l.length : Int) + 1), .str k, .ps .unk (strs ns), .ps .unk (ints vs), .str []]] = _ := hac
 generalize hL : l.map Pos.Ev.row = L at ha hall hac' ⊢
 have hLl : (L.length : Int) = (l.length : Int) := by rw [← hL, List.length_map]
 simp (config := { maxDischargeDepth := 12 }) only [go_sem, reduceIte, reduceEqDiff, reduceAdd, reduceMul, reduceSub, reduceLeDiff, reduceLT, Nat.reduceBEq, reduceCtorEq, appO, hall, ha, hLl, hw, hac']
noncomputable def p14:List AV→Option AV:=primOf (α:=(List Ev) × (Nm) × (List Int) × (List Nm)) (fun x=>[.ps .unk (x.1.map Pos.Ev.row),.str x.2.1,.ps .unk (ints x.2.2.1),.ps .unk (strs x.2.2.2)]) (fun x=>x.1.length≤1000∧(∀ z ∈ x.1,EvS z)∧x.2.2.2.length≤maxRows∧x.2.2.1.length≤maxRows) (fun x=>i64 (acceptsL x.1 ⟨(x.1.length:Int)+1,x.2.1,x.2.2.2,x.2.2.1,[]⟩))
theorem pok14:∀ args v,p14 args=some v → ∀ lo H,CallOk NC lo 14 args H v H:=by
 intro args v h
 obtain ⟨x,rfl,hp,rfl⟩:=primOf_inv h
 exact c14 x.1 x.2.1 x.2.2.1 x.2.2.2 hp
theorem pe14 (l:List Ev) (k:Nm) (vs:List Int) (ns:List Nm) (hp:l.length≤1000∧(∀ z ∈ l,EvS z)∧ns.length≤maxRows∧vs.length≤maxRows):p14 [.ps .unk (l.map Pos.Ev.row),.str k,.ps .unk (ints vs),.ps .unk (strs ns)]=some (.int .i64 (acceptsL l ⟨(l.length:Int)+1,k,ns,vs,[]⟩)):=primOf_enc (by intro x y h;(simp only [List.cons.injEq,AV.agg.injEq,AV.str.injEq,AV.int.injEq,AV.ps.injEq,AV.bool.injEq,Pos.Ev.row_inj,strs_inj,ints_inj,evs_inj,true_and,and_true] at h;first | simpa only [Prod.ext_iff] using h | simpa only [Prod.ext_iff,and_assoc] using h)) (l,k,vs,ns) hp
attribute [go_sem] pe14
end Go.Sim

namespace Go.Sim
open Go Go.Proofs
open Go.Sim.Pos (Nm)
set_option maxRecDepth 100000
set_option maxHeartbeats 4000000
noncomputable def sbin (op:BinOp) (t:TypeId) (x y:AV):Option AV:=abin NC.P op t x y
section
variable {P:FuncId→Option (List AV→Option AV)} {rec:Rec} {fid lo:Nat} {T:TT AV} {H:Heap} {K:AV→Heap→Prop} {d:Option Tmp} {t:TypeId} {p:String} {af:Array Edge} {gd:Option (Nat × Bool)}
theorem op_remS (t':TypeId) (x y:Operand) (u:TypeId):VO (aop (NC.withPrims P) rec fid lo ⟨d,.binOp .rem t' x y u,t,p,af,gd⟩ T H) K=AO (evalO (NC.withPrims P) T x) fun x=>AO (evalO (NC.withPrims P) T y) fun y=>AO (sbin .rem t' x y) fun v=>K v H:=op_bin .rem t' x y u
theorem op_quoS (t':TypeId) (x y:Operand) (u:TypeId):VO (aop (NC.withPrims P) rec fid lo ⟨d,.binOp .quo t' x y u,t,p,af,gd⟩ T H) K=AO (evalO (NC.withPrims P) T x) fun x=>AO (evalO (NC.withPrims P) T y) fun y=>AO (sbin .quo t' x y) fun v=>K v H:=op_bin .quo t' x y u
end
attribute [go_sem ↓ 2000] op_remS op_quoS
noncomputable def PPF8:FuncId→Option (List AV→Option AV):=fun _=>none
theorem primsF8:PrimsOk NC PPF8:=primsOk_none
theorem c8 (n:Int) (hp:0≤n∧n≤9):∀ lo H,CallOk NC lo 8 [i64 n] H (.str [(48+n).toNat]) H:=by
 refine contract saneNC primsF8 (fn:=Tryz.f8) (by kernel_rfl) Tryz.func8 rfl rfl (by rfl) (by first | rfl | (split<;>first | rfl | (split<;>rfl))) ?_
 obtain ⟨h0,h9⟩:=hp
 have hlt:(n < 0)=False:=eq_false (by omega)
 simp (config:={ maxDischargeDepth:=12 }) only [go_sem,reduceIte,reduceEqDiff,reduceAdd,reduceMul,reduceSub,reduceLeDiff,reduceLT,Nat.reduceBEq,reduceCtorEq,hlt]
 refine W_for (fun k T H M=>k=0∧M=[]∧getT T 0=.int .i64 n∧getT T 3=.str []∧getT T 4=.str []) 1 ?_ ?_ ?_
 · simp (config:={ maxDischargeDepth:=12 }) only [go_sem,reduceIte,reduceEqDiff,reduceAdd,reduceMul,reduceSub,reduceLeDiff,reduceLT,Nat.reduceBEq,reduceCtorEq]
 · rintro k T H M hk ⟨rfl,rfl,g0,g3,g4⟩
   rcases (by omega:n=0∨n=1∨n=2∨n=3∨n=4∨n=5∨n=6∨n=7∨n=8∨n=9) with rfl | rfl | rfl | rfl | rfl | rfl | rfl | rfl | rfl | rfl
   · have r1:sbin .rem 3 (.int .i64 0) (.int .i64 10)=some (.int .i64 0):=by kernel_rfl
     have r2:sbin .quo 3 (.int .i64 0) (.int .i64 10)=some (.int .i64 0):=by kernel_rfl
     have r3:wrapq .i64 (Int.sub 0 0) = -0:=by kernel_rfl
     have r4:maxI 0 (-0)=0:=by decide
     have r5:wrapq .i64 (Int.add 0 1)=1:=by kernel_rfl
     have r6:aslice NC.P 9 (.str [48,49,50,51,52,53,54,55,56,57]) (some (.int .i64 0)) (some (.int .i64 1)) none=some (.str [48]):=by kernel_rfl
     simp (config:={ maxDischargeDepth:=12 }) only [go_sem,reduceIte,reduceEqDiff,reduceAdd,reduceMul,reduceSub,reduceLeDiff,reduceLT,Nat.reduceBEq,reduceCtorEq,g0,g3,g4,r1,r2,r3,r4,r5,r6]
     rfl
   · have r1:sbin .rem 3 (.int .i64 1) (.int .i64 10)=some (.int .i64 1):=by kernel_rfl
     have r2:sbin .quo 3 (.int .i64 1) (.int .i64 10)=some (.int .i64 0):=by kernel_rfl
     have r3:wrapq .i64 (Int.sub 0 1) = -1:=by kernel_rfl
     have r4:maxI 1 (-1)=1:=by decide
     have r5:wrapq .i64 (Int.add 1 1)=2:=by kernel_rfl
     have r6:aslice NC.P 9 (.str [48,49,50,51,52,53,54,55,56,57]) (some (.int .i64 1)) (some (.int .i64 2)) none=some (.str [49]):=by kernel_rfl
     simp (config:={ maxDischargeDepth:=12 }) only [go_sem,reduceIte,reduceEqDiff,reduceAdd,reduceMul,reduceSub,reduceLeDiff,reduceLT,Nat.reduceBEq,reduceCtorEq,g0,g3,g4,r1,r2,r3,r4,r5,r6]
     rfl
   · have r1:sbin .rem 3 (.int .i64 2) (.int .i64 10)=some (.int .i64 2):=by kernel_rfl
     have r2:sbin .quo 3 (.int .i64 2) (.int .i64 10)=some (.int .i64 0):=by kernel_rfl
     have r3:wrapq .i64 (Int.sub 0 2) = -2:=by kernel_rfl
     have r4:maxI 2 (-2)=2:=by decide
     have r5:wrapq .i64 (Int.add 2 1)=3:=by kernel_rfl
     have r6:aslice NC.P 9 (.str [48,49,50,51,52,53,54,55,56,57]) (some (.int .i64 2)) (some (.int .i64 3)) none=some (.str [50]):=by kernel_rfl
     simp (config:={ maxDischargeDepth:=12 }) only [go_sem,reduceIte,reduceEqDiff,reduceAdd,reduceMul,reduceSub,reduceLeDiff,reduceLT,Nat.reduceBEq,reduceCtorEq,g0,g3,g4,r1,r2,r3,r4,r5,r6]
     rfl
   · have r1:sbin .rem 3 (.int .i64 3) (.int .i64 10)=some (.int .i64 3):=by kernel_rfl
     have r2:sbin .quo 3 (.int .i64 3) (.int .i64 10)=some (.int .i64 0):=by kernel_rfl
     have r3:wrapq .i64 (Int.sub 0 3) = -3:=by kernel_rfl
     have r4:maxI 3 (-3)=3:=by decide
     have r5:wrapq .i64 (Int.add 3 1)=4:=by kernel_rfl
     have r6:aslice NC.P 9 (.str [48,49,50,51,52,53,54,55,56,57]) (some (.int .i64 3)) (some (.int .i64 4)) none=some (.str [51]):=by kernel_rfl
     simp (config:={ maxDischargeDepth:=12 }) only [go_sem,reduceIte,reduceEqDiff,reduceAdd,reduceMul,reduceSub,reduceLeDiff,reduceLT,Nat.reduceBEq,reduceCtorEq,g0,g3,g4,r1,r2,r3,r4,r5,r6]
     rfl
   · have r1:sbin .rem 3 (.int .i64 4) (.int .i64 10)=some (.int .i64 4):=by kernel_rfl
     have r2:sbin .quo 3 (.int .i64 4) (.int .i64 10)=some (.int .i64 0):=by kernel_rfl
     have r3:wrapq .i64 (Int.sub 0 4) = -4:=by kernel_rfl
     have r4:maxI 4 (-4)=4:=by decide
     have r5:wrapq .i64 (Int.add 4 1)=5:=by kernel_rfl
     have r6:aslice NC.P 9 (.str [48,49,50,51,52,53,54,55,56,57]) (some (.int .i64 4)) (some (.int .i64 5)) none=some (.str [52]):=by kernel_rfl
     simp (config:={ maxDischargeDepth:=12 }) only [go_sem,reduceIte,reduceEqDiff,reduceAdd,reduceMul,reduceSub,reduceLeDiff,reduceLT,Nat.reduceBEq,reduceCtorEq,g0,g3,g4,r1,r2,r3,r4,r5,r6]
     rfl
   · have r1:sbin .rem 3 (.int .i64 5) (.int .i64 10)=some (.int .i64 5):=by kernel_rfl
     have r2:sbin .quo 3 (.int .i64 5) (.int .i64 10)=some (.int .i64 0):=by kernel_rfl
     have r3:wrapq .i64 (Int.sub 0 5) = -5:=by kernel_rfl
     have r4:maxI 5 (-5)=5:=by decide
     have r5:wrapq .i64 (Int.add 5 1)=6:=by kernel_rfl
     have r6:aslice NC.P 9 (.str [48,49,50,51,52,53,54,55,56,57]) (some (.int .i64 5)) (some (.int .i64 6)) none=some (.str [53]):=by kernel_rfl
     simp (config:={ maxDischargeDepth:=12 }) only [go_sem,reduceIte,reduceEqDiff,reduceAdd,reduceMul,reduceSub,reduceLeDiff,reduceLT,Nat.reduceBEq,reduceCtorEq,g0,g3,g4,r1,r2,r3,r4,r5,r6]
     rfl
   · have r1:sbin .rem 3 (.int .i64 6) (.int .i64 10)=some (.int .i64 6):=by kernel_rfl
     have r2:sbin .quo 3 (.int .i64 6) (.int .i64 10)=some (.int .i64 0):=by kernel_rfl
     have r3:wrapq .i64 (Int.sub 0 6) = -6:=by kernel_rfl
     have r4:maxI 6 (-6)=6:=by decide
     have r5:wrapq .i64 (Int.add 6 1)=7:=by kernel_rfl
     have r6:aslice NC.P 9 (.str [48,49,50,51,52,53,54,55,56,57]) (some (.int .i64 6)) (some (.int .i64 7)) none=some (.str [54]):=by kernel_rfl
     simp (config:={ maxDischargeDepth:=12 }) only [go_sem,reduceIte,reduceEqDiff,reduceAdd,reduceMul,reduceSub,reduceLeDiff,reduceLT,Nat.reduceBEq,reduceCtorEq,g0,g3,g4,r1,r2,r3,r4,r5,r6]
     rfl
   · have r1:sbin .rem 3 (.int .i64 7) (.int .i64 10)=some (.int .i64 7):=by kernel_rfl
     have r2:sbin .quo 3 (.int .i64 7) (.int .i64 10)=some (.int .i64 0):=by kernel_rfl
     have r3:wrapq .i64 (Int.sub 0 7) = -7:=by kernel_rfl
     have r4:maxI 7 (-7)=7:=by decide
     have r5:wrapq .i64 (Int.add 7 1)=8:=by kernel_rfl
     have r6:aslice NC.P 9 (.str [48,49,50,51,52,53,54,55,56,57]) (some (.int .i64 7)) (some (.int .i64 8)) none=some (.str [55]):=by kernel_rfl
     simp (config:={ maxDischargeDepth:=12 }) only [go_sem,reduceIte,reduceEqDiff,reduceAdd,reduceMul,reduceSub,reduceLeDiff,reduceLT,Nat.reduceBEq,reduceCtorEq,g0,g3,g4,r1,r2,r3,r4,r5,r6]
     rfl
   · have r1:sbin .rem 3 (.int .i64 8) (.int .i64 10)=some (.int .i64 8):=by kernel_rfl
     have r2:sbin .quo 3 (.int .i64 8) (.int .i64 10)=some (.int .i64 0):=by kernel_rfl
     have r3:wrapq .i64 (Int.sub 0 8) = -8:=by kernel_rfl
     have r4:maxI 8 (-8)=8:=by decide
     have r5:wrapq .i64 (Int.add 8 1)=9:=by kernel_rfl
     have r6:aslice NC.P 9 (.str [48,49,50,51,52,53,54,55,56,57]) (some (.int .i64 8)) (some (.int .i64 9)) none=some (.str [56]):=by kernel_rfl
     simp (config:={ maxDischargeDepth:=12 }) only [go_sem,reduceIte,reduceEqDiff,reduceAdd,reduceMul,reduceSub,reduceLeDiff,reduceLT,Nat.reduceBEq,reduceCtorEq,g0,g3,g4,r1,r2,r3,r4,r5,r6]
     rfl
   · have r1:sbin .rem 3 (.int .i64 9) (.int .i64 10)=some (.int .i64 9):=by kernel_rfl
     have r2:sbin .quo 3 (.int .i64 9) (.int .i64 10)=some (.int .i64 0):=by kernel_rfl
     have r3:wrapq .i64 (Int.sub 0 9) = -9:=by kernel_rfl
     have r4:maxI 9 (-9)=9:=by decide
     have r5:wrapq .i64 (Int.add 9 1)=10:=by kernel_rfl
     have r6:aslice NC.P 9 (.str [48,49,50,51,52,53,54,55,56,57]) (some (.int .i64 9)) (some (.int .i64 10)) none=some (.str [57]):=by kernel_rfl
     simp (config:={ maxDischargeDepth:=12 }) only [go_sem,reduceIte,reduceEqDiff,reduceAdd,reduceMul,reduceSub,reduceLeDiff,reduceLT,Nat.reduceBEq,reduceCtorEq,g0,g3,g4,r1,r2,r3,r4,r5,r6]
     rfl
 · rintro T H M ⟨h,_⟩;cases h
noncomputable def p8:List AV→Option AV:=primOf (α:=(Int)) (fun x=>[i64 x]) (fun x=>0≤x∧x≤9) (fun x=>.str [(48+x).toNat])
theorem pok8:∀ args v,p8 args=some v → ∀ lo H,CallOk NC lo 8 args H v H:=by
 intro args v h
 obtain ⟨x,rfl,hp,rfl⟩:=primOf_inv h
 exact c8 x hp
theorem pe8 (n:Int) (hp:0≤n∧n≤9):p8 [.int .i64 n]=some (.str [(48+n).toNat]):=primOf_enc (by intro x y h;(simp only [List.cons.injEq,AV.agg.injEq,AV.str.injEq,AV.int.injEq,AV.ps.injEq,AV.bool.injEq,true_and,and_true] at h;first | simpa only [Prod.ext_iff] using h | simpa only [Prod.ext_iff,and_assoc] using h)) n hp
attribute [go_sem] pe8
theorem sbin_rem {a b:Int} (hb:b ≠ 0):sbin .rem 3 (.int .i64 a) (.int .i64 b)=some (.int .i64 (Int.tmod a b)):=by
 have hu:NC.P.underlying 3=some (.int .i64):=by kernel_rfl
 unfold sbin
 simp (config:={ maxDischargeDepth:=12 }) only [go_sem,reduceIte,reduceEqDiff,reduceAdd,reduceMul,reduceSub,reduceLeDiff,reduceLT,Nat.reduceBEq,reduceCtorEq,hb]
 rfl
theorem sbin_quo {a b:Int} (hb:b ≠ 0) (hw:IntKind.i64.wrap (Int.tdiv a b)=Int.tdiv a b):sbin .quo 3 (.int .i64 a) (.int .i64 b)=some (.int .i64 (Int.tdiv a b)):=by
 unfold sbin
 simp (config:={ maxDischargeDepth:=12 }) only [go_sem,reduceIte,reduceEqDiff,reduceAdd,reduceMul,reduceSub,reduceLeDiff,reduceLT,Nat.reduceBEq,reduceCtorEq,hb]
 rw [hw]
 rfl
def fkRow (x:Nat × Nat):List AV:=[.int .i64 (x.1:Int),.int .i64 ((x.1+1+x.2 % 20:Nat):Int),.int .i64 ((10+x.2 / 2:Nat):Int)]
def byRow (x:Nat × Nat):List AV:=[.int .u8 (x.1:Int),.int .u8 (x.2:Int)]
theorem bys_inj {l m:List (Nat × Nat)}:(l.map byRow=m.map byRow)=(l=m):=propext ⟨map_inj (fun a b h=>by
 obtain ⟨a1,a2⟩:=a
 obtain ⟨b1,b2⟩:=b
 simp only [byRow,List.cons.injEq,AV.int.injEq] at h
 have h1:=h.1.2
 have h2:=h.2.1.2
 simp only [Prod.mk.injEq]
 omega),fun h=>by rw [h]⟩
theorem cv_u8 {n:Nat} (hn:n≤255):aconv NC.P 5 3 (.int .u8 (n:Int))=some (.int .i64 (n:Int)):=by
 have h:aconv NC.P 5 3 (.int .u8 (n:Int))=some (.int .i64 (IntKind.i64.wrap (n:Int))):=by kernel_rfl
 rw [h,inK_wrap (by unfold inK;simp [kmax];omega)]
noncomputable def PPF7:FuncId→Option (List AV→Option AV):=fun _=>none
theorem primsF7:PrimsOk NC PPF7:=primsOk_none
theorem c7 (l:List (Nat × Nat)) (hp:l.length≤maxRows∧(∀ z ∈ l,z.1≤255∧z.2≤255)):∀ lo H,CallOk NC lo 7 [.ps .unk (l.map byRow)] H (.ps .unk (l.map fkRow)) H:=by
 refine contract saneNC primsF7 (fn:=Tryz.f7) (by kernel_rfl) Tryz.func7 rfl rfl (by rfl) (by first | rfl | (split<;>first | rfl | (split<;>rfl))) ?_
 obtain ⟨hl,hz⟩:=hp
 simp (config:={ maxDischargeDepth:=12 }) only [go_sem,reduceIte,reduceEqDiff,reduceAdd,reduceMul,reduceSub,reduceLeDiff,reduceLT,Nat.reduceBEq,reduceCtorEq]
 refine W_for (fun k T H M=>M=[]∧getT T 7=.ps .unk (l.map byRow)∧getT T 8=i64 (l.length:Nat)∧getT T 9=i64 k ∧ ∃ t,getT T 3=.ps t ((l.take k).map fkRow)∧AppB 0 H t ((l.take k).map fkRow) 3 37) l.length ?_ ?_ ?_
 · simp (config:={ maxDischargeDepth:=12 }) only [go_sem,reduceIte,reduceEqDiff,reduceAdd,reduceMul,reduceSub,reduceLeDiff,reduceLT,Nat.reduceBEq,reduceCtorEq];exact ⟨.nil,rfl,.inl ⟨rfl,rfl⟩⟩
 · rintro k T H M hk ⟨rfl,g7,g8,g9,t,g3,hA⟩
   obtain ⟨x,hx⟩:∃ x,l[k]? = some x:=⟨l[k],by simp⟩
   have hr:(l.map byRow)[k]? = some (byRow x):=map_at hx
   have hw:=wrap_succ hk hl
   obtain ⟨z1,z2⟩:=hz x (List.mem_of_getElem? hx)
   obtain ⟨z,hze⟩:∃ z,zeroOf NC.P 72=some z:=⟨_,ze_72⟩
   have hA1:=hA.new (.cells z.cells 72) (.cells (byRow x) 72)
   obtain ⟨t',H',ha,hA',_⟩:=app_b (lo:=0) hA1 (Nat.zero_le _) (Nat.le_refl _) (r:=fkRow x) (by rw [List.length_map,List.length_take];omega) rfl (by decide) (all_mrows (u:=fkRow) (n:=3) (fun _=>rfl) _)
   have e1:(fkRow x).map AV.strip0=fkRow x:=rfl
   have e2:(l.take k).map fkRow++[fkRow x]=(l.take (k+1)).map fkRow:=by rw [List.take_add_one,hx,List.map_append];rfl
   rw [e1,e2] at ha hA'
   rw [ze_72] at hze
   cases hze
   obtain ⟨a,b⟩:=x
   simp only at z1 z2
   have m1:Int.tmod (b:Int) 20=((b % 20:Nat):Int):=rfl
   have m2:Int.tdiv (b:Int) 2=((b / 2:Nat):Int):=rfl
   have r1:sbin .rem 3 (.int .i64 (b:Int)) (.int .i64 20)=some (.int .i64 ((b % 20:Nat):Int)):=by rw [sbin_rem (by decide),m1]
   have r2:sbin .quo 3 (.int .i64 (b:Int)) (.int .i64 2)=some (.int .i64 ((b / 2:Nat):Int)):=by
    rw [sbin_quo (by decide) (by rw [m2];exact inK_wrap (by unfold inK;simp [kmax];omega)),m2]
   have w1:wrapq .i64 (Int.add (a:Int) 1)=((a+1:Nat):Int):=wrap_nat (n:=a+1) (by omega)
   have w2:wrapq .i64 (Int.add ((a+1:Nat):Int) ((b % 20:Nat):Int))=((a+1+b % 20:Nat):Int):=wrap_nat (n:=a+1+b % 20) (by omega)
   have w3:wrapq .i64 (Int.add 10 ((b / 2:Nat):Int))=((10+b / 2:Nat):Int):=wrap_nat (n:=10+b / 2) (by omega)
   have w4:wrapq .i64 (a:Int)=(a:Int):=wrap_nat (n:=a) (by omega)
   have w5:wrapq .i64 (b:Int)=(b:Int):=wrap_nat (n:=b) (by omega)
   simp only [byRow] at hr ha
   simp only [fkRow] at ha
   simp (config:={ maxDischargeDepth:=12 }) only [go_sem,reduceIte,reduceEqDiff,reduceAdd,reduceMul,reduceSub,reduceLeDiff,reduceLT,Nat.reduceBEq,reduceCtorEq] at ha
   have cv1:=cv_u8 z1
   have cv2:=cv_u8 z2
   simp (config:={ maxDischargeDepth:=12 }) only [go_sem,reduceIte,reduceEqDiff,reduceAdd,reduceMul,reduceSub,reduceLeDiff,reduceLT,Nat.reduceBEq,reduceCtorEq,g3,g7,g8,g9,hk,hr,hw,cv1,cv2,appO,r1,r2,w1,w2,w3,w4,w5,ha]
   exact ⟨t',rfl,hA'⟩
 · rintro T H M ⟨rfl,g7,g8,g9,t,g3,hA⟩
   rw [List.take_length] at g3
   simp (config:={ maxDischargeDepth:=12 }) only [go_sem,reduceIte,reduceEqDiff,reduceAdd,reduceMul,reduceSub,reduceLeDiff,reduceLT,Nat.reduceBEq,reduceCtorEq,g3,g7,g8,g9,Nat.lt_irrefl]
noncomputable def p7:List AV→Option AV:=primOf (α:=(List (Nat × Nat))) (fun x=>[.ps .unk (x.map byRow)]) (fun x=>x.length≤maxRows∧(∀ z ∈ x,z.1≤255∧z.2≤255)) (fun x=>.ps .unk (x.map fkRow))
theorem pok7:∀ args v,p7 args=some v → ∀ lo H,CallOk NC lo 7 args H v H:=by
 intro args v h
 obtain ⟨x,rfl,hp,rfl⟩:=primOf_inv h
 exact c7 x hp
theorem pe7 (l:List (Nat × Nat)) (hp:l.length≤maxRows∧(∀ z ∈ l,z.1≤255∧z.2≤255)):p7 [.ps .unk (l.map byRow)]=some (.ps .unk (l.map fkRow)):=primOf_enc (by intro x y h;(simp only [List.cons.injEq,AV.agg.injEq,AV.str.injEq,AV.int.injEq,AV.ps.injEq,AV.bool.injEq,bys_inj,true_and,and_true] at h;first | simpa only [Prod.ext_iff] using h | simpa only [Prod.ext_iff,and_assoc] using h)) l hp
attribute [go_sem] pe7
end Go.Sim

namespace Go.Sim
open Go Go.Proofs
set_option maxRecDepth 100000
set_option maxHeartbeats 4000000
section
variable {P:FuncId→Option (List AV→Option AV)} {rec:Rec} {fid lo:Nat} {T:TT AV} {H:Heap} {K:AV→Heap→Prop} {d:Option Tmp} {t:TypeId} {p:String} {af:Array Edge} {gd:Option (Nat × Bool)}
theorem op_andS (t':TypeId) (x y:Operand) (u:TypeId):VO (aop (NC.withPrims P) rec fid lo ⟨d,.binOp .and t' x y u,t,p,af,gd⟩ T H) K=AO (evalO (NC.withPrims P) T x) fun x=>AO (evalO (NC.withPrims P) T y) fun y=>AO (sbin .and t' x y) fun v=>K v H:=op_bin .and t' x y u
theorem op_shrS (t':TypeId) (x y:Operand) (u:TypeId):VO (aop (NC.withPrims P) rec fid lo ⟨d,.binOp .shr t' x y u,t,p,af,gd⟩ T H) K=AO (evalO (NC.withPrims P) T x) fun x=>AO (evalO (NC.withPrims P) T y) fun y=>AO (sbin .shr t' x y) fun v=>K v H:=op_bin .shr t' x y u
end
attribute [go_sem ↓ 2000] op_andS op_shrS
end Go.Sim

namespace Go.Sim.Pos
open Go.Sim
def kUp:Nm:=[117,112]
def nf (i:Nat):Nm:=102::itoaL ((i:Int)+1)
theorem nf_inj {i j:Nat} (hi:i < 1000) (hj:j < 1000) (h:nf i=nf j):i=j:=by
 have h:=(List.cons.inj h).2
 have e1:=intF_itoa (n:=(i:Int)+1) (by omega) (by omega)
 have e2:=intF_itoa (n:=(j:Int)+1) (by omega) (by omega)
 rw [h,e2] at e1
 have:=congrArg Prod.fst e1
 simp only at this
 omega
abbrev FF:Type:=Int × Int × Int
def flts (a:Nat):Nat→List FF→List Flt
 | _,[]=>[]
 | i,x::r=>⟨nf i,kUp,x.1,x.2.1,x.2.2,decide (i < a),false⟩::flts a (i+1) r
theorem flts_len (a:Nat):∀ (l:List FF) (i:Nat),(flts a i l).length=l.length
 | [],_=>rfl
 | x::r,i=>by
   show (flts a (i+1) r).length+1=_
   rw [flts_len a r];rfl
theorem flts_snoc (a:Nat) (x:FF):∀ (l:List FF) (i:Nat),flts a i (l++[x])=flts a i l++[⟨nf (i+l.length),kUp,x.1,x.2.1,x.2.2,decide (i+l.length < a),false⟩]
 | [],i=>rfl
 | y::r,i=>by
   show _::flts a (i+1) (r++[x])=_
   rw [flts_snoc a x r (i+1)]
   have:i+1+r.length=i+(y::r).length:=by rw [List.length_cons];omega
   rw [this];rfl
theorem flts_none {a i:Nat} {l:List FF} {k:Nat} (h:i+l.length≤1000) (hk:k < i∨(i+l.length≤k∧k < 1000)):((flts a i l).find? fun y=>decide (y.name=nf k))=none:=by
 induction l generalizing i with
 | nil=>rfl
 | cons x r ih =>
   rw [List.length_cons] at h hk
   show ((_::flts a (i+1) r).find? _)=none
   rw [List.find?_cons]
   have hne:¬ nf i=nf k:=fun he=>by
    have:=nf_inj (by omega) (by omega) he
    omega
   simp only [hne,decide_false]
   exact ih (by omega) (by omega)
theorem flts_find {a:Nat}:∀ {l:List FF} {i k:Nat} {x:FF},i+l.length≤1000→l[k]? = some x→((flts a i l).find? fun y=>decide (y.name=nf (i+k)))=some ⟨nf (i+k),kUp,x.1,x.2.1,x.2.2,decide (i+k < a),false⟩
 | [],i,k,x,_,h=>by simp at h
 | y::r,i,0,x,h,hx=>by
   have hx:y=x:=by simpa using hx
   subst hx
   show ((_::flts a (i+1) r).find? _)=_
   rw [List.find?_cons]
   simp
 | y::r,i,k+1,x,h,hx=>by
   rw [List.length_cons] at h
   have hx:r[k]? = some x:=by simpa using hx
   have hk:k < r.length:=(List.getElem?_eq_some_iff.1 hx).1
   show ((_::flts a (i+1) r).find? _)=_
   rw [List.find?_cons]
   have hne:¬ nf i=nf (i+(k+1)):=fun he=>by
    have:=nf_inj (by omega) (by omega) he
    omega
   simp only [hne,decide_false]
   have ih:=flts_find (a:=a) (l:=r) (i:=i+1) (k:=k) (by omega) hx
   have e:i+1+k=i+(k+1):=by omega
   rw [e] at ih
   exact ih
theorem flts_answer {l:List FF} {a:Nat}:∀ {i:Nat},i+l.length≤1000→a < 1000→updF (flts a i l) (nf a) (fun x=>{ x with ans:=true })=flts (a+1) i l:=by
 induction l with
 | nil=>intro i _ _;rfl
 | cons x r ih =>
   intro i h ha
   rw [List.length_cons] at h
   have ih:=ih (i:=i+1) (by omega) ha
   show (if nf i=nf a then _ else _)::updF (flts a (i+1) r) (nf a) _=_
   rw [ih]
   by_cases hi:i=a
   · subst hi
     rw [if_pos rfl]
     show (⟨nf i,kUp,x.1,x.2.1,x.2.2,true,false⟩:Flt)::_=⟨nf i,kUp,x.1,x.2.1,x.2.2,decide (i < i+1),false⟩::_
     simp
   · rw [if_neg (fun he=>hi (nf_inj (by omega) ha he))]
     show (⟨nf i,kUp,x.1,x.2.1,x.2.2,decide (i < a),false⟩:Flt)::_=⟨nf i,kUp,x.1,x.2.1,x.2.2,decide (i < a+1),false⟩::_
     have:decide (i < a)=decide (i < a+1):=by
      rw [decide_eq_decide];omega
     rw [this]
def regF (tk:Int) (a:Nat) (l:List FF):Reg:=⟨tk,[⟨kUp,400⟩],flts a 0 l,[],[],[]⟩
theorem regF_track {tk:Int} {a:Nat} {l:List FF}:(regF tk a l).track? kUp=some ⟨kUp,400⟩:=rfl
def okFF (x:FF):Prop:=x.1 < x.2.1∧x.2.1≤100000000∧0≤x.2.2∧x.2.2≤400
theorem regF_answer {tk tk':Int} {a:Nat} {l:List FF} (ht:tk≤tk') (ha:a < l.length) (hl:l.length≤64):okA (regF tk a l) tk' (.answer (nf a))=0∧doA (regF tk a l) tk' (.answer (nf a))=regF tk' (a+1) l:=by
 constructor
 · unfold okA
   rw [if_neg (by show ¬ tk' < tk;omega)]
   have hf:=flts_find (a:=a) (l:=l) (i:=0) (k:=a) (by omega) (List.getElem?_eq_getElem ha)
   rw [Nat.zero_add] at hf
   have hf:(regF tk a l).fault? (nf a)=_:=hf
   simp only [hf]
   simp
 · show (⟨tk',[⟨kUp,400⟩],updF (flts a 0 l) (nf a) _,[],[],[]⟩:Reg)=⟨tk',[⟨kUp,400⟩],flts (a+1) 0 l,[],[],[]⟩
   rw [flts_answer (by omega) (by omega)]
end Go.Sim.Pos

namespace Go.Sim
open Go Go.Proofs
open Go.Sim.Pos (Nm Reg Ev Rst Msg Pst Rnd Off FF nf kUp flts regF)
set_option maxRecDepth 100000
set_option maxHeartbeats 4000000
theorem nf_small:∀ i:Nat,i < 9→nf i=[102,49+i]:=by decide +kernel
theorem nf_name:∀ i:Nat,i < 9→nameB (nf i)=true:=by decide +kernel
abbrev repF (L:List Ev):Pos.Jn × Nat × Int:=Pos.repJ nameB Pos.zJn 0 L
def mkE (L:List Ev) (k:Nm) (vs:List Int) (ns:List Nm):Ev:=⟨(L.length:Int)+1,k,ns,vs,[]⟩
theorem acc_act {L:List Ev} (hr:(repF L).2.2=0) (hl:L.length < 1000) {k:Nm} {vs:List Int} {ns:List Nm} {a b:Nat} {tk:Int} {act:Pos.Act} (hf:Pos.formE k=some (a,b)) (hk:k ≠ Pos.kUndo) (h1:ns.length=a) (h2:vs.length=b) (h3:ns.all nameB=true) (h4:vs.any (fun v=>decide (v < 0) || decide (999999999 < v))=false)
 (ha:Pos.actE (mkE L k vs ns)=some (tk,act)):acceptsL L (mkE L k vs ns)=Pos.okA (repF L).1.reg tk act∧(Pos.okA (repF L).1.reg tk act=0→(repF (L++[mkE L k vs ns])).2.2=0∧(repF (L++[mkE L k vs ns])).1.reg=Pos.doA (repF L).1.reg tk act):=by
 have hc:Pos.chkE nameB (mkE L k vs ns)=0:=by
  unfold Pos.chkE
  have hn:¬ ((mkE L k vs ns).num < 1∨1000 < (mkE L k vs ns).num):=by
   show ¬ ((L.length:Int)+1 < 1∨1000 < (L.length:Int)+1)
   omega
  rw [if_neg hn]
  have hf':Pos.formE (mkE L k vs ns).kind=some (a,b):=hf
  simp only [hf']
  have hl':¬ ((mkE L k vs ns).names.length ≠ a∨(mkE L k vs ns).vals.length ≠ b):=by
   show ¬ (ns.length ≠ a∨vs.length ≠ b)
   omega
  have e3:(mkE L k vs ns).names.all nameB=true:=h3
  have e4:(mkE L k vs ns).vals.any (fun v=>decide (v < 0) || decide (999999999 < v))=false:=h4
  rw [if_neg hl',e3,if_neg (by simp),e4,if_neg (by simp)]
  rfl
 have hacc:Pos.accJ (repF L).1 L.length (mkE L k vs ns)=Pos.okA (repF L).1.reg tk act:=by
  unfold Pos.accJ
  have hn:¬ ((mkE L k vs ns).num ≠ (L.length:Int)+1):=fun h=>h rfl
  have hk':¬ ((mkE L k vs ns).kind=Pos.kUndo):=hk
  rw [if_neg hn,if_neg hk',ha]
 have hw:whenI (decide (1000≤L.length)) 5=0:=by
  rw [decide_eq_false (by omega)];rfl
 constructor
 · unfold acceptsL
   have h0:firstI [(repF L).2.2,Pos.chkE nameB (mkE L k vs ns),whenI (decide (1000≤L.length)) 5]=0:=by rw [hr,hc,hw];rfl
   rw [if_neg (fun h=>h h0)]
   exact hacc
 · intro h0
   have e:=Pos.rep_app nameB L [mkE L k vs ns] Pos.zJn 0 hr
   rw [Nat.zero_add] at e
   have e2:Pos.repJ nameB (repF L).1 L.length [mkE L k vs ns]=(Pos.addJ (repF L).1 (mkE L k vs ns),0,0):=by
    rw [rep_cons]
    have hwr:Pos.wrongJ nameB (repF L).1 L.length (mkE L k vs ns)=0:=by
     unfold Pos.wrongJ
     rw [if_neg (fun h=>h hc),hacc,h0]
    rw [if_neg (fun h=>h hwr)]
    rfl
   have e3:repF (L++[mkE L k vs ns])=(Pos.addJ (repF L).1 (mkE L k vs ns),0,0):=e.trans e2
   rw [e3]
   refine ⟨rfl, ?_⟩
   unfold Pos.addJ
   have hk':¬ ((mkE L k vs ns).kind=Pos.kUndo):=hk
   rw [if_neg hk']
   show Pos.doE (repF L).1.reg (mkE L k vs ns)=_
   unfold Pos.doE
   rw [ha]
structure JF (L:List Ev) (n:Nat) (tk:Int) (a:Nat) (fs:List FF):Prop where
 rep:(repF L).2.2=0
 reg:(repF L).1.reg=regF tk a fs
 small:∀ z ∈ L,EvS z
 len:L.length≤n
theorem evs_one {L:List Ev} (h:∀ z ∈ L,EvS z) (k:Nm) {vs:List Int} {ns:List Nm} (hv:vs.length≤maxRows) (hn:ns.length≤maxRows):∀ z ∈ L++[mkE L k vs ns],EvS z:=by
 intro z hz
 rcases List.mem_append.1 hz with hz | hz
 · exact h z hz
 · have:z=mkE L k vs ns:=by simpa using hz
   subst this
   exact ⟨hn,hv⟩
def goodFF (x:FF):Prop:=0≤x.1∧x.1 < x.2.1∧x.2.1≤100000000∧10≤x.2.2∧x.2.2≤400
theorem j_track:acceptsL [] (mkE [] Pos.kTrack [0,400] [kUp])=0∧JF ([]++[mkE [] Pos.kTrack [0,400] [kUp]]) 1 0 0 []:=by
 obtain ⟨h1,h2⟩:=acc_act (L:=[]) (k:=Pos.kTrack) (vs:=[0,400]) (ns:=[kUp]) (tk:=0) (act:=.track kUp 400) rfl (by decide) (by decide) (by decide) rfl rfl (by decide) (by decide) rfl
 have h0:Pos.okA (repF []).1.reg 0 (.track kUp 400)=0:=by decide
 rw [h0] at h1
 obtain ⟨h3,h4⟩:=h2 h0
 exact ⟨h1,h3,h4,evs_one (by simp) _ (by decide) (by decide),by decide⟩
def kT:Nm:=[116]
def leastF (fs:List FF):Int:=(fs.map fun x=>x.2.2).foldl Pos.minI 400
theorem least_snoc (fs:List FF) (x:FF):leastF (fs++[x])=minI (leastF fs) x.2.2:=by
 unfold leastF
 rw [List.map_append,List.foldl_append]
 rfl
theorem foldl_min_le:∀ (l:List Int) (a:Int),l.foldl Pos.minI a≤a ∧ ∀ x ∈ l,l.foldl Pos.minI a≤x
 | [],a=>⟨Int.le_refl _,fun x h=>by cases h⟩
 | y::r,a=>by
   obtain ⟨h1,h2⟩:=foldl_min_le r (Pos.minI a y)
   have h3:Pos.minI a y≤a∧Pos.minI a y≤y:=by unfold Pos.minI;split<;>omega
   rw [List.foldl_cons]
   refine ⟨by omega,fun x hx => ?_⟩
   rcases List.mem_cons.1 hx with rfl | hx
   · omega
   · exact h2 x hx
theorem least_in {fs:List FF} (hg:∀ x ∈ fs,goodFF x):10≤leastF fs∧leastF fs≤400:=by
 refine ⟨Pos.foldl_min_ge _ _ (by decide) fun v hv => ?_,(foldl_min_le _ _).1⟩
 obtain ⟨x,hx,rfl⟩:=List.mem_map.1 hv
 exact (hg x hx).2.2.2.1
def msgsF:Nat→List FF→List Msg
 | _,[]=>[]
 | i,x::r=>⟨(i:Int)+1,false,⟨nf i,x.1,x.2.1,x.2.2⟩⟩::msgsF (i+1) r
def rstsF:Nat→List FF→List Rst
 | _,[]=>[]
 | i,x::r=>⟨nf i,x.1,x.2.1,x.2.2⟩::rstsF (i+1) r
theorem msgsF_len:∀ (l:List FF) (i:Nat),(msgsF i l).length=l.length
 | [],_=>rfl
 | x::r,i=>by
   show (msgsF (i+1) r).length+1=_
   rw [msgsF_len r];rfl
theorem rstsF_len:∀ (l:List FF) (i:Nat),(rstsF i l).length=l.length
 | [],_=>rfl
 | x::r,i=>by
   show (rstsF (i+1) r).length+1=_
   rw [rstsF_len r];rfl
theorem msgsF_snoc (x:FF):∀ (l:List FF) (i:Nat),msgsF i (l++[x])=msgsF i l++[⟨((i+l.length:Nat):Int)+1,false,⟨nf (i+l.length),x.1,x.2.1,x.2.2⟩⟩]
 | [],i=>rfl
 | y::r,i=>by
   show _::msgsF (i+1) (r++[x])=_
   rw [msgsF_snoc x r (i+1)]
   have:i+1+r.length=i+(y::r).length:=by rw [List.length_cons];omega
   rw [this];rfl
theorem msgsF_take:∀ (l:List FF) (i k:Nat),(msgsF i l).take k=msgsF i (l.take k)
 | [],_,k=>by simp [msgsF]
 | x::r,i,0=>rfl
 | x::r,i,k+1=>by
   show _::(msgsF (i+1) r).take k=_
   rw [msgsF_take r];rfl
theorem rstsF_at:∀ (l:List FF) (i k:Nat) (x:FF),l[k]? = some x→(rstsF i l)[k]? = some ⟨nf (i+k),x.1,x.2.1,x.2.2⟩
 | [],_,k,x,h=>by simp at h
 | y::r,i,0,x,h=>by
   have h:y=x:=by simpa using h
   subst h;rfl
 | y::r,i,k+1,x,h=>by
   have h:r[k]? = some x:=by simpa using h
   have:=rstsF_at r (i+1) k x h
   show (rstsF (i+1) r)[k]? = _
   rw [this]
   have e:i+1+k=i+(k+1):=by omega
   rw [e]
theorem nf_ne {i k:Nat} (h:i < k) (hk:k < 9):nf i ≠ nf k:=fun e=>by
 have:=Pos.nf_inj (by omega) (by omega) e
 omega
theorem hasR_snoc (f:List Rst) (r:Rst) (s:Nm):Pos.hasR (f++[r]) s=(Pos.hasR f s || decide (r.name=s)):=by
 unfold Pos.hasR
 rw [List.any_append]
 simp
theorem after_go:∀ (l:List FF) (i:Nat) (f:List Rst),i+l.length≤9→f.length=i→(∀ k,i≤k→k < 9→Pos.hasR f (nf k)=false)→(msgsF i l).foldl (fun f m=>(Pos.applied f m).1) f=f++rstsF i l ∧ ∀ k,i+l.length≤k→k < 9→Pos.hasR (f++rstsF i l) (nf k)=false
 | [],i,f,_,_,hf=>⟨by simp [msgsF,rstsF],by simpa [rstsF] using hf⟩
 | x::r,i,f,hl,hn,hf=>by
   rw [List.length_cons] at hl
   have hh:=hf i (Nat.le_refl _) (by omega)
   have ha:Pos.applied f ⟨(i:Int)+1,false,⟨nf i,x.1,x.2.1,x.2.2⟩⟩=(f++[⟨nf i,x.1,x.2.1,x.2.2⟩],true):=by
    unfold Pos.applied
    simp only [hh]
    rw [if_neg (by simp;omega),if_pos True.intro]
   obtain ⟨h1,h2⟩:=after_go r (i+1) (f++[⟨nf i,x.1,x.2.1,x.2.2⟩]) (by omega) (by simp [hn]) (fun k h1 h2=>by
    rw [hasR_snoc,hf k (by omega) h2]
    simp only [Bool.false_or,decide_eq_false_iff_not]
    exact nf_ne (by omega) h2)
   have e:msgsF i (x::r)=⟨(i:Int)+1,false,⟨nf i,x.1,x.2.1,x.2.2⟩⟩::msgsF (i+1) r:=rfl
   have e2:rstsF i (x::r)=⟨nf i,x.1,x.2.1,x.2.2⟩::rstsF (i+1) r:=rfl
   rw [e,e2,List.foldl_cons,ha]
   simp only [List.append_assoc,List.cons_append,List.nil_append] at h1 h2
   exact ⟨h1,fun k hk=>h2 k (by rw [List.length_cons] at hk;omega)⟩
theorem after_F {l:List FF} (hl:l.length≤9):Pos.afterF (msgsF 0 l)=rstsF 0 l:=(after_go l 0 [] (by omega) rfl (fun _ _ _=>rfl)).1
theorem has_F {l:List FF} (hl:l.length < 9):Pos.hasR (rstsF 0 l) (nf l.length)=false:=by
 have:=(after_go l 0 [] (by omega) rfl (fun _ _ _=>rfl)).2 l.length (by omega) hl
 simpa using this
theorem rst_ok {i:Nat} (hi:i < 9) {x:FF} (hx:goodFF x):rstE ⟨nf i,x.1,x.2.1,x.2.2⟩=0:=by
 obtain ⟨x1,x2,x3,x4,x5⟩:=hx
 unfold rstE
 have h1:nmErr (nf i)=0:=by unfold nmErr;rw [nf_name i hi];rfl
 have h2:fullI x.1 x.2.1=0:=by
  unfold fullI
  have a:decide (x.1 < 0)=false:=decide_eq_false (by omega)
  have b:decide (x.1 < x.2.1)=true:=decide_eq_true x2
  have c:decide (100000000 < x.2.1)=false:=decide_eq_false (by omega)
  rw [a,b,c];rfl
 have h3:withinI x.2.2 0 500=0:=by
  unfold withinI
  have a:decide (x.2.2 < 0)=false:=decide_eq_false (by omega)
  have b:decide (500 < x.2.2)=false:=decide_eq_false (by omega)
  simp only [a,b];rfl
 rw [h1,h2,h3];rfl
theorem offGo_F:∀ (l:List FF) (i:Nat) (f:List Rst),i+l.length≤9→f.length=i→(∀ x ∈ l,goodFF x)→(∀ k,i≤k→k < 9→Pos.hasR f (nf k)=false)→offGo f i (msgsF i l)=0
 | [],_,_,_,_,_,_=>rfl
 | x::r,i,f,hl,hn,hg,hf=>by
   rw [List.length_cons] at hl
   have hh:=hf i (Nat.le_refl _) (by omega)
   have e:msgsF i (x::r)=⟨(i:Int)+1,false,⟨nf i,x.1,x.2.1,x.2.2⟩⟩::msgsF (i+1) r:=rfl
   rw [e,offGo_cons]
   have hr:=rst_ok (i:=i) (by omega) (hg x (by simp))
   have hm:msgE ⟨(i:Int)+1,false,⟨nf i,x.1,x.2.1,x.2.2⟩⟩=0:=by
    unfold msgE
    have hw:withinI ((i:Int)+1) 1 64=0:=by
     unfold withinI
     have a:decide ((i:Int)+1 < 1)=false:=decide_eq_false (by omega)
     have b:decide (64 < (i:Int)+1)=false:=decide_eq_false (by omega)
     simp only [a,b];rfl
    simp only [hw]
    rw [if_neg (by simp),if_pos True.intro]
    exact hr
   have ha:Pos.applied f ⟨(i:Int)+1,false,⟨nf i,x.1,x.2.1,x.2.2⟩⟩=(f++[⟨nf i,x.1,x.2.1,x.2.2⟩],true):=by
    unfold Pos.applied
    simp only [hh]
    rw [if_neg (by simp;omega),if_pos True.intro]
   rw [hm]
   simp only [hh,ne_eq,not_true_eq_false,decide_false,Bool.not_false,Bool.and_false,Bool.false_and,whenI,firstI,if_true,if_false,Bool.false_eq_true,ha]
   exact offGo_F r (i+1) _ (by omega) (by simp [hn]) (fun z hz=>hg z (by simp [hz])) (fun k h1 h2=>by
    rw [hasR_snoc,hf k (by omega) h2]
    simp only [Bool.false_or,decide_eq_false_iff_not]
    exact nf_ne (by omega) h2)
theorem office_F {l:List FF} (hl:l.length≤9) (hg:∀ x ∈ l,goodFF x) {a:Nat} (ha:a≤l.length):officeE (msgsF 0 l) (a:Int)=0:=by
 unfold officeE
 have h:=offGo_F l 0 [] (by omega) rfl hg (fun _ _ _=>rfl)
 rw [msgsF_len,if_neg (by omega),if_neg (fun hh=>hh h)]
 unfold withinI
 have d1:decide ((a:Int) < 0)=false:=decide_eq_false (by omega)
 have d2:decide ((l.length:Int) < (a:Int))=false:=decide_eq_false (by omega)
 simp only [d1,d2];rfl
theorem imp_F {l:List FF} (hl:l.length < 9) (hg:∀ x ∈ l,goodFF x) {x:FF} (hx:goodFF x):impV (msgsF 0 l) 0 ⟨nf l.length,x.1,x.2.1,x.2.2⟩=.tup [.agg [.ps .unk ((msgsF 0 (l++[x])).map Pos.Msg.row),.int .i64 0],.int .i64 0]:=by
 unfold impV
 have h1:=office_F (a:=0) (by omega) hg (Nat.zero_le _)
 have h1:officeE (msgsF 0 l) 0=0:=h1
 rw [h1,rst_ok hl hx,if_neg (by simp [firstI])]
 rw [after_F (by omega),has_F hl,if_neg (by simp)]
 unfold withV
 rw [msgsF_len,if_neg (by omega),msgsF_snoc]
 simp
theorem pstGo_F:∀ (l:List FF) (i:Nat) (seen:List Nm),i+l.length≤9→(∀ x ∈ l,goodFF x)→(∀ k,i≤k→k < 9→nf k ∉ seen)→pstGo seen (rstsF i l)=0
 | [],_,_,_,_,_=>rfl
 | x::r,i,seen,hl,hg,hs=>by
   rw [List.length_cons] at hl
   have e:rstsF i (x::r)=⟨nf i,x.1,x.2.1,x.2.2⟩::rstsF (i+1) r:=rfl
   rw [e,pstGo_cons,rst_ok (by omega) (hg x (by simp))]
   have hn:decide (nf i ∈ seen)=false:=decide_eq_false (hs i (Nat.le_refl _) (by omega))
   simp only [hn,whenI,firstI,if_true,if_false,Bool.false_eq_true,ne_eq,not_true_eq_false]
   exact pstGo_F r (i+1) _ (by omega) (fun z hz=>hg z (by simp [hz])) (fun k h1 h2 hm=>by
    rcases List.mem_append.1 hm with hm | hm
    · exact hs k (by omega) h2 hm
    · have:nf k=nf i:=by simpa using hm
      exact nf_ne (by omega) h2 this.symm)
theorem post_F {l:List FF} (hl:l.length≤9) (hg:∀ x ∈ l,goodFF x):postE (l.length:Int) (rstsF 0 l)=0:=by
 unfold postE
 have hw:withinI (l.length:Int) 0 64=0:=by
  unfold withinI
  have a:decide ((l.length:Int) < 0)=false:=decide_eq_false (by omega)
  have b:decide (64 < (l.length:Int))=false:=decide_eq_false (by omega)
  simp only [a,b];rfl
 have h64:decide (64 < (rstsF 0 l).length)=false:=decide_eq_false (by rw [rstsF_len];omega)
 rw [hw,h64]
 exact pstGo_F l 0 [] (by omega) hg (fun _ _ _ h=>by cases h)
theorem alF_le (x:Int):∀ (f:List Rst) (s:Int),f.foldl (fun s r=>if (decide (r.frm≤x) && decide (x < r.to))=true then minI s r.speed else s) s≤s ∧ ∀ r ∈ f,r.frm≤x→x < r.to→f.foldl (fun s r=>if (decide (r.frm≤x) && decide (x < r.to))=true then minI s r.speed else s) s≤r.speed
 | [],s=>⟨Int.le_refl _,fun r h=>by cases h⟩
 | y::f,s=>by
   rw [List.foldl_cons]
   obtain ⟨h1,h2⟩:=alF_le x f (if (decide (y.frm≤x) && decide (x < y.to))=true then minI s y.speed else s)
   have hm:minI s y.speed≤s∧minI s y.speed≤y.speed:=by unfold minI;split<;>omega
   refine ⟨?_,fun r hr a b => ?_⟩
   · refine Int.le_trans h1 ?_
     split
     · exact hm.1
     · exact Int.le_refl _
   · rcases List.mem_cons.1 hr with rfl | hr
     · refine Int.le_trans h1 ?_
       rw [if_pos (by simp [a,b])]
       exact hm.2
     · exact h2 r hr a b
theorem offok_F {l:List FF} (hl:l.length≤9) (hg:∀ x ∈ l,goodFF x):Pos.OffOk (msgsF 0 l):=offok_of (office_F (a:=0) hl hg (Nat.zero_le _))
theorem heard_F {l : List FF} (hl : l.length ≤ 9) {a h : Nat} (h1 : a ≤ h) (h2 : h ≤ l.length) : Pos.Heard ⟨msgsF 0 l, a⟩ ⟨h, rstsF 0 (l.take h)⟩ := by
 refine ⟨by rw [msgsF_len]; exact h2, h1, ?_⟩
 show rstsF 0 (l.take h) = Pos.afterF ((msgsF 0 l).take h)
 rw [msgsF_take, after_F (by rw [List.length_take]; omega)]
theorem exch_F {l : List FF} (hl : l.length ≤ 9) (hg : ∀ x ∈ l, goodFF x) {a h : Nat} (h1 : a ≤ h) (h2 : h ≤ l.length) {rs : List Rnd} (hr : roundsE rs = 0) :
 ∃ a' h', a' ≤ h' ∧ h' ≤ l.length ∧ exV (msgsF 0 l) (a : Int) (h : Int) (rstsF 0 (l.take h)) rs = .tup [.agg [.ps .unk ((msgsF 0 l).map Pos.Msg.row), .int .i64 (a' : Int)], .agg [.int .i64 (h' : Int), .ps .unk ((rstsF 0 (l.take h')).map Pos.Rst.row)], .int .i64 0] ∧ (rs = [⟨[], false⟩] → a' = l.length ∧ h' = l.length) := by
 have O := offok_F hl hg
 have H := heard_F hl h1 h2
 obtain ⟨e1, e2, _⟩ := Pos.exch_ok rs O H
 have hlt : (l.take h).length = h := by rw [List.length_take]; omega
 have hp := post_F (l := l.take h) (by omega) (fun z hz => hg z (List.mem_of_mem_take hz))
 rw [hlt] at hp
 have ho := office_F hl hg (a := a) (by omega)
 have hf : Pos.afterF ((msgsF 0 l).take h) = rstsF 0 (l.take h) := H.force.symm
 have hw : rs = [⟨[], false⟩] → (Pos.exchF ⟨msgsF 0 l, a⟩ ⟨h, rstsF 0 (l.take h)⟩ rs) = (⟨msgsF 0 l, (msgsF 0 l).length⟩, ⟨(msgsF 0 l).length, Pos.afterF (msgsF 0 l)⟩) := fun e => by
  rw [e]; exact Pos.exch_whole O H
 have hx : exV (msgsF 0 l) (a : Int) (h : Int) (rstsF 0 (l.take h)) rs = .tup [.agg [.ps .unk ((msgsF 0 l).map Pos.Msg.row), .int .i64 ((Pos.exchF ⟨msgsF 0 l, a⟩ ⟨h, rstsF 0 (l.take h)⟩ rs).1.acked : Int)], pstV (Pos.exchF ⟨msgsF 0 l, a⟩ ⟨h, rstsF 0 (l.take h)⟩ rs).2, .int .i64 0] := by
  unfold exV
  rw [ho, hp, hr, if_neg (by simp [firstI]), if_neg ?_]
  · rfl
  · rw [msgsF_len]
    rintro (c | c | c)
    · omega
    · omega
    · exact c hf
 rw [hx]
 generalize Pos.exchF ⟨msgsF 0 l, a⟩ ⟨h, rstsF 0 (l.take h)⟩ rs = q at e1 e2 hw
 obtain ⟨⟨ms, a'⟩, ⟨h', f'⟩⟩ := q
 obtain ⟨q1, q2, q3⟩ := e1
 simp only at q1 q2 q3 e2
 subst e2
 rw [msgsF_len] at q1
 have q3 : f' = Pos.afterF ((msgsF 0 l).take h') := q3
 rw [msgsF_take, after_F (by rw [List.length_take]; omega)] at q3
 subst q3
 refine ⟨a', h', q2, q1, rfl, fun e => ?_⟩
 have := hw e
 rw [msgsF_len] at this
 simp only [Prod.mk.injEq, Off.mk.injEq, Pst.mk.injEq] at this
 exact ⟨this.1.2, this.2.1⟩
theorem en6 {P:FuncId→Option (List AV→Option AV)} (hP:P 6=none) {lo:Nat} {args:List AV} {H:Heap} {K:AV→Heap→Prop}:VO (aenter (NC.withPrims P) (R (NC.withPrims P)) lo 6 args H) K=AO (R (NC.withPrims P) (.call lo 6 args H)) fun o=>K o.val o.s.H:=by
 refine enter_free rfl ?_ (by kernel_rfl) (by kernel_rfl) (by kernel_rfl)
 show (match NC.prim 6 with | some p=>some p | none=>P 6)=none
 rw [hP];kernel_rfl
def EvB (H:Heap) (b:Nat) (L:List Ev):Prop:=b < H.n ∧ ∃ t,H.get b=.cells [.ps t (L.map Pos.Ev.row)] 25∧AppB 0 H t (L.map Pos.Ev.row) 5 70
theorem EvB.keep {H H':Heap} {b:Nat} {L:List Ev} (E:EvB H b L) (hn:H.n≤H'.n) (h:∀ i,i < H.n→H'.get i=H.get i∨(i ≠ b ∧ ∃ c u,H.get i=.cells c u)):EvB H' b L:=by
 obtain ⟨hb,t,hg,hA⟩:=E
 refine ⟨by omega,t, ?_, ?_⟩
 · rcases h b hb with h | h
   · rw [h,hg]
   · exact absurd rfl h.1
 · rcases hA with h1 | ⟨j,h1,h2,h3,h4,h5⟩
   · exact .inl h1
   · refine .inr ⟨j,h1,h2,h3,by omega, ?_⟩
     rcases h j h4 with h | ⟨_,c,u,h⟩
     · rw [h,h5]
     · rw [h5] at h;cases h
theorem EvB.push {H:Heap} {b:Nat} {L:List Ev} (E:EvB H b L) (x:ABlk):EvB (H.push x) b L:=E.keep (by simp) fun i hi=>.inl (by rw [Heap.get_push,if_neg (by omega)])
theorem EvB.setN {H:Heap} {b:Nat} {L:List Ev} (E:EvB H b L) {i:Nat} {c:List AV} {u:TypeId} (hi:i ≠ b) (hg:H.get i=.cells c u) (x:ABlk):EvB (H.set i x) b L:=E.keep (by simp) fun j hj=>by
 by_cases e:j=i
 · subst e
   exact .inr ⟨hi,c,u,hg⟩
 · exact .inl (by rw [Heap.get_set,if_neg e])
theorem EvB.get {H:Heap} {b:Nat} {L:List Ev} (E:EvB H b L):∃ t,H.get b=.cells [.ps t (L.map Pos.Ev.row)] 25∧(∀ n,H.n≤n→(AV.ps t (L.map Pos.Ev.row)).under n=true):=by
 obtain ⟨hb,t,hg,hA⟩:=E
 refine ⟨t,hg,fun n hn => ?_⟩
 rcases hA with ⟨rfl,h⟩ | ⟨j,rfl,h2,h3,h4,h5⟩
 · rfl
 · simp only [AV.under,Nat.blt_eq];omega
end Go.Sim

namespace Go.Sim
open Go Go.Proofs
open Go.Sim.Pos (Nm Trk Flt Trn Pos Mch Reg Ev Rst Msg Pst Rnd Len flat_len flat_take flat_drop flat_at)
set_option maxRecDepth 100000
set_option maxHeartbeats 4000000
theorem app_one {lo:Nat} {H:Heap} {t:Tok} {l:List Ev} (hA:AppB lo H t (l.map Pos.Ev.row) 5 70) (hlo:lo≤H.n) (e:Ev) (hl:l.length+1≤maxRows):∃ t' H',appP lo H 5 70 (.ps t (l.map Pos.Ev.row)) [e.row]=some (.ps t' ((l++[e]).map Pos.Ev.row),H')∧AppB lo H' t' ((l++[e]).map Pos.Ev.row) 5 70∧H.n≤H'.n∧Old lo H H'∧(∀ i c u,i < H.n→H.get i=.cells c u→H'.get i=.cells c u):=by
 obtain ⟨t',H',h1,h2,h3,h4,h5⟩:=app_b hA hlo (Nat.le_refl _) (r:=e.row) (by rw [List.length_map];exact hl) rfl (by decide) (ev_all l)
 have e1:l.map Pos.Ev.row++[e.row.map AV.strip0]=(l++[e]).map Pos.Ev.row:=by rw [List.map_append];rfl
 rw [e1] at h1 h2
 exact ⟨t',H',h1,h2,h3,h4,h5⟩
theorem r_forkEvent {P : FuncId → Option (List AV → Option AV)} (hen : ∀ {rec : Rec} {lo : Nat} {args : List AV} {H : Heap} {K : AV → Heap → Prop}, VO (aenter (NC.withPrims P) rec lo 19 args H) K = AO (p19 args) fun v => K v H) {lo b : Nat} {H : Heap} {t : Tok} {l : List Ev} (hg : H.get b = .cells [.ps t (l.map Pos.Ev.row)] 25) (hlb : lo ≤ b) (hb : b < H.n) (hA : AppB lo H t (l.map Pos.Ev.row) 5 70) (hu : (AV.ps t (l.map Pos.Ev.row)).under H.n = true) (k : Nm) (vs : List Int) (ns : List Nm) (hl : l.length + 1 ≤ 1000) (hz : ∀ z ∈ l, EvS z) (hn : ns.length ≤ maxRows) (hv : vs.length ≤ maxRows) :
 ∃ w H', R (NC.withPrims P) (.call lo 6 [.ptr b 0, .str k, .ps .unk (ints vs), .ps .unk (strs ns)] H) = some (.ofVal w H') ∧ w = .bool (decide (acceptsL l ⟨(l.length : Int) + 1, k, ns, vs, []⟩ = 0)) ∧
   (acceptsL l ⟨(l.length : Int) + 1, k, ns, vs, []⟩ = 0 → ∃ t', H'.get b = .cells [.ps t' ((l ++ [(⟨(l.length : Int) + 1, k, ns, vs, []⟩ : Ev)]).map Pos.Ev.row)] 25 ∧ AppB lo H' t' ((l ++ [(⟨(l.length : Int) + 1, k, ns, vs, []⟩ : Ev)]).map Pos.Ev.row) 5 70) ∧ H.n ≤ H'.n ∧ (∀ i c u, i < H.n → i ≠ b → H.get i = .cells c u → H'.get i = .cells c u) := by
 have hac := pe19 l ⟨(l.length : Int) + 1, k, ns, vs, []⟩ ⟨by omega, hz, hn, hv⟩
 simp only [Pos.Ev.row] at hac
 have hac' : p19 [.ps .unk (l.map Pos.Ev.row), .agg [.int .i64 ((l.length : Int) + 1), .str k, .ps .unk (strs ns), .ps .unk (ints vs), .str []]] = _ := hac
 generalize hE : acceptsL l ⟨(l.length : Int) + 1, k, ns, vs, []⟩ = E at hac' ⊢
 refine R_of_body (C := NC.withPrims P) (f := 6) (lo := lo) (args := [.ptr b 0, .str k, .ps .unk (ints vs), .ps .unk (strs ns)]) (H := H) (fn := Tryz.f6) (Q := fun w H' => w = .bool (decide (E = 0)) ∧ (E = 0 → ∃ t', H'.get b = .cells [.ps t' ((l ++ [(⟨(l.length : Int) + 1, k, ns, vs, []⟩ : Ev)]).map Pos.Ev.row)] 25 ∧ AppB lo H' t' ((l ++ [(⟨(l.length : Int) + 1, k, ns, vs, []⟩ : Ev)]).map Pos.Ev.row) 5 70) ∧ H.n ≤ H'.n ∧ (∀ i c u, i < H.n → i ≠ b → H.get i = .cells c u → H'.get i = .cells c u)) (by kernel_rfl) Tryz.func6 rfl rfl ?_
 have hlH : lo ≤ H.n := by omega
 have hw : wrapq .i64 (Int.add (l.length : Int) 1) = (l.length : Int) + 1 := wrap_nat (n := l.length + 1) (by omega)
 obtain ⟨H1, hH1⟩ : ∃ H1, H1 = (H.push (.cells [.int .i64 0, .str [], .ps .nil [], .ps .nil [], .str []] 70)).set H.n (.cells [.int .i64 ((l.length : Int) + 1), .str k, .ps .unk (strs ns), .ps .unk (ints vs), .str []] 70) := ⟨_, rfl⟩
 have hn1 : H1.n = H.n + 1 := by rw [hH1]; simp
 have hO1 : Old H.n H H1 := by rw [hH1]; exact (Old.refl H).new _ _
 have hg1 : H1.get b = .cells [.ps t (l.map Pos.Ev.row)] 25 := by rw [hO1.2 b hb]; exact hg
 have hp1 : H1.get H.n = .cells [.int .i64 ((l.length : Int) + 1), .str k, .ps .unk (strs ns), .ps .unk (ints vs), .str []] 70 := by rw [hH1, Heap.get_set, if_pos rfl]
 obtain ⟨t2, H2, ha2, hO2, hu2⟩ := app_evs (l := l) (by unfold maxRows; omega) lo H1
 have hg2 : H2.get b = .cells [.ps t (l.map Pos.Ev.row)] 25 := by rw [hO2.2 b (by omega)]; exact hg1
 have hp2 : H2.get H.n = .cells [.int .i64 ((l.length : Int) + 1), .str k, .ps .unk (strs ns), .ps .unk (ints vs), .str []] 70 := by rw [hO2.2 _ (by omega)]; exact hp1
 have hall := ev_all l
 have hlo' := eq_true hlH
 have hb1 : (b < H.n) = True := eq_true hb
 have hb2 : (b = H.n) = False := eq_false (by omega)
 have hu2' := hu2 H2.n (Nat.le_refl _)
 have hn2 := hO2.1
 have hA2 : AppB lo H2 t (l.map Pos.Ev.row) 5 70 := by
  rcases hA with h | ⟨j, h1, h2, h3, h4, h5⟩
  · exact .inl h
  · exact .inr ⟨j, h1, h2, h3, by omega, by rw [hO2.2 j (by omega), hO1.2 j h4]; exact h5⟩
 obtain ⟨t3, H3, ha3, hA3, hn3, hO3, hk3⟩ := app_one hA2 (by omega) ⟨(l.length : Int) + 1, k, ns, vs, []⟩ (by unfold maxRows; omega)
 simp only [Pos.Ev.row] at ha3
 have hg3 := hk3 b _ _ (by omega) hg2
 have hb3 : (b < H2.n) = True := eq_true (by omega)
 have hb4 : (H.n < H2.n) = True := eq_true (by omega)
 have hb5 : (H.n = b) = False := eq_false (by omega)
 have hlb' := eq_true hlb
 by_cases hE0 : E = 0
 · have hd : decide (E = 0) = true := decide_eq_true hE0
   subst hE0
   have hkeep : ∀ i c u, i < H.n → i ≠ b → H.get i = .cells c u → H3.get i = .cells c u := fun i c u hi hne hgi => hk3 i c u (by omega) (by rw [hO2.2 i (by omega), hO1.2 i hi]; exact hgi)
   rcases hA with ⟨rfl, hr⟩ | ⟨j, rfl, hr, hj, hjn, hjr⟩
   · simp (config := { maxDischargeDepth := 12 }) only [go_sem, reduceIte, reduceEqDiff, reduceAdd, reduceMul, reduceSub, reduceLeDiff, reduceLT, Nat.reduceBEq, reduceCtorEq, hen, appO, hg, hb1, hb2, hb3, hb4, hb5, hlo', hlb', hw, ← hH1, hg1, hp1, hall, ha2, hg2, hp2, hu2', hac', ha3, hg3]
     exact ⟨fun _ => ⟨t3, rfl, hA3.set _ (fun h => by rw [hg3] at h; cases h)⟩, by omega, fun i c u hi hne hgi => by rw [if_neg hne]; exact hkeep i c u hi hne hgi⟩
   · have hjb : (j = b) = False := eq_false (fun he => by rw [he, hg] at hjr; cases hjr)
     have hjb2 : (b = j) = False := eq_false (fun he => by rw [← he, hg] at hjr; cases hjr)
     have hjh : (j = H.n) = False := eq_false (by omega)
     have hjh2 : (H.n = j) = False := eq_false (by omega)
     simp (config := { maxDischargeDepth := 12 }) only [go_sem, reduceIte, reduceEqDiff, reduceAdd, reduceMul, reduceSub, reduceLeDiff, reduceLT, Nat.reduceBEq, reduceCtorEq, hen, appO, hg, hb1, hb2, hb3, hb4, hb5, hlo', hlb', hw, ← hH1, hg1, hp1, hall, ha2, hg2, hp2, hu2', hac', ha3, hg3, hjb, hjb2, hjh, hjh2]
     exact ⟨fun _ => ⟨t3, rfl, hA3.set _ (fun h => by rw [hg3] at h; cases h)⟩, by omega, fun i c u hi hne hgi => by rw [if_neg hne]; exact hkeep i c u hi hne hgi⟩
 · have hd : decide (E = 0) = false := decide_eq_false hE0
   simp (config := { maxDischargeDepth := 12 }) only [go_sem, reduceIte, reduceEqDiff, reduceAdd, reduceMul, reduceSub, reduceLeDiff, reduceLT, Nat.reduceBEq, reduceCtorEq, hen, appO, hg, hb1, hb2, hb3, hb4, hb5, hlo', hlb', hw, ← hH1, hg1, hp1, hall, ha2, hg2, hp2, hu2', hac', hE0, hd]
   exact ⟨fun h => h.elim, by omega, fun i c u hi hne hgi => by rw [hO2.2 i (by omega), hO1.2 i hi]; exact hgi⟩
theorem enter_fV {P:FuncId→Option (List AV→Option AV)} {f lo:Nat} {args:List AV} {H H2:Heap} {v:AV} {K:AV→Heap→Prop} (hen:VO (aenter (NC.withPrims P) (R (NC.withPrims P)) lo f args H) K=AO (R (NC.withPrims P) (.call lo f args H)) fun o=>K o.val o.s.H) (hR:R (NC.withPrims P) (.call lo f args H)=some (.ofVal v H2)):VO (aenter (NC.withPrims P) (R (NC.withPrims P)) lo f args H) K=K v H2:=by
 rw [hen,hR];rfl
theorem ev_stepP {P:FuncId→Option (List AV→Option AV)} (hen:∀ {rec:Rec} {lo:Nat} {args:List AV} {H:Heap} {K:AV→Heap→Prop},VO (aenter (NC.withPrims P) rec lo 19 args H) K=AO (p19 args) fun v=>K v H) (hfe:P 6=none) {H:Heap} {b:Nat} {L:List Ev} (E:EvB H b L) (hl:L.length≤900) (hz:∀ z ∈ L,EvS z) {k:Nm} {vs:List Int} {ns:List Nm} (hn:ns.length≤maxRows) (hv:vs.length≤maxRows) (h0:acceptsL L (mkE L k vs ns)=0) :
 ∃ H',(∀ K,VO (aenter (NC.withPrims P) (R (NC.withPrims P)) 0 6 [.ptr b 0,.str k,.ps .unk (ints vs),.ps .unk (strs ns)] H) K=K (.bool true) H')∧EvB H' b (L++[mkE L k vs ns])∧H.n≤H'.n∧(∀ i c u,i < H.n→i ≠ b→H.get i=.cells c u→H'.get i=.cells c u):=by
 obtain ⟨hb,t,hg,hA⟩:=E
 have hu:(AV.ps t (L.map Pos.Ev.row)).under H.n=true:=by
  rcases hA with ⟨rfl,h⟩ | ⟨j,rfl,h2,h3,h4,h5⟩
  · rfl
  · simp only [AV.under,Nat.blt_eq];omega
 obtain ⟨w,H',h1,h2,h3,h4,h5⟩:=r_forkEvent hen (lo:=0) hg (Nat.zero_le _) hb hA hu k vs ns (by omega) hz hn hv
 have h0':acceptsL L ⟨(L.length:Int)+1,k,ns,vs,[]⟩=0:=h0
 obtain ⟨t',g1,g2⟩:=h3 h0'
 rw [h0'] at h2
 subst h2
 exact ⟨H',fun K=>enter_fV (en6 hfe) h1,⟨by omega,t',g1,g2⟩,h4,h5⟩
end Go.Sim

namespace Go.Sim
open Go Go.Proofs
open Go.Sim.Pos (Nm Reg Ev Rst Msg Pst Rnd Off FF nf kUp flts regF)
set_option maxRecDepth 100000
set_option maxHeartbeats 8000000
noncomputable def PPU:FuncId→Option (List AV→Option AV):=addPrim 14 p14 (addPrim 15 p15 (addPrim 13 p13 (addPrim 10 p10 (addPrim 9 p9 (addPrim 19 p19 (fun _=>none))))))
theorem primsU:PrimsOk NC PPU:=primsOk_add (primsOk_add (primsOk_add (primsOk_add (primsOk_add (primsOk_add (primsOk_none) (by kernel_rfl) (by kernel_rfl) pok19) (by kernel_rfl) (by kernel_rfl) pok9) (by kernel_rfl) (by kernel_rfl) pok10) (by kernel_rfl) (by kernel_rfl) pok13) (by kernel_rfl) (by kernel_rfl) pok15) (by kernel_rfl) (by kernel_rfl) pok14
theorem enU_19:En PPU 19 p19:=enter_prim (by rfl) (by kernel_rfl)
theorem enU_9:En PPU 9 p9:=enter_prim (by rfl) (by kernel_rfl)
theorem enU_10:En PPU 10 p10:=enter_prim (by rfl) (by kernel_rfl)
theorem enU_13:En PPU 13 p13:=enter_prim (by rfl) (by kernel_rfl)
theorem enU_15:En PPU 15 p15:=enter_prim (by rfl) (by kernel_rfl)
theorem enU_14:En PPU 14 p14:=enter_prim (by rfl) (by kernel_rfl)
attribute [go_sem ↓] enU_19 enU_9 enU_10 enU_13 enU_15 enU_14
noncomputable abbrev PU:Cfg:=NC.withPrims PPU
theorem ev_stepU {H:Heap} {b:Nat} {L:List Ev} (E:EvB H b L) (hl:L.length≤900) (hz:∀ z ∈ L,EvS z) {k:Nm} {vs:List Int} {ns:List Nm} (hn:ns.length≤maxRows) (hv:vs.length≤maxRows) (h0:acceptsL L (mkE L k vs ns)=0) :
 ∃ H',(∀ K,VO (aenter PU (R PU) 0 6 [.ptr b 0,.str k,.ps .unk (ints vs),.ps .unk (strs ns)] H) K=K (.bool true) H')∧EvB H' b (L++[mkE L k vs ns])∧H.n≤H'.n∧(∀ i c u,i < H.n→i ≠ b→H.get i=.cells c u→H'.get i=.cells c u):=ev_stepP (P:=PPU) enU_19 rfl E hl hz hn hv h0
def xT:Ev:=mkE [] Pos.kTrack [0,160] [kUp]
def xF:Ev:=mkE [xT] Pos.kFault [0,5,9,40] [[102],kUp]
def xA:Ev:=mkE [xT,xF] Pos.kAnswer [1] [[102]]
theorem x1:acceptsL [] xT=0:=by decide +kernel
theorem x2:acceptsL [xT] xF=0:=by decide +kernel
theorem x3:acceptsL [xT,xF] (mkE [xT,xF] Pos.kEnter [0,40] [kT,kUp])=32:=by decide +kernel
theorem x4:acceptsL [xT,xF] xA=0:=by decide +kernel
theorem x5:acceptsL [xT,xF,xA] (mkE [xT,xF,xA] Pos.kEnter [1,40] [kT,kUp])=0:=by decide +kernel
theorem x6:acceptsL [xT,xF,xA] (mkE [xT,xF,xA] Pos.kEnter [1,41] [kT,kUp])=20:=by decide +kernel
theorem xs1:∀ z ∈ ([]:List Ev),EvS z:=fun z h=>by cases h
theorem xs2:∀ z ∈ [xT],EvS z:=evs_one (L:=[]) xs1 _ (by decide) (by decide)
theorem xs3:∀ z ∈ [xT,xF],EvS z:=evs_one (L:=[xT]) xs2 _ (by decide) (by decide)
theorem xs4:∀ z ∈ [xT,xF,xA],EvS z:=evs_one (L:=[xT,xF]) xs3 _ (by decide) (by decide)
def xM:Msg:=⟨1,false,⟨[102],5,9,40⟩⟩
theorem y1:impV [] 0 ⟨[102],5,9,40⟩=.tup [.agg [.ps .unk ([xM].map Pos.Msg.row),.int .i64 0],.int .i64 0]:=by kernel_rfl
theorem y2:exV [xM] 0 0 [] [⟨[1],false⟩]=.tup [.agg [.ps .unk ([xM].map Pos.Msg.row),.int .i64 0],.agg [.int .i64 0,.ps .unk []],.int .i64 0]:=by kernel_rfl
theorem y3:exV [xM] 0 0 [] [⟨[],false⟩]=.tup [.agg [.ps .unk ([xM].map Pos.Msg.row),.int .i64 1],.agg [.int .i64 1,.ps .unk ([xM.r].map Pos.Rst.row)],.int .i64 0]:=by kernel_rfl
theorem y4:safeV [xM] 1=.tup [.bool true,.int .i64 0]:=by kernel_rfl
theorem y5:alwV 1 [xM.r] 8=.tup [.int .i64 40,.int .i64 0]:=by kernel_rfl
theorem c5 : ∀ lo H, CallOk NC lo 5 [] H (.bool true) H := by
 refine contract saneNC primsU (fn := Tryz.f5) (by kernel_rfl) Tryz.func5 rfl rfl (by rfl) (by rfl) ?_
 have hwd : ∀ z ∈ [xM], z.wd = false := fun z h => by
  have : z = xM := by simpa using h
  subst this; rfl
 have f1 := pe9 [] 0 ⟨[102], 5, 9, 40⟩ (by decide)
 have f2 := pe10 [xM] 0 0 [] [⟨[1], false⟩] ⟨by decide, by decide, by decide, by decide⟩
 have f3 := pe10 [xM] 0 0 [] [⟨[], false⟩] ⟨by decide, by decide, by decide, by decide⟩
 have f4 := pe13 [xM] 1 ⟨by decide, hwd⟩
 have f5 := pe15 1 [xM.r] 8 (by decide)
 rw [y1] at f1
 rw [y2] at f2
 rw [y3] at f3
 rw [y4] at f4
 rw [y5] at f5
 simp only [List.map_cons, List.map_nil, Pos.Msg.row, Pos.Rst.row, xM, Pos.Rnd.row, ints, i64] at f1 f2 f3 f4 f5
 rw [W_assoc, W_assoc, W_assoc, W_assoc, W_assoc, W_assoc, W_assoc, W_assoc]
 refine W_cut (fun T H M => M = [] ∧ getT T 5 = .int .i64 0 ∧ getT T 6 = .bool true ∧ getT T 7 = .int .i64 0 ∧ getT T 8 = .int .i64 40 ∧ getT T 9 = .int .i64 0 ∧ ∃ b, getT T 10 = .ptr b 0 ∧ EvB H b []) ?_ ?_
 · simp (config := { maxDischargeDepth := 12 }) only [go_sem, reduceIte, reduceEqDiff, reduceAdd, reduceMul, reduceSub, reduceLeDiff, reduceLT, Nat.reduceBEq, reduceCtorEq, f1, f2, f3, f4, f5]
   exact ⟨2, rfl, by simp, .nil, by rw [Heap.get_push]; rfl, .inl ⟨rfl, rfl⟩⟩
 · rintro T H M ⟨rfl, g5, g6, g7, g8, g9, b, g10, E0⟩
   obtain ⟨H1, e1, E1, n1, -⟩ := ev_stepU E0 (by decide) xs1 (k := Pos.kTrack) (vs := [0, 160]) (ns := [kUp]) (by decide) (by decide) x1
   obtain ⟨H2, e2, E2, n2, -⟩ := ev_stepU (L := [xT]) E1 (by decide) xs2 (k := Pos.kFault) (vs := [0, 5, 9, 40]) (ns := [[102], kUp]) (by decide) (by decide) x2
   obtain ⟨H3, e3, E3, n3, -⟩ := ev_stepU (L := [xT, xF]) E2 (by decide) xs3 (k := Pos.kAnswer) (vs := [1]) (ns := [[102]]) (by decide) (by decide) x4
   obtain ⟨t2, k2, -⟩ := E2.get
   obtain ⟨t3, k3, -⟩ := E3.get
   have a1 := pe14 [xT, xF] Pos.kEnter [0, 40] [kT, kUp] ⟨by decide, xs3, by decide, by decide⟩
   have a2 := pe14 [xT, xF, xA] Pos.kEnter [1, 40] [kT, kUp] ⟨by decide, xs4, by decide, by decide⟩
   have a3 := pe14 [xT, xF, xA] Pos.kEnter [1, 41] [kT, kUp] ⟨by decide, xs4, by decide, by decide⟩
   have x3' : acceptsL [xT, xF] ⟨(([xT, xF] : List Ev).length : Int) + 1, Pos.kEnter, [kT, kUp], [0, 40], []⟩ = 32 := x3
   have x5' : acceptsL [xT, xF, xA] ⟨(([xT, xF, xA] : List Ev).length : Int) + 1, Pos.kEnter, [kT, kUp], [1, 40], []⟩ = 0 := x5
   have x6' : acceptsL [xT, xF, xA] ⟨(([xT, xF, xA] : List Ev).length : Int) + 1, Pos.kEnter, [kT, kUp], [1, 41], []⟩ = 20 := x6
   rw [x3'] at a1
   rw [x5'] at a2
   rw [x6'] at a3
   generalize hL2 : ([xT, xF] : List Ev).map Pos.Ev.row = R2 at a1
   generalize hL3 : ([xT, xF, xA] : List Ev).map Pos.Ev.row = R3 at a2 a3
   have k2 : H2.get b = .cells [.ps t2 R2] 25 := by rw [← hL2]; exact k2
   have k3 : H3.get b = .cells [.ps t3 R3] 25 := by rw [← hL3]; exact k3
   simp only [Pos.kTrack, Pos.kFault, Pos.kAnswer, Pos.kEnter, kUp, kT, ints, strs, List.map_cons, List.map_nil, i64] at e1 e2 e3 a1 a2 a3
   have z1 : ((32 : Int) = 0) = False := eq_false (by decide)
   simp (config := { maxDischargeDepth := 12 }) only [go_sem, reduceIte, reduceEqDiff, reduceAdd, reduceMul, reduceSub, reduceLeDiff, reduceLT, Nat.reduceBEq, reduceCtorEq, g5, g6, g7, g8, g9, g10, e1, e2, e3, k2, k3, a1, a2, a3]
noncomputable def p5:List AV→Option AV:=fun l=>match l with
 | []=>some (.bool true)
 | _=>none
theorem pok5:∀ args v,p5 args=some v → ∀ lo H,CallOk NC lo 5 args H v H:=by
 intro args v h
 cases args with
 | nil=>have e:v=.bool true:=by simpa [p5] using h.symm
        subst e;exact c5
 | cons a r=>simp [p5] at h
end Go.Sim

namespace Go.Sim
open Go Go.Proofs
open Go.Sim.Pos (Nm Reg Ev Rst Msg Pst Rnd Off FF nf kUp flts regF)
set_option maxRecDepth 100000
set_option maxHeartbeats 4000000
structure JG (L:List Ev) (n:Nat) (r:Reg):Prop where
 rep:(repF L).2.2=0
 reg:(repF L).1.reg=r
 small:∀ z ∈ L,EvS z
 len:L.length≤n
theorem jg_ask {L:List Ev} {n:Nat} {r:Reg} (J:JG L n r) (hn:n < 900) {k:Nm} {vs:List Int} {ns:List Nm} {a b:Nat} {tk:Int} {act:Pos.Act} (hf:Pos.formE k=some (a,b)) (hk:k ≠ Pos.kUndo) (h1:ns.length=a) (h2:vs.length=b) (h3:ns.all nameB=true) (h4:vs.any (fun v=>decide (v < 0) || decide (999999999 < v))=false)
 (ha:Pos.actE (mkE L k vs ns)=some (tk,act)):acceptsL L (mkE L k vs ns)=Pos.okA r tk act:=by
 have:=(acc_act J.rep (by have:=J.len;omega) hf hk h1 h2 h3 h4 ha).1
 rw [J.reg] at this
 exact this
theorem jg_ev {L:List Ev} {n:Nat} {r r':Reg} (J:JG L n r) (hn:n < 900) {k:Nm} {vs:List Int} {ns:List Nm} {a b:Nat} {tk:Int} {act:Pos.Act} (hf:Pos.formE k=some (a,b)) (hk:k ≠ Pos.kUndo) (h1:ns.length=a) (h2:vs.length=b) (hb:a≤4∧b≤4) (h3:ns.all nameB=true) (h4:vs.any (fun v=>decide (v < 0) || decide (999999999 < v))=false)
 (ha:Pos.actE (mkE L k vs ns)=some (tk,act)) (h0:Pos.okA r tk act=0) (hr:Pos.doA r tk act=r'):acceptsL L (mkE L k vs ns)=0∧JG (L++[mkE L k vs ns]) (n+1) r':=by
 have hl:=J.len
 obtain ⟨e1,e2⟩:=acc_act J.rep (by omega) hf hk h1 h2 h3 h4 ha
 rw [J.reg] at e1 e2
 obtain ⟨e3,e4⟩:=e2 h0
 rw [hr] at e4
 exact ⟨e1.trans h0,e3,e4,evs_one J.small _ (by unfold maxRows;omega) (by unfold maxRows;omega),by rw [List.length_append];simp;exact hl⟩
theorem vals_ok:∀ {l:List Int},(∀ v ∈ l,0≤v∧v≤999999999)→l.any (fun v=>decide (v < 0) || decide (999999999 < v))=false:=by
 intro l h
 rw [List.any_eq_false]
 intro v hv
 have:=h v hv
 simp only [Bool.or_eq_true,decide_eq_true_eq]
 omega
def fltsW (m:Nat):Nat→List FF→List Pos.Flt
 | _,[]=>[]
 | i,x::r=>⟨nf i,kUp,x.1,x.2.1,x.2.2,true,decide (i < m)⟩::fltsW m (i+1) r
theorem fltsW_0:∀ (l:List FF) (i a:Nat),i+l.length≤a→flts a i l=fltsW 0 i l
 | [],_,_,_=>rfl
 | x::r,i,a,h=>by
   rw [List.length_cons] at h
   show _::flts a (i+1) r=_::fltsW 0 (i+1) r
   rw [fltsW_0 r (i+1) a (by omega)]
   have h1:decide (i < a)=true:=decide_eq_true (by omega)
   have h2:decide (i < 0)=false:=decide_eq_false (by omega)
   rw [h1,h2]
def regW (tk:Int) (m:Nat) (fs:List FF) (P:List Pos.Pos):Reg:=⟨tk,[⟨kUp,400⟩],fltsW m 0 fs,[],P,[]⟩
theorem regF_W {tk:Int} {fs:List FF}:regF tk fs.length fs=regW tk 0 fs []:=by
 unfold regF regW
 rw [fltsW_0 fs 0 fs.length (by omega)]
theorem regF_fault' {tk tk':Int} {a:Nat} {l:List FF} {x:FF} (ht:tk≤tk') (ha:a≤l.length) (hl:l.length < 64) (hx:Pos.okFF x):Pos.okA (regF tk a l) tk' (.fault (nf l.length) kUp x.1 x.2.1 x.2.2)=0∧Pos.doA (regF tk a l) tk' (.fault (nf l.length) kUp x.1 x.2.1 x.2.2)=regF tk' a (l++[x]):=by
 obtain ⟨h1,h2,h3,h4⟩:=hx
 constructor
 · unfold Pos.okA
   rw [if_neg (by show ¬ tk' < tk;omega)]
   simp only
   have hn:(regF tk a l).fault? (nf l.length)=none:=Pos.flts_none (by omega) (.inr ⟨by omega,by omega⟩)
   rw [Pos.regF_track,hn,if_neg (by simp),if_neg (by simp),if_neg (by omega),if_neg (by omega),if_neg (by show ¬ 64≤(flts a 0 l).length;rw [Pos.flts_len];omega)]
 · show (⟨tk',[⟨kUp,400⟩],flts a 0 l++[_],[],[],[]⟩:Reg)=⟨tk',[⟨kUp,400⟩],flts a 0 (l++[x]),[],[],[]⟩
   rw [Pos.flts_snoc]
   have:decide (0+l.length < a)=false:=decide_eq_false (by omega)
   rw [this]
   simp
theorem fltsW_find {m:Nat}:∀ {l:List FF} {i k:Nat} {x:FF},i+l.length≤1000→l[k]? = some x→((fltsW m i l).find? fun y=>decide (y.name=nf (i+k)))=some ⟨nf (i+k),kUp,x.1,x.2.1,x.2.2,true,decide (i+k < m)⟩
 | [],i,k,x,_,h=>by simp at h
 | y::r,i,0,x,h,hx=>by
   have hx:y=x:=by simpa using hx
   subst hx
   show ((_::fltsW m (i+1) r).find? _)=_
   rw [List.find?_cons]
   simp
 | y::r,i,k+1,x,h,hx=>by
   rw [List.length_cons] at h
   have hx:r[k]? = some x:=by simpa using hx
   have hk:k < r.length:=(List.getElem?_eq_some_iff.1 hx).1
   show ((_::fltsW m (i+1) r).find? _)=_
   rw [List.find?_cons]
   have hne:¬ nf i=nf (i+(k+1)):=fun he=>by
    have:=Pos.nf_inj (by omega) (by omega) he
    omega
   simp only [hne,decide_false]
   have ih:=fltsW_find (m:=m) (l:=r) (i:=i+1) (k:=k) (by omega) hx
   have e:i+1+k=i+(k+1):=by omega
   rw [e] at ih
   exact ih
theorem fltsW_rep {l:List FF} {m:Nat}:∀ {i:Nat},i+l.length≤1000→m < 1000→Pos.updF (fltsW m i l) (nf m) (fun x=>{ x with rep:=true })=fltsW (m+1) i l:=by
 induction l with
 | nil=>intro i _ _;rfl
 | cons x r ih =>
   intro i h hm
   rw [List.length_cons] at h
   have ih:=ih (i:=i+1) (by omega) hm
   show (if nf i=nf m then _ else _)::Pos.updF (fltsW m (i+1) r) (nf m) _=_
   rw [ih]
   by_cases hi:i=m
   · subst hi
     rw [if_pos rfl]
     show (⟨nf i,kUp,x.1,x.2.1,x.2.2,true,true⟩:Pos.Flt)::_=⟨nf i,kUp,x.1,x.2.1,x.2.2,true,decide (i < i+1)⟩::_
     simp
   · rw [if_neg (fun he=>hi (Pos.nf_inj (by omega) hm he))]
     show (⟨nf i,kUp,x.1,x.2.1,x.2.2,true,decide (i < m)⟩:Pos.Flt)::_=⟨nf i,kUp,x.1,x.2.1,x.2.2,true,decide (i < m+1)⟩::_
     have:decide (i < m)=decide (i < m+1):=by
      rw [decide_eq_decide];omega
     rw [this]
theorem fltsW_silent {m:Nat}:∀ (l:List FF) (i:Nat),((fltsW m i l).any fun f=>decide (f.track=kUp) && f.silent)=false
 | [],_=>rfl
 | x::r,i=>by
   show ((_::fltsW m (i+1) r).any _)=_
   rw [List.any_cons,fltsW_silent r (i+1)]
   simp [Pos.Flt.silent]
theorem fltsW_speeds {m:Nat}:∀ (l:List FF) (i:Nat),((fltsW m i l).filter fun f=>decide (f.track=kUp) && (f.ans && !f.rep)).map (·.speed)=(l.drop (m - i)).map fun x=>x.2.2
 | [],i=>by simp [fltsW]
 | x::r,i=>by
   have ih:=fltsW_speeds (m:=m) r (i+1)
   show ((⟨nf i,kUp,x.1,x.2.1,x.2.2,true,decide (i < m)⟩::fltsW m (i+1) r).filter _).map _=_
   rw [List.filter_cons]
   by_cases h:i < m
   · rw [if_neg (by simp [h]),ih]
     have e:m - i=(m - (i+1))+1:=by omega
     rw [e,List.drop_succ_cons]
   · rw [if_pos (by simp [h]),List.map_cons,ih]
     have e1:m - i=0:=by omega
     have e2:m - (i+1)=0:=by omega
     rw [e1,e2];rfl
def kP:Nm:=[112]
abbrev pq (ret prot opn:Bool) (closed pers speed:Int):Pos.Pos:=⟨kP,kUp,0,300,ret,prot,opn,closed,pers,speed⟩
theorem w_perm {tk:Int} {m:Nat} {fs:List FF} {P:List Pos.Pos}:(regW tk m fs P).permitted kUp=((P.filter fun p=>decide (p.track=kUp) && p.ret).map (·.speed)).foldl Pos.minI (leastF (fs.drop m)):=by
 unfold Pos.Reg.permitted
 have:=fltsW_speeds (m:=m) fs 0
 show ((P.filter _).map _).foldl Pos.minI ((((fltsW m 0 fs).filter _).map _).foldl Pos.minI 400)=_
 rw [this,Nat.sub_zero]
 rfl
theorem w_silent {tk:Int} {m:Nat} {fs:List FF} {P:List Pos.Pos}:(regW tk m fs P).silentOn kUp=false:=fltsW_silent fs 0
theorem w_track {tk:Int} {m:Nat} {fs:List FF} {P:List Pos.Pos}:(regW tk m fs P).track? kUp=some ⟨kUp,400⟩:=rfl
theorem l_take {L:List Ev} {n:Nat} {fs:List FF} {tk:Int} (J:JG L n (regW tk 0 fs [])) (hn:n < 100) (ht:tk≤6):acceptsL L (mkE L Pos.kTake [6,0,300] [kP,kUp])=0∧JG (L++[mkE L Pos.kTake [6,0,300] [kP,kUp]]) (n+1) (regW 6 0 fs [pq false false false 0 0 0]):=by
 refine jg_ev J (by omega) (a:=2) (b:=3) (tk:=6) (act:=.take kP kUp 0 300) rfl (by decide) rfl rfl (by decide) (by decide) (by decide) rfl ?_ rfl
 unfold Pos.okA
 rw [if_neg (by show ¬ (6:Int) < tk;omega)]
 simp only [w_track]
 rfl
theorem l_prot {L:List Ev} {n:Nat} {fs:List FF} (J:JG L n (regW 6 0 fs [pq false false false 0 0 0])) (hn:n < 100):acceptsL L (mkE L Pos.kProtect [6] [kP])=0∧JG (L++[mkE L Pos.kProtect [6] [kP]]) (n+1) (regW 6 0 fs [pq false true false 0 0 0]) :=
 jg_ev J (by omega) (a:=1) (b:=1) (tk:=6) (act:=.prot kP) rfl (by decide) rfl rfl (by decide) (by decide) (by decide) rfl rfl rfl
theorem l_staff {L:List Ev} {n:Nat} {fs:List FF} (J:JG L n (regW 6 0 fs [pq false true false 0 0 0])) (hn:n < 100):acceptsL L (mkE L Pos.kStaff [7,4] [kP])=0∧JG (L++[mkE L Pos.kStaff [7,4] [kP]]) (n+1) (regW 7 0 fs [pq false true false 0 4 0]) :=
 jg_ev J (by omega) (a:=1) (b:=2) (tk:=7) (act:=.staff kP 4) rfl (by decide) rfl rfl (by decide) (by decide) (by decide) rfl rfl rfl
theorem l_held {L:List Ev} {n:Nat} {fs:List FF} (J:JG L n (regW 7 0 fs [pq false true false 0 4 0])) (hn:n < 100):acceptsL L (mkE L Pos.kEnter [7,1] [kT,kUp])=31 :=
 (jg_ask J (by omega) (a:=2) (b:=2) (tk:=7) (act:=.enter kT kUp 1) rfl (by decide) rfl rfl (by decide) (by decide) rfl).trans rfl
theorem l_repair {L:List Ev} {n:Nat} {fs:List FF} {tk:Int} {m:Nat} {x:FF} (J:JG L n (regW tk m fs [pq false true false 0 4 0])) (hn:n < 100) (ht:tk≤8) (hx:fs[m]? = some x) (hm:m < 9) (hl:fs.length≤9) (h0:0≤x.1) (h3:x.2.1≤300):acceptsL L (mkE L Pos.kRepair [8] [nf m,kP])=0∧JG (L++[mkE L Pos.kRepair [8] [nf m,kP]]) (n+1) (regW 8 (m+1) fs [pq false true false 0 4 0]):=by
 refine jg_ev J (by omega) (a:=2) (b:=1) (tk:=8) (act:=.repair (nf m) kP) rfl (by decide) rfl rfl (by decide) (by
  have h:nameB kP=true:=by decide
  simp [nf_name m hm,h]) (by decide) rfl ?_ ?_
 · unfold Pos.okA
   rw [if_neg (by show ¬ (8:Int) < tk;omega)]
   have hf:=fltsW_find (m:=m) (l:=fs) (i:=0) (k:=m) (by omega) hx
   rw [Nat.zero_add] at hf
   have hf:(regW tk m fs [pq false true false 0 4 0]).fault? (nf m)=_:=hf
   have hp:(regW tk m fs [pq false true false 0 4 0]).poss? kP=some (pq false true false 0 4 0):=rfl
   simp only [hf,hp]
   have h1:decide (m < m)=false:=decide_eq_false (by omega)
   rw [h1,if_neg (by simp),if_neg (by simp;omega),if_neg (by simp)]
 · show (⟨8,[⟨kUp,400⟩],Pos.updF (fltsW m 0 fs) (nf m) _,[],[pq false true false 0 4 0],[]⟩:Reg)=⟨8,[⟨kUp,400⟩],fltsW (m+1) 0 fs,[],[pq false true false 0 4 0],[]⟩
   rw [fltsW_rep (by omega) (by omega)]
theorem l_ret1 {L:List Ev} {n:Nat} {fs:List FF} {m:Nat} (J:JG L n (regW 8 m fs [pq false true false 0 4 0])) (hn:n < 100):acceptsL L (mkE L Pos.kReturn [9] [kP])=32 :=
 (jg_ask J (by omega) (a:=1) (b:=1) (tk:=9) (act:=.ret kP) rfl (by decide) rfl rfl (by decide) (by decide) rfl).trans rfl
theorem l_off {L:List Ev} {n:Nat} {fs:List FF} {m:Nat} (J:JG L n (regW 8 m fs [pq false true false 0 4 0])) (hn:n < 100):acceptsL L (mkE L Pos.kOff [9,4] [kP])=0∧JG (L++[mkE L Pos.kOff [9,4] [kP]]) (n+1) (regW 9 m fs [pq false true false 0 0 0]) :=
 jg_ev J (by omega) (a:=1) (b:=2) (tk:=9) (act:=.off kP 4) rfl (by decide) rfl rfl (by decide) (by decide) (by decide) rfl rfl rfl
theorem l_clear {L:List Ev} {n:Nat} {fs:List FF} {m:Nat} (J:JG L n (regW 9 m fs [pq false true false 0 0 0])) (hn:n < 100):acceptsL L (mkE L Pos.kClear [9] [kP])=0∧JG (L++[mkE L Pos.kClear [9] [kP]]) (n+1) (regW 9 m fs [pq false false false 0 0 0]) :=
 jg_ev J (by omega) (a:=1) (b:=1) (tk:=9) (act:=.clear kP) rfl (by decide) rfl rfl (by decide) (by decide) (by decide) rfl rfl rfl
theorem l_ret2 {L:List Ev} {n:Nat} {fs:List FF} {m:Nat} (J:JG L n (regW 9 m fs [pq false false false 0 0 0])) (hn:n < 100):acceptsL L (mkE L Pos.kReturn [9] [kP])=7 :=
 (jg_ask J (by omega) (a:=1) (b:=1) (tk:=9) (act:=.ret kP) rfl (by decide) rfl rfl (by decide) (by decide) rfl).trans rfl
theorem l_open {L:List Ev} {n:Nat} {fs:List FF} {m:Nat} (J:JG L n (regW 9 m fs [pq false false false 0 0 0])) (hn:n < 100):acceptsL L (mkE L Pos.kOpen [9] [kP])=0∧JG (L++[mkE L Pos.kOpen [9] [kP]]) (n+1) (regW 9 m fs [pq false false true 0 0 0]) :=
 jg_ev J (by omega) (a:=1) (b:=1) (tk:=9) (act:=.opn kP) rfl (by decide) rfl rfl (by decide) (by decide) (by decide) rfl rfl rfl
theorem l_close {L:List Ev} {n:Nat} {fs:List FF} {m:Nat} (J:JG L n (regW 9 m fs [pq false false true 0 0 0])) (hn:n < 100) {v:Int} (h1:1≤v) (h2:v≤400):acceptsL L (mkE L Pos.kClose [10,v] [kP])=0∧JG (L++[mkE L Pos.kClose [10,v] [kP]]) (n+1) (regW 10 m fs [pq false false false 1 0 v]):=by
 refine jg_ev J (by omega) (a:=1) (b:=2) (tk:=10) (act:=.close kP v) rfl (by decide) rfl rfl (by decide) (by decide) (vals_ok fun w hw=>by
  have:w=10∨w=v:=by simpa using hw
  omega) rfl ?_ rfl
 have hp:(regW 9 m fs [pq false false true 0 0 0]).poss? kP=some (pq false false true 0 0 0):=rfl
 unfold Pos.okA
 rw [if_neg (by show ¬ (10:Int) < 9;omega)]
 simp only [Pos.inOpen,hp]
 rw [if_neg (by simp),if_neg (by omega),if_neg (by simp)]
theorem l_ret {L:List Ev} {n:Nat} {fs:List FF} {m:Nat} {v:Int} (J:JG L n (regW 10 m fs [pq false false false 1 0 v])) (hn:n < 100):acceptsL L (mkE L Pos.kReturn [10] [kP])=0∧JG (L++[mkE L Pos.kReturn [10] [kP]]) (n+1) (regW 10 m fs [pq true false false 1 0 v]) :=
 jg_ev J (by omega) (a:=1) (b:=1) (tk:=10) (act:=.ret kP) rfl (by decide) rfl rfl (by decide) (by decide) (by decide) rfl rfl rfl
theorem l_raise {L:List Ev} {n:Nat} {fs:List FF} {m:Nat} {v:Int} (J:JG L n (regW 10 m fs [pq true false false 1 0 v])) (hn:n < 100) (hv:v < 400):acceptsL L (mkE L Pos.kRaise [11,400] [kP])=0∧JG (L++[mkE L Pos.kRaise [11,400] [kP]]) (n+1) (regW 11 m fs [pq true false false 1 0 400]):=by
 refine jg_ev J (by omega) (a:=1) (b:=2) (tk:=11) (act:=.raise kP 400) rfl (by decide) rfl rfl (by decide) (by decide) (by decide) rfl ?_ rfl
 have hp:(regW 10 m fs [pq true false false 1 0 v]).poss? kP=some (pq true false false 1 0 v):=rfl
 unfold Pos.okA
 rw [if_neg (by show ¬ (11:Int) < 10;omega)]
 simp only [hp]
 rw [if_neg (by simp),if_neg (by omega),if_neg (by omega)]
theorem l_next {L:List Ev} {n:Nat} {fs:List FF} {tk:Int} {m:Nat} {v:Int} (J:JG L n (regW tk m fs [pq true false false 1 0 v])) (hg:∀ x ∈ fs,goodFF x) (hv:1≤v):nextL L kUp=(minI (leastF (fs.drop m)) v,0):=by
 unfold nextL
 have hr:(Pos.repJ nameB Pos.zJn 0 L).2.2=0:=J.rep
 have hgr:(Pos.repJ nameB Pos.zJn 0 L).1.reg=regW tk m fs [pq true false false 1 0 v]:=J.reg
 rw [if_neg (fun h=>h hr),hgr,w_track]
 have hp:(regW tk m fs [pq true false false 1 0 v]).permitted kUp=minI (leastF (fs.drop m)) v:=by rw [w_perm];rfl
 have hl:=least_in (fs:=fs.drop m) (fun x hx=>hg x (List.mem_of_mem_drop hx))
 have h0:Pos.nextE (regW tk m fs [pq true false false 1 0 v]) kUp=0:=by
  unfold Pos.nextE
  have ht3:(regW tk m fs [pq true false false 1 0 v]).taken kUp=false:=rfl
  rw [ht3,w_silent,hp,if_neg (by simp),if_neg (by simp),if_neg (by unfold minI;split<;>omega)]
 simp only
 rw [if_neg (fun h=>h h0),hp]
theorem l_track:acceptsL [] (mkE [] Pos.kTrack [0,400] [kUp])=0∧JG ([]++[mkE [] Pos.kTrack [0,400] [kUp]]) 1 (regF 0 0 []):=by
 obtain ⟨h,J⟩:=j_track
 exact ⟨h,J.rep,J.reg,J.small,J.len⟩
theorem l_fault {L : List Ev} {n : Nat} {fs : List FF} {x : FF} {tk tk' : Int} (J : JG L n (regF tk fs.length fs)) (hn : n < 100) (ht : tk ≤ tk') (ht0 : 0 ≤ tk') (ht1 : tk' ≤ 100) (hx : goodFF x) (hl : fs.length < 9) : acceptsL L (mkE L Pos.kFault [tk', x.1, x.2.1, x.2.2] [nf fs.length, kUp]) = 0 ∧ JG (L ++ [mkE L Pos.kFault [tk', x.1, x.2.1, x.2.2] [nf fs.length, kUp]]) (n + 1) (regF tk' fs.length (fs ++ [x])) := by
 obtain ⟨x1, x2, x3, x4, x5⟩ := hx
 obtain ⟨k1, k2⟩ := regF_fault' (tk := tk) (tk' := tk') (a := fs.length) (l := fs) (x := x) ht (Nat.le_refl _) (by omega) ⟨by omega, by omega, by omega, by omega⟩
 exact jg_ev J (by omega) (a := 2) (b := 4) (tk := tk') (act := .fault (nf fs.length) kUp x.1 x.2.1 x.2.2) rfl (by decide) rfl rfl (by decide) (by
  have h : nameB kUp = true := by decide
  simp [nf_name _ hl, h]) (vals_ok fun w hw => by
  have : w = tk' ∨ w = x.1 ∨ w = x.2.1 ∨ w = x.2.2 := by simpa using hw
  omega) rfl k1 k2
theorem l_answer {L:List Ev} {n:Nat} {fs:List FF} {tk:Int} {a:Nat} (J:JG L n (regF tk a fs)) (hn:n < 100) (ht0:0≤tk) (ht1:tk≤100) (ha:a < fs.length) (hl:fs.length≤9):acceptsL L (mkE L Pos.kAnswer [tk] [nf a])=0∧JG (L++[mkE L Pos.kAnswer [tk] [nf a]]) (n+1) (regF tk (a+1) fs):=by
 obtain ⟨k1,k2⟩:=Pos.regF_answer (tk:=tk) (tk':=tk) (a:=a) (l:=fs) (Int.le_refl _) ha (by omega)
 exact jg_ev J (by omega) (a:=1) (b:=1) (tk:=tk) (act:=.answer (nf a)) rfl (by decide) rfl rfl (by decide) (by simp [nf_name a (by omega)]) (vals_ok fun w hw=>by
  have:w=tk:=by simpa using hw
  omega) rfl k1 k2
end Go.Sim

namespace Go.Sim
open Go Go.Proofs
open Go.Sim.Pos (Nm Rst Msg Pst Rnd Len)
set_option maxRecDepth 100000
set_option maxHeartbeats 4000000
def wdV (l:List Msg) (a:Int) (s:Nm):AV:=if firstI [officeE l a,nmErr s] ≠ 0 then .tup [.agg [.ps .unk [],.int .i64 0],.int .i64 (firstI [officeE l a,nmErr s])] else if Pos.hasR (Pos.afterF l) s=false then .tup [.agg [.ps .unk [],.int .i64 0],.int .i64 10] else withV l a true ⟨s,0,0,0⟩
noncomputable def PPF17:FuncId→Option (List AV→Option AV):=addPrim 25 p25 (addPrim 24 p24 (addPrim 23 p23 (addPrim 20 p20 (addPrim 44 p44 (addPrim 21 p21 (fun _=>none))))))
theorem primsF17:PrimsOk NC PPF17:=primsOk_add (primsOk_add (primsOk_add (primsOk_add (primsOk_add (primsOk_add (primsOk_none) (by kernel_rfl) (by kernel_rfl) pok21) (by kernel_rfl) (by kernel_rfl) pok44) (by kernel_rfl) (by kernel_rfl) pok20) (by kernel_rfl) (by kernel_rfl) pok23) (by kernel_rfl) (by kernel_rfl) pok24) (by kernel_rfl) (by kernel_rfl) pok25
theorem enF17_21:En PPF17 21 p21:=enter_prim (by rfl) (by kernel_rfl)
theorem enF17_44:En PPF17 44 p44:=enter_prim (by rfl) (by kernel_rfl)
theorem enF17_20:En PPF17 20 p20:=enter_prim (by rfl) (by kernel_rfl)
theorem enF17_23:En PPF17 23 p23:=enter_prim (by rfl) (by kernel_rfl)
theorem enF17_24:En PPF17 24 p24:=enter_prim (by rfl) (by kernel_rfl)
theorem enF17_25:En PPF17 25 p25:=enter_prim (by rfl) (by kernel_rfl)
attribute [go_sem ↓] enF17_21 enF17_44 enF17_20 enF17_23 enF17_24 enF17_25
theorem c17 (l:List Msg) (a:Int) (s:Nm) (hp:l.length≤maxRows):∀ lo H,CallOk NC lo 17 [.agg [.ps .unk (l.map Pos.Msg.row),i64 a],.str s] H (wdV l a s) H:=by
 refine contract saneNC primsF17 (fn:=Tryz.f17) (by kernel_rfl) Tryz.func17 rfl rfl (by rfl) (by unfold wdV withV;(repeat' split)<;>rfl) ?_
 have hl:=hp
 have hof:=pe21 l a hl
 have hwi:=pe25 l a true ⟨s,0,0,0⟩ hl
 simp only [Pos.Rst.row] at hwi
 unfold wdV
 by_cases c1:firstI [officeE l a,nmErr s]=0
 · rw [if_neg (by simpa using c1)]
   have ho:officeE l a=0:=by
    refine Decidable.byContradiction fun h => ?_
    simp [firstI,h] at c1
   have hlen:=office_len ho
   have haf:=pe23 l hlen
   have hal:=after_len l
   have hha:=pe24 (Pos.afterF l) s (by unfold maxRows;omega)
   cases hh:Pos.hasR (Pos.afterF l) s
   · rw [hh] at hha
     rw [if_pos rfl]
     simp (config:={ maxDischargeDepth:=12 }) only [go_sem,reduceIte,reduceEqDiff,reduceAdd,reduceMul,reduceSub,reduceLeDiff,reduceLT,Nat.reduceBEq,reduceCtorEq,hof,c1,haf,hha]
   · rw [hh] at hha
     rw [if_neg (by simp)]
     unfold withV at hwi ⊢
     by_cases c2:64≤l.length
     · rw [if_pos c2] at hwi ⊢
       simp (config:={ maxDischargeDepth:=12 }) only [go_sem,reduceIte,reduceEqDiff,reduceAdd,reduceMul,reduceSub,reduceLeDiff,reduceLT,Nat.reduceBEq,reduceCtorEq,hof,c1,haf,hha,hwi]
     · rw [if_neg c2] at hwi ⊢
       simp (config:={ maxDischargeDepth:=12 }) only [go_sem,reduceIte,reduceEqDiff,reduceAdd,reduceMul,reduceSub,reduceLeDiff,reduceLT,Nat.reduceBEq,reduceCtorEq,hof,c1,haf,hha,hwi]
 · rw [if_pos c1]
   simp (config:={ maxDischargeDepth:=12 }) only [go_sem,reduceIte,reduceEqDiff,reduceAdd,reduceMul,reduceSub,reduceLeDiff,reduceLT,Nat.reduceBEq,reduceCtorEq,hof,c1]
noncomputable def p17:List AV→Option AV:=primOf (α:=(List Msg) × (Int) × (Nm)) (fun x=>[.agg [.ps .unk (x.1.map Pos.Msg.row),i64 x.2.1],.str x.2.2]) (fun x=>x.1.length≤maxRows) (fun x=>wdV x.1 x.2.1 x.2.2)
theorem pok17:∀ args v,p17 args=some v → ∀ lo H,CallOk NC lo 17 args H v H:=by
 intro args v h
 obtain ⟨x,rfl,hp,rfl⟩:=primOf_inv h
 exact c17 x.1 x.2.1 x.2.2 hp
theorem pe17 (l:List Msg) (a:Int) (s:Nm) (hp:l.length≤maxRows):p17 [.agg [.ps .unk (l.map Pos.Msg.row),.int .i64 a],.str s]=some (wdV l a s):=primOf_enc (by intro x y h;(simp only [List.cons.injEq,AV.agg.injEq,AV.str.injEq,AV.int.injEq,AV.ps.injEq,AV.bool.injEq,Pos.Rst.row_inj,Pos.Msg.row_inj,rsts_inj,msgs_inj,true_and,and_true] at h;first | simpa only [Prod.ext_iff] using h | simpa only [Prod.ext_iff,and_assoc] using h)) (l,a,s) hp
attribute [go_sem] pe17
def ifV (l:List Msg) (a:Int):AV:=if officeE l a ≠ 0 then .tup [.ps .unk [],.int .i64 (officeE l a)] else .tup [.ps .unk ((Pos.afterF l).map Pos.Rst.row),.int .i64 0]
noncomputable def PPF18:FuncId→Option (List AV→Option AV):=addPrim 23 p23 (addPrim 21 p21 (fun _=>none))
theorem primsF18:PrimsOk NC PPF18:=primsOk_add (primsOk_add (primsOk_none) (by kernel_rfl) (by kernel_rfl) pok21) (by kernel_rfl) (by kernel_rfl) pok23
theorem enF18_21:En PPF18 21 p21:=enter_prim (by rfl) (by kernel_rfl)
theorem enF18_23:En PPF18 23 p23:=enter_prim (by rfl) (by kernel_rfl)
attribute [go_sem ↓] enF18_21 enF18_23
theorem c18 (l:List Msg) (a:Int) (hp:l.length≤maxRows):∀ lo H,CallOk NC lo 18 [.agg [.ps .unk (l.map Pos.Msg.row),i64 a]] H (ifV l a) H:=by
 refine contract saneNC primsF18 (fn:=Tryz.f18) (by kernel_rfl) Tryz.func18 rfl rfl (by rfl) (by unfold ifV;split<;>rfl) ?_
 have hof:=pe21 l a hp
 unfold ifV
 by_cases c1:officeE l a=0
 · rw [if_neg (by simpa using c1)]
   have haf:=pe23 l (office_len c1)
   simp (config:={ maxDischargeDepth:=12 }) only [go_sem,reduceIte,reduceEqDiff,reduceAdd,reduceMul,reduceSub,reduceLeDiff,reduceLT,Nat.reduceBEq,reduceCtorEq,hof,c1,haf]
 · rw [if_pos c1]
   simp (config:={ maxDischargeDepth:=12 }) only [go_sem,reduceIte,reduceEqDiff,reduceAdd,reduceMul,reduceSub,reduceLeDiff,reduceLT,Nat.reduceBEq,reduceCtorEq,hof,c1]
noncomputable def p18:List AV→Option AV:=primOf (α:=(List Msg) × (Int)) (fun x=>[.agg [.ps .unk (x.1.map Pos.Msg.row),i64 x.2]]) (fun x=>x.1.length≤maxRows) (fun x=>ifV x.1 x.2)
theorem pok18:∀ args v,p18 args=some v → ∀ lo H,CallOk NC lo 18 args H v H:=by
 intro args v h
 obtain ⟨x,rfl,hp,rfl⟩:=primOf_inv h
 exact c18 x.1 x.2 hp
theorem pe18 (l:List Msg) (a:Int) (hp:l.length≤maxRows):p18 [.agg [.ps .unk (l.map Pos.Msg.row),.int .i64 a]]=some (ifV l a):=primOf_enc (by intro x y h;(simp only [List.cons.injEq,AV.agg.injEq,AV.str.injEq,AV.int.injEq,AV.ps.injEq,AV.bool.injEq,Pos.Rst.row_inj,Pos.Msg.row_inj,rsts_inj,msgs_inj,true_and,and_true] at h;first | simpa only [Prod.ext_iff] using h | simpa only [Prod.ext_iff,and_assoc] using h)) (l,a) hp
attribute [go_sem] pe18
end Go.Sim

namespace Go.Sim
open Go Go.Proofs
open Go.Sim.Pos (Nm Reg Ev Rst Msg Pst Rnd Off FF nf kUp)
set_option maxRecDepth 100000
set_option maxHeartbeats 4000000
def wdsF (n:Nat):Nat→Nat→List Msg
 | _,0=>[]
 | i,k+1=>⟨((n+i:Nat):Int)+1,true,⟨nf i,0,0,0⟩⟩::wdsF n (i+1) k
theorem wdsF_len (n:Nat):∀ (k i:Nat),(wdsF n i k).length=k
 | 0,_=>rfl
 | k+1,i=>by
   show (wdsF n (i+1) k).length+1=_
   rw [wdsF_len n k]
theorem wdsF_snoc (n:Nat):∀ (k i:Nat),wdsF n i (k+1)=wdsF n i k++[⟨((n+(i+k):Nat):Int)+1,true,⟨nf (i+k),0,0,0⟩⟩]
 | 0,i=>rfl
 | k+1,i=>by
   show _::wdsF n (i+1) (k+1)=_
   rw [wdsF_snoc n k (i+1)]
   have e:i+1+k=i+(k+1):=by omega
   rw [e];rfl
theorem wdsF_take (n:Nat):∀ (k i j:Nat),(wdsF n i k).take j=wdsF n i (min j k)
 | 0,i,j=>by simp [wdsF]
 | k+1,i,0=>by simp [wdsF]
 | k+1,i,j+1=>by
   show _::(wdsF n (i+1) k).take j=_
   rw [wdsF_take n k (i+1) j]
   have e:min (j+1) (k+1)=min j k+1:=by omega
   rw [e];rfl
def mwF (fs:List FF) (k:Nat):List Msg:=msgsF 0 fs++wdsF fs.length 0 k
theorem mwF_len (fs:List FF) (k:Nat):(mwF fs k).length=fs.length+k:=by unfold mwF;rw [List.length_append,msgsF_len,wdsF_len]
theorem mwF_0 (fs:List FF):mwF fs 0=msgsF 0 fs:=by unfold mwF;simp [wdsF]
theorem mwF_snoc (fs:List FF) (k:Nat):mwF fs (k+1)=mwF fs k++[⟨((mwF fs k).length:Int)+1,true,⟨nf k,0,0,0⟩⟩]:=by
 have hl:((mwF fs k).length:Int)=((fs.length+(0+k):Nat):Int):=by rw [mwF_len,Nat.zero_add]
 rw [hl]
 unfold mwF
 rw [wdsF_snoc,List.append_assoc,Nat.zero_add]
theorem mwF_take (fs:List FF) (k j:Nat) (hj:j≤k):(mwF fs k).take (fs.length+j)=mwF fs j:=by
 unfold mwF
 rw [List.take_append,msgsF_len,List.take_of_length_le (by rw [msgsF_len];omega),wdsF_take]
 have e:min (fs.length+j - fs.length) k=j:=by omega
 rw [e]
theorem has_rsts:∀ (l:List FF) (i k:Nat),i+l.length≤9→k < 9→Pos.hasR (rstsF i l) (nf k)=decide (i≤k∧k < i+l.length)
 | [],i,k,_,_=>by
   symm
   show decide _=false
   rw [decide_eq_false_iff_not]
   rintro ⟨h1,h2⟩
   simp at h2
   omega
 | x::r,i,k,h,hk=>by
   rw [List.length_cons] at h
   have ih:=has_rsts r (i+1) k (by omega) hk
   show (decide (nf i=nf k) || Pos.hasR (rstsF (i+1) r) (nf k))=_
   rw [ih,List.length_cons]
   by_cases c:i=k
   · subst c
     simp
   · have hne:decide (nf i=nf k)=false:=decide_eq_false fun e=>c (Pos.nf_inj (by omega) (by omega) e)
     rw [hne,Bool.false_or,decide_eq_decide]
     omega
theorem filter_rsts:∀ (l:List FF) (i:Nat) (k:Nat),i+l.length≤9→k < i→(rstsF i l).filter (fun r=>decide (r.name ≠ nf k))=rstsF i l
 | [],_,_,_,_=>rfl
 | x::r,i,k,h,hk=>by
   rw [List.length_cons] at h
   show List.filter _ (_::rstsF (i+1) r)=_
   rw [List.filter_cons,if_pos (by
    have:nf i ≠ nf k:=fun e=>by
     have:=Pos.nf_inj (by omega) (by omega) e
     omega
    simpa using this),filter_rsts r (i+1) k (by omega) (by omega)]
   rfl
theorem after_mw {fs:List FF} (hl:fs.length≤9):∀ k,k≤fs.length→Pos.afterF (mwF fs k)=rstsF k (fs.drop k)
 | 0,_=>by rw [mwF_0,after_F hl];rfl
 | k+1,hk=>by
   have ih:=after_mw hl k (by omega)
   rw [mwF_snoc,Pos.after_snoc,ih]
   obtain ⟨x,hx⟩:∃ x,fs[k]? = some x:=⟨fs[k],by simp⟩
   have hd:fs.drop k=x::fs.drop (k+1):=drop_at hx
   have hh:=has_rsts (fs.drop k) k k (by rw [List.length_drop];omega) (by omega)
   rw [decide_eq_true ⟨Nat.le_refl _,by rw [List.length_drop];omega⟩] at hh
   unfold Pos.applied
   rw [hh,if_neg (by simp),if_neg (by simp),hd]
   show List.filter (fun r:Rst=>decide (r.name ≠ nf k)) ((⟨nf k,x.1,x.2.1,x.2.2⟩:Rst)::rstsF (k+1) (fs.drop (k+1)))=_
   rw [List.filter_cons,if_neg (by simp),filter_rsts _ _ _ (by rw [List.length_drop];omega) (by omega)]
theorem offGo_app:∀ (l m:List Msg) (f:List Rst) (i:Nat),offGo f i l=0→offGo f i (l++m)=offGo (l.foldl (fun f m=>(Pos.applied f m).1) f) (i+l.length) m
 | [],m,f,i,_=>by simp
 | x::l,m,f,i,h=>by
   rw [offGo_cons] at h
   split at h
   · rename_i h1;exact absurd h h1
   · rename_i h1
     rw [List.cons_append,offGo_cons,if_neg h1,offGo_app l m _ _ h,List.length_cons,List.foldl_cons]
     congr 1;omega
theorem wmsg_ok {k n:Nat} (hk:k < 9) (hn:n < 64):msgE ⟨(n:Int)+1,true,⟨nf k,0,0,0⟩⟩=0:=by
 unfold msgE
 have hw:withinI ((n:Int)+1) 1 64=0:=by
  unfold withinI
  have a:decide ((n:Int)+1 < 1)=false:=decide_eq_false (by omega)
  have b:decide (64 < (n:Int)+1)=false:=decide_eq_false (by omega)
  simp only [a,b];rfl
 have h1:nmErr (nf k)=0:=by unfold nmErr;rw [nf_name k hk];rfl
 simp only [hw,h1]
 simp [firstI,whenI]
theorem offGo_mw {fs:List FF} (hl:fs.length≤9) (hg:∀ x ∈ fs,goodFF x):∀ k,k≤fs.length→offGo [] 0 (mwF fs k)=0
 | 0,_=>by
   rw [mwF_0]
   exact offGo_F fs 0 [] (by omega) rfl hg (fun _ _ _=>rfl)
 | k+1,hk=>by
   have ih:=offGo_mw hl hg k (by omega)
   have ha:=after_mw hl k (by omega)
   rw [mwF_snoc,offGo_app _ _ _ _ ih,Nat.zero_add]
   have ha:(mwF fs k).foldl (fun f m=>(Pos.applied f m).1) []=rstsF k (fs.drop k):=ha
   rw [ha,offGo_cons]
   have hh:=has_rsts (fs.drop k) k k (by rw [List.length_drop];omega) (by omega)
   rw [decide_eq_true ⟨Nat.le_refl _,by rw [List.length_drop];omega⟩] at hh
   have hm:=wmsg_ok (k:=k) (n:=(mwF fs k).length) (by omega) (by rw [mwF_len];omega)
   rw [hm]
   simp only [hh,ne_eq,not_true_eq_false,decide_false,Bool.not_true,Bool.and_false,Bool.false_and,whenI,firstI,if_true,if_false,Bool.false_eq_true]
   rfl
theorem office_mw {fs:List FF} (hl:fs.length≤9) (hg:∀ x ∈ fs,goodFF x) {k:Nat} (hk:k≤fs.length) {a:Nat} (ha:a≤fs.length+k):officeE (mwF fs k) (a:Int)=0:=by
 unfold officeE
 have h:=offGo_mw hl hg k hk
 rw [mwF_len,if_neg (by omega),if_neg (fun hh=>hh h)]
 unfold withinI
 have d1:decide ((a:Int) < 0)=false:=decide_eq_false (by omega)
 have d2:decide (((fs.length+k:Nat):Int) < (a:Int))=false:=decide_eq_false (by omega)
 simp only [d1,d2];rfl
theorem wd_F {fs:List FF} (hl:fs.length≤9) (hg:∀ x ∈ fs,goodFF x) {k:Nat} (hk:k < fs.length) {a:Nat} (ha:a≤fs.length+k):wdV (mwF fs k) (a:Int) (nf k)=.tup [.agg [.ps .unk ((mwF fs (k+1)).map Pos.Msg.row),.int .i64 (a:Int)],.int .i64 0]:=by
 unfold wdV
 have h1:nmErr (nf k)=0:=by unfold nmErr;rw [nf_name k (by omega)];rfl
 rw [office_mw hl hg (by omega) ha,h1,if_neg (by simp [firstI]),after_mw hl k (by omega)]
 have hh:=has_rsts (fs.drop k) k k (by rw [List.length_drop];omega) (by omega)
 rw [decide_eq_true ⟨Nat.le_refl _,by rw [List.length_drop];omega⟩] at hh
 rw [hh,if_neg (by simp)]
 unfold withV
 rw [if_neg (by rw [mwF_len];omega),mwF_snoc]
theorem if_F {fs:List FF} (hl:fs.length≤9) (hg:∀ x ∈ fs,goodFF x) {k:Nat} (hk:k≤fs.length) {a:Nat} (ha:a≤fs.length+k):ifV (mwF fs k) (a:Int)=.tup [.ps .unk ((rstsF k (fs.drop k)).map Pos.Rst.row),.int .i64 0]:=by
 unfold ifV
 have h:=office_mw hl hg hk ha
 rw [if_neg (fun hh=>hh h),after_mw hl k hk]
theorem post_G {l:List FF} {i h:Nat} (hl:i+l.length≤9) (hh:h≤64) (hg:∀ x ∈ l,goodFF x):postE (h:Int) (rstsF i l)=0:=by
 unfold postE
 have hw:withinI (h:Int) 0 64=0:=by
  unfold withinI
  have a:decide ((h:Int) < 0)=false:=decide_eq_false (by omega)
  have b:decide (64 < (h:Int))=false:=decide_eq_false (by omega)
  simp only [a,b];rfl
 have h64:decide (64 < (rstsF i l).length)=false:=decide_eq_false (by rw [rstsF_len];omega)
 rw [hw,h64]
 exact pstGo_F l i [] (by omega) hg (fun _ _ _ h=>by cases h)
theorem alw_G {l:List FF} {i h:Nat} (hl:i+l.length≤9) (hh:h≤64) (hg:∀ x ∈ l,goodFF x) {x:Int} (hx:0≤x∧x≤100000000):alwV (h:Int) (rstsF i l) x=.tup [.int .i64 (alF (rstsF i l) x),.int .i64 0]:=by
 unfold alwV
 have hw:withinI x 0 100000000=0:=by
  unfold withinI
  have a:decide (x < 0)=false:=decide_eq_false (by omega)
  have b:decide (100000000 < x)=false:=decide_eq_false (by omega)
  simp only [a,b];rfl
 rw [post_G hl hh hg,hw,if_neg (by simp [firstI])]
theorem al_in {l:List FF} {i k:Nat} {y:FF} (hy:l[k]? = some y) {x:Int} (h1:y.1≤x) (h2:x < y.2.1):alF (rstsF i l) x≤y.2.2:=(alF_le x (rstsF i l) 500).2 _ (List.mem_of_getElem? (rstsF_at l i k y hy)) h1 h2
theorem offok_mw {fs:List FF} (hl:fs.length≤9) (hg:∀ x ∈ fs,goodFF x) {k:Nat} (hk:k≤fs.length):Pos.OffOk (mwF fs k):=offok_of (office_mw (a:=0) hl hg hk (Nat.zero_le _))
theorem hear_stop {msgs:List Msg} (O:Pos.OffOk msgs) {q:Nat} (hq:q < msgs.length):∀ (k i:Nat) (p:Pst),i+k=msgs.length→p.heard=min i q→p.force=Pos.afterF (msgs.take p.heard)→(Pos.hear [(q:Int)+1] p (msgs.drop i)).heard=q∧(Pos.hear [(q:Int)+1] p (msgs.drop i)).force=Pos.afterF (msgs.take q)
 | 0,i,p,hk,hh,hf=>by
   have:msgs.drop i=[]:=List.drop_eq_nil_of_le (by omega)
   rw [this]
   have e:p.heard=q:=by omega
   rw [e] at hf
   exact ⟨e,hf⟩
 | k+1,i,p,hk,hh,hf=>by
   have hi:i < msgs.length:=by omega
   have hm:msgs[i]? = some msgs[i]:=List.getElem?_eq_getElem hi
   have hn:=O.num i _ hm
   have e:Pos.hear [(q:Int)+1] p (msgs.drop i)=Pos.hear [(q:Int)+1] (Pos.arrived p (decide (msgs[i].num ∈ [(q:Int)+1])) msgs[i]) (msgs.drop (i+1)):=by
    rw [List.drop_eq_getElem_cons hi];rfl
   rw [e,Pos.arrive_one O hf hm]
   have hd:decide (msgs[i].num ∈ [(q:Int)+1])=decide (i=q):=by
    rw [hn,decide_eq_decide]
    simp only [List.mem_singleton]
    omega
   rw [hd]
   by_cases c:i < q
   · rw [if_pos ⟨decide_eq_false (by omega),by omega⟩]
     exact hear_stop O hq k (i+1) _ (by omega) (by show i+1=_;omega) rfl
   · rw [if_neg (by
      rintro ⟨a,b⟩
      have:=of_decide_eq_false a
      omega)]
     exact hear_stop O hq k (i+1) p (by omega) (by omega) hf
theorem exch_lost {fs : List FF} (hl : fs.length ≤ 9) (hg : ∀ x ∈ fs, goodFF x) {k j : Nat} (hk : k ≤ fs.length) (hj : j < k) :
 exV (mwF fs k) (fs.length : Int) (fs.length : Int) (rstsF 0 fs) [⟨[((fs.length + j : Nat) : Int) + 1], false⟩] = .tup [.agg [.ps .unk ((mwF fs k).map Pos.Msg.row), .int .i64 ((fs.length + j : Nat) : Int)], .agg [.int .i64 ((fs.length + j : Nat) : Int), .ps .unk ((rstsF j (fs.drop j)).map Pos.Rst.row)], .int .i64 0] := by
 have O := offok_mw hl hg hk
 have hf0 : Pos.afterF ((mwF fs k).take fs.length) = rstsF 0 fs := by
  have := mwF_take fs k 0 (Nat.zero_le _)
  rw [Nat.add_zero] at this
  rw [this, mwF_0, after_F hl]
 have hst := hear_stop O (q := fs.length + j) (by rw [mwF_len]; omega) k fs.length ⟨fs.length, rstsF 0 fs⟩ (by rw [mwF_len]) (by show fs.length = _; omega) hf0.symm
 rw [mwF_take fs k j (by omega), after_mw hl j (by omega)] at hst
 have hx : Pos.exchF ⟨mwF fs k, fs.length⟩ ⟨fs.length, rstsF 0 fs⟩ [⟨[((fs.length + j : Nat) : Int) + 1], false⟩] = (⟨mwF fs k, fs.length + j⟩, ⟨fs.length + j, rstsF j (fs.drop j)⟩) := by
  show (Pos.round1 (⟨mwF fs k, fs.length⟩, ⟨fs.length, rstsF 0 fs⟩) ⟨[((fs.length + j : Nat) : Int) + 1], false⟩) = _
  unfold Pos.round1
  simp only
  generalize Pos.hear [((fs.length + j : Nat) : Int) + 1] ⟨fs.length, rstsF 0 fs⟩ ((mwF fs k).drop fs.length) = p at hst ⊢
  obtain ⟨ph, pf⟩ := p
  obtain ⟨e1, e2⟩ := hst
  simp only at e1 e2
  subst e1 e2
  rw [if_neg (by simp)]
  have : max fs.length (fs.length + j) = fs.length + j := by omega
  rw [this]
 have hr : roundsE [⟨[((fs.length + j : Nat) : Int) + 1], false⟩] = 0 := by
  unfold roundsE
  rw [if_neg (by simp)]
  show firstI [firstI [ltErr (((fs.length + j : Nat) : Int) + 1)]] = 0
  have : ltErr (((fs.length + j : Nat) : Int) + 1) = 0 := by
   unfold ltErr withinI
   have a : decide (((fs.length + j : Nat) : Int) + 1 < 1) = false := decide_eq_false (by omega)
   have b : decide (64 < ((fs.length + j : Nat) : Int) + 1) = false := decide_eq_false (by omega)
   simp only [a, b]; rfl
  rw [this]; rfl
 have hp := post_G (l := fs) (i := 0) (h := fs.length) (by omega) (by omega) hg
 have ho := office_mw hl hg hk (a := fs.length) (by omega)
 unfold exV
 rw [ho, hp, hr, if_neg (by simp [firstI]), if_neg ?_]
 · have e1 : ((fs.length : Int)).toNat = fs.length := rfl
   rw [e1, hx]
   rfl
 · rw [mwF_len]
   rintro (c | c | c)
   · omega
   · omega
   · exact c hf0
theorem exch_all {fs : List FF} (hl : fs.length ≤ 9) (hg : ∀ x ∈ fs, goodFF x) {k j : Nat} (hk : k ≤ fs.length) (hj : j ≤ k) :
 exV (mwF fs k) ((fs.length + j : Nat) : Int) ((fs.length + j : Nat) : Int) (rstsF j (fs.drop j)) [⟨[], false⟩] = .tup [.agg [.ps .unk ((mwF fs k).map Pos.Msg.row), .int .i64 ((fs.length + k : Nat) : Int)], .agg [.int .i64 ((fs.length + k : Nat) : Int), .ps .unk ((rstsF k (fs.drop k)).map Pos.Rst.row)], .int .i64 0] := by
 have O := offok_mw hl hg hk
 have hfj : Pos.afterF ((mwF fs k).take (fs.length + j)) = rstsF j (fs.drop j) := by rw [mwF_take fs k j hj, after_mw hl j (by omega)]
 have H : Pos.Heard ⟨mwF fs k, fs.length + j⟩ ⟨fs.length + j, rstsF j (fs.drop j)⟩ := ⟨by show fs.length + j ≤ (mwF fs k).length; rw [mwF_len]; omega, Nat.le_refl _, hfj.symm⟩
 have hx := Pos.exch_whole O H
 rw [mwF_len, after_mw hl k hk] at hx
 have hr : roundsE [⟨[], false⟩] = 0 := by decide
 have hp := post_G (l := fs.drop j) (i := j) (h := fs.length + j) (by rw [List.length_drop]; omega) (by omega) (fun x hx => hg x (List.mem_of_mem_drop hx))
 have ho := office_mw hl hg hk (a := fs.length + j) (by omega)
 unfold exV
 rw [ho, hp, hr, if_neg (by simp [firstI]), if_neg ?_]
 · have e1 : (((fs.length + j : Nat) : Int)).toNat = fs.length + j := rfl
   rw [e1, hx]
   rfl
 · rw [mwF_len]
   rintro (c | c | c)
   · omega
   · omega
   · exact c hfj
end Go.Sim

namespace Go.Sim
open Go Go.Proofs
open Go.Sim.Pos (Nm Trk Flt Trn Pos Mch Reg Ev Rst Msg Pst Rnd Len flat_len flat_take flat_drop flat_at)
set_option maxRecDepth 100000
set_option maxHeartbeats 4000000
noncomputable def PPL:FuncId→Option (List AV→Option AV):=addPrim 18 p18 (addPrim 17 p17 (addPrim 5 p5 (addPrim 8 p8 (addPrim 7 p7 (addPrim 14 p14 (addPrim 15 p15 (addPrim 10 p10 (addPrim 9 p9 (addPrim 16 p16 (addPrim 19 p19 (fun _=>none)))))))))))
theorem primsL:PrimsOk NC PPL:=primsOk_add (primsOk_add (primsOk_add (primsOk_add (primsOk_add (primsOk_add (primsOk_add (primsOk_add (primsOk_add (primsOk_add (primsOk_add (primsOk_none) (by kernel_rfl) (by kernel_rfl) pok19) (by kernel_rfl) (by kernel_rfl) pok16) (by kernel_rfl) (by kernel_rfl) pok9) (by kernel_rfl) (by kernel_rfl) pok10) (by kernel_rfl) (by kernel_rfl) pok15) (by kernel_rfl) (by kernel_rfl) pok14) (by kernel_rfl) (by kernel_rfl) pok7) (by kernel_rfl) (by kernel_rfl) pok8) (by kernel_rfl) (by kernel_rfl) pok5) (by kernel_rfl) (by kernel_rfl) pok17) (by kernel_rfl) (by kernel_rfl) pok18
theorem enL_19:En PPL 19 p19:=enter_prim (by rfl) (by kernel_rfl)
theorem enL_16:En PPL 16 p16:=enter_prim (by rfl) (by kernel_rfl)
theorem enL_9:En PPL 9 p9:=enter_prim (by rfl) (by kernel_rfl)
theorem enL_10:En PPL 10 p10:=enter_prim (by rfl) (by kernel_rfl)
theorem enL_15:En PPL 15 p15:=enter_prim (by rfl) (by kernel_rfl)
theorem enL_14:En PPL 14 p14:=enter_prim (by rfl) (by kernel_rfl)
theorem enL_7:En PPL 7 p7:=enter_prim (by rfl) (by kernel_rfl)
theorem enL_8:En PPL 8 p8:=enter_prim (by rfl) (by kernel_rfl)
theorem enL_5:En PPL 5 p5:=enter_prim (by rfl) (by kernel_rfl)
theorem enL_17:En PPL 17 p17:=enter_prim (by rfl) (by kernel_rfl)
theorem enL_18:En PPL 18 p18:=enter_prim (by rfl) (by kernel_rfl)
attribute [go_sem ↓] enL_19 enL_16 enL_9 enL_10 enL_15 enL_14 enL_7 enL_8 enL_5 enL_17 enL_18
noncomputable abbrev PL:Cfg:=NC.withPrims PPL
theorem ev_stepL {H:Heap} {b:Nat} {L:List Ev} (E:EvB H b L) (hl:L.length≤900) (hz:∀ z ∈ L,EvS z) {k:Nm} {vs:List Int} {ns:List Nm} (hn:ns.length≤maxRows) (hv:vs.length≤maxRows) (h0:acceptsL L (mkE L k vs ns)=0) :
 ∃ H',(∀ K,VO (aenter PL (R PL) 0 6 [.ptr b 0,.str k,.ps .unk (ints vs),.ps .unk (strs ns)] H) K=K (.bool true) H')∧EvB H' b (L++[mkE L k vs ns])∧H.n≤H'.n∧(∀ i c u,i < H.n→i ≠ b→H.get i=.cells c u→H'.get i=.cells c u):=ev_stepP (P:=PPL) enL_19 rfl E hl hz hn hv h0
end Go.Sim
