/-
Lemmas of one proof, the texts Fl3 to Fl3 joined.
-/
import Derived.Test.YtklnellnfbmokaaGreatT15
set_option linter.unusedSimpArgs false
set_option linter.unusedVariables false
open Nat (reduceEqDiff reduceAdd reduceMul reduceSub reduceLeDiff reduceLT)

namespace Go.Sim
open Go Go.Proofs
open Go.Sim.Pos (Nm Reg Ev Rst Msg Pst Rnd Off FF nf kUp flts regF)
set_option maxRecDepth 100000
set_option maxHeartbeats 8000000
theorem pe5 : p5 [] = some (.bool true) := rfl
attribute [go_sem] pe5
def ffL (x:Nat × Nat):FF:=((x.1:Int),((x.1+1+x.2 % 20:Nat):Int),((10+x.2 / 2:Nat):Int))
theorem ffl_good {x:Nat × Nat} (h:x.1≤255∧x.2≤255):goodFF (ffL x):=by
 obtain ⟨a,b⟩:=x
 obtain ⟨h1,h2⟩:=h
 simp only at h1 h2
 show 0≤(a:Int)∧(a:Int) < ((a+1+b % 20:Nat):Int)∧((a+1+b % 20:Nat):Int)≤100000000∧10≤((10+b / 2:Nat):Int)∧((10+b / 2:Nat):Int)≤400
 omega
def OB (H:Heap) (b:Nat) (ms:List Msg) (a:Int):Prop:=(b ≠ 0∧b ≠ 1)∧b < H.n ∧ ∃ t,(∀ n rows,(AV.ps t rows).under n=true)∧H.get b=.cells [.ps t (ms.map Pos.Msg.row),.int .i64 a] 31
def PB (H:Heap) (b:Nat) (f:List Rst) (a:Int):Prop:=(b ≠ 0∧b ≠ 1)∧b < H.n ∧ ∃ t,(∀ n rows,(AV.ps t rows).under n=true)∧H.get b=.cells [.int .i64 a,.ps t (f.map Pos.Rst.row)] 46
def N3 (H:Heap) (n0 n1 n2:Nat):Prop:=0 < H.n∧H.get 0=.cells [.int .u8 (n0:Int),.int .u8 (n1:Int),.int .u8 (n2:Int)] 64
theorem OB.keep {H H':Heap} {b:Nat} {ms:List Msg} {a:Int} (h:OB H b ms a) (hn:H.n≤H'.n) (hk:∀ c u,H.get b=.cells c u→H'.get b=.cells c u):OB H' b ms a:=by
 obtain ⟨h1,h2,t,hu,h3⟩:=h
 exact ⟨h1,by omega,t,hu,hk _ _ h3⟩
theorem PB.keep {H H':Heap} {b:Nat} {ms:List Rst} {a:Int} (h:PB H b ms a) (hn:H.n≤H'.n) (hk:∀ c u,H.get b=.cells c u→H'.get b=.cells c u):PB H' b ms a:=by
 obtain ⟨h1,h2,t,hu,h3⟩:=h
 exact ⟨h1,by omega,t,hu,hk _ _ h3⟩
theorem N3.keep {H H':Heap} {n0 n1 n2:Nat} (h:N3 H n0 n1 n2) (hn:H.n≤H'.n) (hk:∀ c u,H.get 0=.cells c u→H'.get 0=.cells c u):N3 H' n0 n1 n2:=⟨by have:=h.1;omega,hk _ _ h.2⟩
theorem new_get {H:Heap} {x y:ABlk} {b:Nat} (hb:b < H.n) {c:List AV} {u:TypeId} (h:H.get b=.cells c u):((H.push x).set H.n y).get b=.cells c u:=by
 rw [Heap.get_set,if_neg (by omega),Heap.get_push,if_neg (by omega)]
 exact h
theorem EvB.new {H:Heap} {b:Nat} {L:List Ev} (E:EvB H b L) (c:List AV) (u:TypeId) (y:ABlk):EvB ((H.push (.cells c u)).set H.n y) b L:=(E.push _).setN (i:=H.n) (by have:=E.1;omega) (by rw [Heap.get_push,if_pos rfl]) _
def S1 (l:List (Nat × Nat)) (T:TT AV):Prop:=getT T 0=.ps .unk (l.map byRow)∧getT T 3=.ptr 0 0∧getT T 5=.ptr 1 0
theorem text_l {k : Nat} (hk : k < 9) : p8 [.int .i64 ((k + 1 : Nat) : Int)] = some (.str [49 + k]) := by
 have := pe8 ((k + 1 : Nat) : Int) ⟨by omega, by omega⟩
 have e : (48 + ((k + 1 : Nat) : Int)).toNat = 49 + k := by omega
 rw [e] at this
 exact this
theorem take_ffl {l:List (Nat × Nat)} {k:Nat} {x:Nat × Nat} (h:l[k]? = some x):(l.map ffL).take (k+1)=(l.map ffL).take k++[ffL x]:=by
 rw [Pos.take_snoc (x:=ffL x) (by simp [h])]
theorem left_step {l:List (Nat × Nat)} {k m:Nat} {x:Nat × Nat} (h:l[k]? = some x) (hm:m≤k):((l.map ffL).take (k+1)).drop m=((l.map ffL).take k).drop m++[ffL x]:=by
 have hk:=(List.getElem?_eq_some_iff.1 h).1
 rw [take_ffl h,List.drop_append,List.length_take,List.length_map]
 have e:m - min k l.length=0:=by omega
 rw [e,List.drop_zero]
theorem c4 (l : List (Nat × Nat)) (n0 n1 n2 : Nat) (hlm : l.length ≤ 9223372036854775807) (hz : ∀ z ∈ l, z.1 ≤ 255 ∧ z.2 ≤ 255) (h0 : n0 ≤ 255) (h1 : n1 ≤ 255) (h2 : n2 ≤ 255) : ∀ lo H, CallOk NC lo 4 [.ps .unk (l.map byRow), .agg [.int .u8 (n0 : Int), .int .u8 (n1 : Int), .int .u8 (n2 : Int)]] H (.bool true) H := by
 refine contract saneNC primsL (fn := Tryz.f4) (by kernel_rfl) Tryz.func4 rfl rfl (by rfl) (by rfl) ?_
 by_cases c1 : l.length < 1
 · have d1 : ((l.length : Int) < 1) = True := eq_true (by omega)
   simp (config := { maxDischargeDepth := 12 }) only [go_sem, reduceIte, reduceEqDiff, reduceAdd, reduceMul, reduceSub, reduceLeDiff, reduceLT, Nat.reduceBEq, reduceCtorEq, d1]
 have d1 : ((l.length : Int) < 1) = False := eq_false (by omega)
 by_cases c2 : 5 < l.length
 · have d2 : ((5 : Int) < (l.length : Int)) = True := eq_true (by omega)
   simp (config := { maxDischargeDepth := 12 }) only [go_sem, reduceIte, reduceEqDiff, reduceAdd, reduceMul, reduceSub, reduceLeDiff, reduceLT, Nat.reduceBEq, reduceCtorEq, d1, d2]
 have d2 : ((5 : Int) < (l.length : Int)) = False := eq_false (by omega)
 have hln : l.length ≤ 5 := by omega
 rw [W_assoc, W_assoc]
 refine W_cut (fun T H M => M = [] ∧ S1 l T ∧ EvB H 1 [] ∧ N3 H n0 n1 n2) ?_ ?_
 · simp (config := { maxDischargeDepth := 12 }) only [go_sem, reduceIte, reduceEqDiff, reduceAdd, reduceMul, reduceSub, reduceLeDiff, reduceLT, Nat.reduceBEq, reduceCtorEq, S1, d1, d2]
   exact ⟨⟨by simp, .nil, by rw [Heap.get_push]; rfl, .inl ⟨rfl, rfl⟩⟩, by simp, rfl⟩
 rintro T H M ⟨rfl, ⟨g0, g3, g5⟩, E, N⟩
 obtain ⟨J1, J2⟩ := l_track
 obtain ⟨H1, e1, E1, m1, k1⟩ := ev_stepL E (by decide) xs1 (by decide) (by decide) J1
 simp only [Pos.kTrack, ints, strs, List.map_cons, List.map_nil, i64, kUp] at e1
 refine W_cut (fun T H M => M = [] ∧ S1 l T ∧ EvB H 1 ([] ++ [mkE [] Pos.kTrack [0, 400] [kUp]]) ∧ N3 H n0 n1 n2) ?_ ?_
 · simp (config := { maxDischargeDepth := 12 }) only [go_sem, reduceIte, reduceEqDiff, reduceAdd, reduceMul, reduceSub, reduceLeDiff, reduceLT, Nat.reduceBEq, reduceCtorEq, S1, g0, g3, g5, e1]
   exact ⟨E1, N.keep m1 fun c u h => k1 _ _ _ N.1 (by decide) h⟩
 clear E E1 e1 m1 k1 g0 g3 g5 J1 N
 rintro T H M ⟨rfl, ⟨g0, g3, g5⟩, E, N⟩
 have hE0 := E.1
 refine W_cut (fun T H M => M = [] ∧ S1 l T ∧ EvB H 1 ([] ++ [mkE [] Pos.kTrack [0, 400] [kUp]]) ∧ N3 H n0 n1 n2 ∧ ∃ b, getT T 6 = .ptr b 0 ∧ OB H b [] 0) ?_ ?_
 · simp (config := { maxDischargeDepth := 12 }) only [go_sem, reduceIte, reduceEqDiff, reduceAdd, reduceMul, reduceSub, reduceLeDiff, reduceLT, Nat.reduceBEq, reduceCtorEq, S1, g0, g3, g5]
   refine ⟨E.new _ _ _, N.keep (by simp) fun c u h => new_get N.1 h, H.n, rfl, ⟨by omega, by omega⟩, by simp, .nil, fun _ _ => rfl, ?_⟩
   rw [Heap.get_set, if_pos rfl]; rfl
 clear E g0 g3 g5 hE0 N
 rintro T H M ⟨rfl, ⟨g0, g3, g5⟩, E, N, b6, g6, O⟩
 have hgd : ∀ x ∈ l.map ffL, goodFF x := fun x hx => by
  obtain ⟨y, hy, rfl⟩ := List.mem_map.1 hx
  exact ffl_good (hz y hy)
 have hfl : (l.map ffL).length = l.length := List.length_map ..
 have hff := pe7 l ⟨by unfold maxRows; omega, hz⟩
 refine W_cut (fun T H M => M = [] ∧ S1 l T ∧ getT T 6 = .ptr b6 0 ∧ OB H b6 (msgsF 0 (l.map ffL)) 0 ∧ N3 H n0 n1 n2 ∧ ∃ L tk, JG L 12 (regW tk 0 (l.map ffL) []) ∧ tk ≤ 5 ∧ EvB H 1 L) ?_ ?_
 · simp (config := { maxDischargeDepth := 12 }) only [go_sem, reduceIte, reduceEqDiff, reduceAdd, reduceMul, reduceSub, reduceLeDiff, reduceLT, Nat.reduceBEq, reduceCtorEq, g0, hff]
   refine W_for (fun k T H M => M = [] ∧ S1 l T ∧ getT T 6 = .ptr b6 0 ∧ getT T 53 = .ps .unk (l.map fkRow) ∧ getT T 54 = i64 (l.length : Nat) ∧ getT T 55 = i64 k ∧ OB H b6 (msgsF 0 ((l.map ffL).take k)) 0 ∧ N3 H n0 n1 n2 ∧ ∃ L tk, JG L (1 + 2 * k) (regF tk k ((l.map ffL).take k)) ∧ tk ≤ (k : Int) ∧ EvB H 1 L) l.length ?_ ?_ ?_
   · simp (config := { maxDischargeDepth := 12 }) only [go_sem, reduceIte, reduceEqDiff, reduceAdd, reduceMul, reduceSub, reduceLeDiff, reduceLT, Nat.reduceBEq, reduceCtorEq, S1, g0, g3, g5, g6]
     exact ⟨O, N, _, 0, J2, Int.le_refl _, E⟩
   · clear E O g0 g3 g5 g6 N J2
     rintro k T H M hk ⟨rfl, ⟨g0, g3, g5⟩, g6, g53, g54, g55, O, N, L, tk, J, htk, E⟩
     obtain ⟨x, hx⟩ : ∃ x, l[k]? = some x := ⟨l[k], by simp⟩
     have hr : (l.map fkRow)[k]? = some (fkRow x) := map_at hx
     have hw := wrap_succ hk (show l.length ≤ maxRows by unfold maxRows; omega)
     have hT := text_l (k := k) (by omega)
     have hxg := ffl_good (hz x (List.mem_of_getElem? hx))
     have htl : ((l.map ffL).take k).length = k := by rw [List.length_take]; omega
     have hgt : ∀ y ∈ (l.map ffL).take k, goodFF y := fun y hy => hgd y (List.mem_of_mem_take hy)
     have himp := pe9 (msgsF 0 ((l.map ffL).take k)) 0 ⟨nf k, (ffL x).1, (ffL x).2.1, (ffL x).2.2⟩ (by rw [msgsF_len, htl]; unfold maxRows; omega)
     have hiF := imp_F (l := (l.map ffL).take k) (by omega) hgt hxg
     rw [htl] at hiF
     rw [hiF] at himp
     have hsn := take_ffl hx
     rw [← hsn] at himp
     have hnf := nf_small k (by omega)
     rw [W_assoc]
     refine W_cut (fun T' H' M' => M' = [] ∧ H = H' ∧ S1 l T' ∧ getT T' 6 = .ptr b6 0 ∧ getT T' 53 = .ps .unk (l.map fkRow) ∧ getT T' 54 = i64 (l.length : Nat) ∧ getT T' 55 = i64 k) ?_ ?_
     · simp (config := { maxDischargeDepth := 12 }) only [go_sem, reduceIte, reduceEqDiff, reduceAdd, reduceMul, reduceSub, reduceLeDiff, reduceLT, Nat.reduceBEq, reduceCtorEq, S1, g0, g3, g5, g6, g53, g54, g55, hk]
     clear g0 g3 g5 g6 g53 g54 g55
     rintro T H' M ⟨rfl, rfl, ⟨g0, g3, g5⟩, g6, g53, g54, g55⟩
     refine W_cut (fun T H M => M = [] ∧ S1 l T ∧ getT T 6 = .ptr b6 0 ∧ getT T 53 = .ps .unk (l.map fkRow) ∧ getT T 54 = i64 (l.length : Nat) ∧ getT T 55 = i64 k ∧ OB H b6 (msgsF 0 ((l.map ffL).take (k + 1))) 0 ∧ N3 H n0 n1 n2 ∧ ∃ L tk, JG L (1 + 2 * (k + 1)) (regF tk (k + 1) ((l.map ffL).take (k + 1))) ∧ tk ≤ ((k + 1 : Nat) : Int) ∧ EvB H 1 L) ?_ ?_
     · rw [W_block, W_assoc, W_assoc]
       refine W_cut (fun T H M => M = [] ∧ S1 l T ∧ getT T 6 = .ptr b6 0 ∧ getT T 53 = .ps .unk (l.map fkRow) ∧ getT T 54 = i64 (l.length : Nat) ∧ getT T 55 = i64 k ∧ OB H b6 (msgsF 0 ((l.map ffL).take k)) 0 ∧ N3 H n0 n1 n2 ∧ EvB H 1 L ∧ getT T 7 = i64 k ∧ getT T 9 = .str [102, 49 + k] ∧ getT T 11 = .int .i64 0 ∧ ∃ u v, getT T 8 = .ptr u 0 ∧ getT T 10 = .ptr v 0 ∧ u ≠ 1 ∧ v ≠ 1 ∧ u ≠ b6 ∧ v ≠ b6 ∧ u < H.n ∧ v < H.n ∧ H.get u = .cells (fkRow x) 37 ∧ H.get v = .cells [.ps .unk ((msgsF 0 ((l.map ffL).take (k + 1))).map Pos.Msg.row), .int .i64 0] 31) ?_ ?_
       · have O' := O
         obtain ⟨o1, o2, t, ou, o3⟩ := O
         have q1 : (b6 = H.n) = False := eq_false (by omega)
         have q2 : (b6 = H.n + 1) = False := eq_false (by omega)
         have hE0 := E.1
         have hN0 := N.1
         simp only [fkRow] at hr
         rw [hnf] at himp
         simp only [Pos.Rst.row, ffL, i64] at himp
         simp (config := { maxDischargeDepth := 12 }) only [go_sem, reduceIte, reduceEqDiff, reduceAdd, reduceMul, reduceSub, reduceLeDiff, reduceLT, Nat.reduceBEq, reduceCtorEq, S1, g0, g3, g5, g6, g53, g54, g55, hk, hr, hw, hT, o3, q1, q2, himp]
         refine ⟨O'.keep (by simp; omega) fun c u h => ?_, N.keep (by simp; omega) fun c u h => ?_, (((E.push _).setN (i := H.n) (by omega) (by rw [Heap.get_push, if_pos rfl]) _).push _).setN (i := H.n + 1) (by omega) (by rw [Heap.get_push, if_pos (by simp)]) _, H.n, H.n + 1, rfl, rfl, by omega, by omega, by omega, by omega, by omega, by omega, ?_, ?_⟩
         · rw [Heap.get_set, if_neg (by omega), Heap.get_push, if_neg (by simp; omega), Heap.get_set, if_neg (by omega), Heap.get_push, if_neg (by omega)]
           exact h
         · rw [Heap.get_set, if_neg (by omega), Heap.get_push, if_neg (by simp), Heap.get_set, if_neg (by omega), Heap.get_push, if_neg (by omega)]
           exact h
         · rw [if_neg (by omega)]
           simp [fkRow]
         · rw [if_pos rfl]
       · rintro T H M ⟨rfl, ⟨g0, g3, g5⟩, g6, g53, g54, g55, O, N, E, g7, g9, g11, u, v, g8, g10, hu, hv, hub, hvb, hun, hvn, hgu, hgv⟩
         have J0 : JG L (1 + 2 * k) (regF tk ((l.map ffL).take k).length ((l.map ffL).take k)) := by rw [htl]; exact J
         obtain ⟨K1, K2⟩ := l_fault (x := ffL x) (tk' := (k : Int)) J0 (by omega) htk (by omega) (by omega) hxg (by omega)
         rw [htl] at K1 K2
         rw [← hsn] at K2
         obtain ⟨K3, K4⟩ := l_answer K2 (by omega) (by omega) (by omega) (by rw [List.length_take]; omega) (by rw [List.length_take]; omega)
         obtain ⟨H1, e1, E1, m1, k1⟩ := ev_stepL E (by have := J.len; omega) J.small (by simp [maxRows]) (by simp [maxRows]) K1
         obtain ⟨H2, e2, E2, m2, k2⟩ := ev_stepL E1 (by have := K2.len; omega) K2.small (by simp [maxRows]) (by simp [maxRows]) K3
         have kk : ∀ i c u, i < H.n → i ≠ 1 → H.get i = .cells c u → H2.get i = .cells c u := fun i c u a b c => k2 _ _ _ (by omega) b (k1 _ _ _ a b c)
         obtain ⟨o1, o2, t, ou, o3⟩ := O
         have hg1 := k1 _ _ _ hun hu hgu
         have hg2 := kk _ _ _ hvn hv hgv
         have hg3 := kk _ _ _ o2 o1.2 o3
         rw [hnf] at e1 e2
         simp only [Pos.kFault, Pos.kAnswer, ints, strs, List.map_cons, List.map_nil, i64, kUp, ffL] at e1 e2
         simp only [fkRow] at hgu hg1
         have q1 : (u = b6) = False := eq_false hub
         have q2 : (v = b6) = False := eq_false hvb
         simp (config := { maxDischargeDepth := 12 }) only [go_sem, reduceIte, reduceEqDiff, reduceAdd, reduceMul, reduceSub, reduceLeDiff, reduceLT, Nat.reduceBEq, reduceCtorEq, S1, g0, g3, g5, g6, g7, g8, g9, g10, g11, g53, g54, g55, hgu, e1, e2, hg1, hg2, hg3, q1, q2]
         refine ⟨⟨o1, by simp; omega, .unk, fun _ _ => rfl, ?_⟩, N.keep (by simp; omega) fun c u h => ?_, _, (k : Int), K4, by omega, E2.setN o1.2 hg3 _⟩
         · rw [Heap.get_set, if_pos rfl]
         · rw [Heap.get_set, if_neg (fun e => o1.1 e.symm)]
           exact kk _ _ _ N.1 (by decide) h
     · rintro T H M ⟨rfl, ⟨g0, g3, g5⟩, g6, g53, g54, g55, O, N, L, tk, J, htk, E⟩
       simp (config := { maxDischargeDepth := 12 }) only [go_sem, reduceIte, reduceEqDiff, reduceAdd, reduceMul, reduceSub, reduceLeDiff, reduceLT, Nat.reduceBEq, reduceCtorEq, S1, g0, g3, g5, g6, g53, g54, g55, hw]
       exact ⟨O, N, L, tk, J, htk, E⟩
   · rintro T H M ⟨rfl, ⟨g0, g3, g5⟩, g6, g53, g54, g55, O, N, L, tk, J, htk, E⟩
     rw [List.take_of_length_le (by omega)] at O J
     rw [← hfl, regF_W] at J
     simp (config := { maxDischargeDepth := 12 }) only [go_sem, reduceIte, reduceEqDiff, reduceAdd, reduceMul, reduceSub, reduceLeDiff, reduceLT, Nat.reduceBEq, reduceCtorEq, S1, g0, g3, g5, g6, g53, g54, g55, Nat.lt_irrefl]
     refine ⟨O, N, L, tk, ⟨J.rep, J.reg, J.small, ?_⟩, by omega, E⟩
     have := J.len
     omega
 clear g0 g3 g5 g6 O E J2 hff N
 rintro T H M ⟨rfl, ⟨g0, g3, g5⟩, g6, O, N, L, tk, J, htk, E⟩
 obtain ⟨a, h, -, -, hex, hwh⟩ := exch_F (l := l.map ffL) (by omega) hgd (a := 0) (h := 0) (Nat.le_refl _) (Nat.zero_le _) (rs := [⟨[], false⟩]) (by decide)
 obtain ⟨rfl, rfl⟩ := hwh rfl
 have hx := pe10 (msgsF 0 (l.map ffL)) 0 0 [] [⟨[], false⟩] ⟨by rw [msgsF_len]; unfold maxRows; omega, by decide, by decide, by decide⟩
 have hex' : exV (msgsF 0 (l.map ffL)) 0 0 [] [⟨[], false⟩] = _ := hex
 rw [hex', List.take_of_length_le (Nat.le_refl _), hfl] at hx
 clear hex hex' hwh
 refine W_cut (fun T H M => M = [] ∧ S1 l T ∧ getT T 6 = .ptr b6 0 ∧ getT T 13 = .int .i64 0 ∧ OB H b6 (msgsF 0 (l.map ffL)) (l.length : Nat) ∧ N3 H n0 n1 n2 ∧ EvB H 1 L ∧ ∃ b, getT T 12 = .ptr b 0 ∧ b ≠ b6 ∧ PB H b (rstsF 0 (l.map ffL)) (l.length : Nat)) ?_ ?_
 · have O' := O
   obtain ⟨o1, o2, t, ou, o3⟩ := O
   have q1 : (b6 = H.n) = False := eq_false (by omega)
   have q2 : (H.n = b6) = False := eq_false (by omega)
   have hE0 := E.1
   have hN0 := N.1
   simp only [List.map_nil, List.map_cons, Pos.Rnd.row, ints, i64] at hx
   simp (config := { maxDischargeDepth := 12 }) only [go_sem, reduceIte, reduceEqDiff, reduceAdd, reduceMul, reduceSub, reduceLeDiff, reduceLT, Nat.reduceBEq, reduceCtorEq, S1, g0, g3, g5, g6, o3, hx, q1, q2]
   refine ⟨⟨o1, by simp; omega, .unk, fun _ _ => rfl, ?_⟩, N.keep (by simp) fun c u h => ?_, ?_, H.n, rfl, by omega, ⟨by omega, by omega⟩, by simp, .unk, fun _ _ => rfl, ?_⟩
   · rw [Heap.get_set, if_neg (by omega), Heap.get_set, if_pos rfl]
   · rw [Heap.get_set, if_neg (by omega), Heap.get_set, if_neg (fun e => o1.1 e.symm), Heap.get_push, if_neg (by omega)]; exact h
   · exact ((E.push _).setN (i := b6) o1.2 (by rw [Heap.get_push, if_neg (by omega)]; exact o3) _).setN (i := H.n) (by omega) (by rw [Heap.get_set, if_neg (by omega), Heap.get_push, if_pos rfl]) _
   · rw [Heap.get_set, if_pos rfl]
 clear g0 g3 g5 g6 O N E hx
 rintro T H M ⟨rfl, ⟨g0, g3, g5⟩, g6, g13, O, N, E, b12, g12, hb, P⟩
 have hb' : (b12 = b6) = False := eq_false hb
 have hb2 : (b6 = b12) = False := eq_false (Ne.symm hb)
 have hmn : ∃ mn : Nat, mn = n0 % l.length + 1 := ⟨_, rfl⟩
 obtain ⟨mn, hmn⟩ := hmn
 have hmn1 : 1 ≤ mn ∧ mn ≤ l.length := by
  have := Nat.mod_lt n0 (show 0 < l.length by omega)
  omega
 refine W_cut (fun T' H' M => M = [] ∧ H = H' ∧ S1 l T' ∧ getT T' 6 = .ptr b6 0 ∧ getT T' 12 = .ptr b12 0 ∧ getT T' 13 = .int .i64 0 ∧ getT T' 14 = i64 (mn : Nat)) ?_ ?_
 · have cv := cv_u8 h0
   have r1 : sbin .rem 3 (.int .i64 (n0 : Int)) (.int .i64 (l.length : Int)) = some (.int .i64 ((n0 % l.length : Nat) : Int)) := sbin_rem (by omega)
   have w1 : wrapq .i64 (Int.add 1 ((n0 % l.length : Nat) : Int)) = (mn : Int) := by
    have e : Int.add 1 ((n0 % l.length : Nat) : Int) = ((mn : Nat) : Int) := by show 1 + ((n0 % l.length : Nat) : Int) = _; omega
    rw [e]; exact wrap_nat (by omega)
   have hN := N.2
   simp (config := { maxDischargeDepth := 12 }) only [go_sem, reduceIte, reduceEqDiff, reduceAdd, reduceMul, reduceSub, reduceLeDiff, reduceLT, Nat.reduceBEq, reduceCtorEq, S1, g0, g3, g5, g6, g12, g13, hN, cv, r1, w1]
 clear g0 g3 g5 g6 g12 g13
 rintro T H' M ⟨rfl, rfl, ⟨g0, g3, g5⟩, g6, g12, g13, g14⟩
 have hn0 := J.len
 obtain ⟨K1, J1⟩ := l_take J (by omega) (by omega)
 obtain ⟨K2, J2⟩ := l_prot J1 (by omega)
 obtain ⟨K3, J3⟩ := l_staff J2 (by omega)
 have K4 := l_held J3 (by omega)
 obtain ⟨H1, e1, E1, m1, k1⟩ := ev_stepL E (by omega) J.small (by simp [maxRows]) (by simp [maxRows]) K1
 obtain ⟨H2, e2, E2, m2, k2⟩ := ev_stepL E1 (by have := J1.len; omega) J1.small (by simp [maxRows]) (by simp [maxRows]) K2
 obtain ⟨H3, e3, E3, m3, k3⟩ := ev_stepL E2 (by have := J2.len; omega) J2.small (by simp [maxRows]) (by simp [maxRows]) K3
 have kk : ∀ i c u, i < H.n → i ≠ 1 → H.get i = .cells c u → H3.get i = .cells c u := fun i c u a b d => k3 _ _ _ (by omega) b (k2 _ _ _ (by omega) b (k1 _ _ _ a b d))
 have mm : H.n ≤ H3.n := by omega
 have O3 := O.keep mm fun c u h => kk _ _ _ O.2.1 O.1.2 h
 have P3 := P.keep mm fun c u h => kk _ _ _ P.2.1 P.1.2 h
 have N3' := N.keep mm fun c u h => kk _ _ _ N.1 (by decide) h
 refine W_cut (fun T H M => M = [] ∧ S1 l T ∧ getT T 6 = .ptr b6 0 ∧ getT T 12 = .ptr b12 0 ∧ getT T 14 = i64 (mn : Nat) ∧ OB H b6 (msgsF 0 (l.map ffL)) (l.length : Nat) ∧ PB H b12 (rstsF 0 (l.map ffL)) (l.length : Nat) ∧ N3 H n0 n1 n2 ∧ ∃ L, JG L 15 (regW 7 0 (l.map ffL) [pq false true false 0 4 0]) ∧ EvB H 1 L) ?_ ?_
 · obtain ⟨p1, p2, t', pu, p3⟩ := P
   obtain ⟨t3, ge, -⟩ := E3.get
   have pa := pe14 _ Pos.kEnter [7, 1] [kT, kUp] ⟨by have := J3.len; omega, J3.small, by simp [maxRows], by simp [maxRows]⟩
   have K4' : acceptsL _ ⟨_, Pos.kEnter, [kT, kUp], [7, 1], []⟩ = 31 := K4
   rw [K4'] at pa
   generalize List.map Pos.Ev.row _ = R3 at pa ge
   simp only [Pos.kTake, Pos.kProtect, Pos.kStaff, Pos.kEnter, kT, kUp, kP, ints, strs, List.map_cons, List.map_nil, i64] at e1 e2 e3 pa
   simp (config := { maxDischargeDepth := 12 }) only [go_sem, reduceIte, reduceEqDiff, reduceAdd, reduceMul, reduceSub, reduceLeDiff, reduceLT, Nat.reduceBEq, reduceCtorEq, S1, g0, g3, g5, g6, g12, g13, g14, p3, e1, e2, e3, ge, pa]
   exact ⟨O3, P3, N3', _, J3, E3⟩
 clear g0 g3 g5 g6 g12 g13 g14 e1 e2 e3 E1 E2 E3 k1 k2 k3 kk O P N E J J1 J2 J3 K1 K2 K3 K4 O3 P3 N3' m1 m2 m3 mm hn0 htk
 clear L tk H1 H2 H3
 rintro T H M ⟨rfl, ⟨g0, g3, g5⟩, g6, g12, g14, O, P, N, L, J, E⟩
 refine W_cut (fun T' H' M => M = [] ∧ H = H' ∧ S1 l T' ∧ getT T' 6 = .ptr b6 0 ∧ getT T' 12 = .ptr b12 0 ∧ getT T' 14 = i64 (mn : Nat) ∧ getT T' 15 = .int .i64 400) ?_ ?_
 · simp (config := { maxDischargeDepth := 12 }) only [go_sem, reduceIte, reduceEqDiff, reduceAdd, reduceMul, reduceSub, reduceLeDiff, reduceLT, Nat.reduceBEq, reduceCtorEq, S1, g0, g3, g5, g6, g12, g14]
 clear g0 g3 g5 g6 g12 g14
 rintro T H' M ⟨rfl, rfl, ⟨g0, g3, g5⟩, g6, g12, g14, g15⟩
 have hff := pe7 l ⟨by unfold maxRows; omega, hz⟩
 refine W_cut (fun T H M => M = [] ∧ S1 l T ∧ getT T 6 = .ptr b6 0 ∧ getT T 12 = .ptr b12 0 ∧ getT T 14 = i64 (mn : Nat) ∧ getT T 15 = .int .i64 (leastF ((l.map ffL).drop mn)) ∧ OB H b6 (mwF (l.map ffL) mn) (l.length : Nat) ∧ PB H b12 (rstsF 0 (l.map ffL)) (l.length : Nat) ∧ N3 H n0 n1 n2 ∧ ∃ L, JG L 20 (regW 8 mn (l.map ffL) [pq false true false 0 4 0]) ∧ EvB H 1 L) ?_ ?_
 · simp (config := { maxDischargeDepth := 12 }) only [go_sem, reduceIte, reduceEqDiff, reduceAdd, reduceMul, reduceSub, reduceLeDiff, reduceLT, Nat.reduceBEq, reduceCtorEq, g0, hff]
   refine W_for (fun k T H M => M = [] ∧ S1 l T ∧ getT T 6 = .ptr b6 0 ∧ getT T 12 = .ptr b12 0 ∧ getT T 14 = i64 (mn : Nat) ∧ getT T 15 = .int .i64 (leastF (((l.map ffL).take k).drop mn)) ∧ getT T 154 = .ps .unk (l.map fkRow) ∧ getT T 155 = i64 (l.length : Nat) ∧ getT T 156 = i64 k ∧ OB H b6 (mwF (l.map ffL) (min k mn)) (l.length : Nat) ∧ PB H b12 (rstsF 0 (l.map ffL)) (l.length : Nat) ∧ N3 H n0 n1 n2 ∧ ∃ L tk, JG L (15 + k) (regW tk (min k mn) (l.map ffL) [pq false true false 0 4 0]) ∧ tk ≤ 8 ∧ (1 ≤ k → tk = 8) ∧ EvB H 1 L) l.length ?_ ?_ ?_
   · have e0 : min 0 mn = 0 := by omega
     rw [e0, mwF_0]
     simp (config := { maxDischargeDepth := 12 }) only [go_sem, reduceIte, reduceEqDiff, reduceAdd, reduceMul, reduceSub, reduceLeDiff, reduceLT, Nat.reduceBEq, reduceCtorEq, S1, g0, g3, g5, g6, g12, g14, g15]
     refine ⟨rfl, O, P, N, L, 7, J, by decide, fun h => absurd h (by decide), E⟩
   · clear g0 g3 g5 g6 g12 g14 g15 O P N E J
     clear L
     rintro k T H M hk ⟨rfl, ⟨g0, g3, g5⟩, g6, g12, g14, g15, g154, g155, g156, O, P, N, L, tk, J, htk, htk1, E⟩
     obtain ⟨x, hx⟩ : ∃ x, l[k]? = some x := ⟨l[k], by simp⟩
     have hr : (l.map fkRow)[k]? = some (fkRow x) := map_at hx
     have hw := wrap_succ hk (show l.length ≤ maxRows by unfold maxRows; omega)
     have hT := text_l (k := k) (by omega)
     obtain ⟨y1, y2⟩ := hz x (List.mem_of_getElem? hx)
     have hnf := nf_small k (by omega)
     have hE0 := E.1
     have hN0 := N.1
     have hn0 := J.len
     simp only [fkRow] at hr
     by_cases c : mn ≤ k
     · have e1 : min k mn = mn := by omega
       have e2 : min (k + 1) mn = mn := by omega
       rw [e1] at O J
       rw [e2]
       have d : ((k : Int) < (mn : Int)) = False := eq_false (by omega)
       have hle := least_snoc (((l.map ffL).take k).drop mn) (ffL x)
       rw [← left_step hx c] at hle
       have hle' : minI (leastF (((l.map ffL).take k).drop mn)) ((10 + x.2 / 2 : Nat) : Int) = leastF (((l.map ffL).take (k + 1)).drop mn) := hle.symm
       simp (config := { maxDischargeDepth := 12 }) only [go_sem, reduceIte, reduceEqDiff, reduceAdd, reduceMul, reduceSub, reduceLeDiff, reduceLT, Nat.reduceBEq, reduceCtorEq, S1, g0, g3, g5, g6, g12, g14, g15, g154, g155, g156, hk, hr, hw, d, hle']
       exact ⟨O.keep (by simp) fun c u h => new_get O.2.1 h, P.keep (by simp) fun c u h => new_get P.2.1 h, N.keep (by simp) fun c u h => new_get N.1 h, L, tk, ⟨J.rep, J.reg, J.small, by omega⟩, htk, fun _ => htk1 (by omega), E.new _ _ _⟩
     · have e1 : min k mn = k := by omega
       have e2 : min (k + 1) mn = k + 1 := by omega
       rw [e1] at O J
       rw [e2]
       have d : ((k : Int) < (mn : Int)) = True := eq_true (by omega)
       have hdr : ((l.map ffL).take (k + 1)).drop mn = [] := List.drop_eq_nil_of_le (by rw [List.length_take]; omega)
       have hdr0 : ((l.map ffL).take k).drop mn = [] := List.drop_eq_nil_of_le (by rw [List.length_take]; omega)
       rw [hdr0] at g15
       rw [hdr]
       have hxf : (l.map ffL)[k]? = some (ffL x) := map_at hx
       have hwd := pe17 (mwF (l.map ffL) k) (l.length : Nat) (nf k) (by rw [mwF_len]; unfold maxRows; omega)
       have hwF := wd_F (fs := l.map ffL) (by omega) hgd (k := k) (by omega) (a := l.length) (by omega)
       rw [hwF, hnf] at hwd
       rw [W_assoc]
       refine W_cut (fun T' H' M' => M' = [] ∧ H = H' ∧ S1 l T' ∧ getT T' 6 = .ptr b6 0 ∧ getT T' 12 = .ptr b12 0 ∧ getT T' 14 = i64 (mn : Nat) ∧ getT T' 15 = .int .i64 (leastF []) ∧ getT T' 154 = .ps .unk (l.map fkRow) ∧ getT T' 155 = i64 (l.length : Nat) ∧ getT T' 156 = i64 k) ?_ ?_
       · simp (config := { maxDischargeDepth := 12 }) only [go_sem, reduceIte, reduceEqDiff, reduceAdd, reduceMul, reduceSub, reduceLeDiff, reduceLT, Nat.reduceBEq, reduceCtorEq, S1, g0, g3, g5, g6, g12, g14, g15, g154, g155, g156, hk]
       clear g0 g3 g5 g6 g12 g14 g15 g154 g155 g156
       rintro T H' M ⟨rfl, rfl, ⟨g0, g3, g5⟩, g6, g12, g14, g15, g154, g155, g156⟩
       refine W_cut (fun T H M => M = [] ∧ S1 l T ∧ getT T 6 = .ptr b6 0 ∧ getT T 12 = .ptr b12 0 ∧ getT T 14 = i64 (mn : Nat) ∧ getT T 15 = .int .i64 (leastF []) ∧ getT T 154 = .ps .unk (l.map fkRow) ∧ getT T 155 = i64 (l.length : Nat) ∧ getT T 156 = i64 k ∧ OB H b6 (mwF (l.map ffL) (k + 1)) (l.length : Nat) ∧ PB H b12 (rstsF 0 (l.map ffL)) (l.length : Nat) ∧ N3 H n0 n1 n2 ∧ ∃ L, JG L (15 + (k + 1)) (regW 8 (k + 1) (l.map ffL) [pq false true false 0 4 0]) ∧ EvB H 1 L) ?_ ?_
       · rw [W_block, W_assoc, W_assoc, W_assoc]
         refine W_cut (fun T H M => M = [] ∧ S1 l T ∧ getT T 6 = .ptr b6 0 ∧ getT T 12 = .ptr b12 0 ∧ getT T 14 = i64 (mn : Nat) ∧ getT T 15 = .int .i64 (leastF []) ∧ getT T 154 = .ps .unk (l.map fkRow) ∧ getT T 155 = i64 (l.length : Nat) ∧ getT T 156 = i64 k ∧ OB H b6 (mwF (l.map ffL) k) (l.length : Nat) ∧ PB H b12 (rstsF 0 (l.map ffL)) (l.length : Nat) ∧ N3 H n0 n1 n2 ∧ EvB H 1 L ∧ getT T 18 = .str [102, 49 + k] ∧ getT T 20 = .int .i64 0 ∧ ∃ v, getT T 19 = .ptr v 0 ∧ v ≠ 1 ∧ v ≠ b6 ∧ v < H.n ∧ H.get v = .cells [.ps .unk ((mwF (l.map ffL) (k + 1)).map Pos.Msg.row), .int .i64 (l.length : Int)] 31) ?_ ?_
         · have O' := O
           have P' := P
           obtain ⟨o1, o2, t, ou, o3⟩ := O
           obtain ⟨p1, p2, -⟩ := P
           have q1 : (b6 = H.n) = False := eq_false (by omega)
           have q2 : (b6 = H.n + 1) = False := eq_false (by omega)
           simp (config := { maxDischargeDepth := 12 }) only [go_sem, reduceIte, reduceEqDiff, reduceAdd, reduceMul, reduceSub, reduceLeDiff, reduceLT, Nat.reduceBEq, reduceCtorEq, S1, g0, g3, g5, g6, g12, g14, g15, g154, g155, g156, hk, hr, hw, hT, d, o3, q1, q2, hwd]
           have two : ∀ i c u (x1 y1 x2 y2 : ABlk), i < H.n → H.get i = .cells c u → ((((H.push x1).set H.n y1).push x2).set (H.n + 1) y2).get i = .cells c u := fun i c u x1 y1 x2 y2 hi h => by
            rw [Heap.get_set, if_neg (by omega), Heap.get_push, if_neg (by simp; omega), Heap.get_set, if_neg (by omega), Heap.get_push, if_neg (by omega)]
            exact h
           refine ⟨O'.keep (by simp; omega) fun c u h => two _ _ _ _ _ _ _ o2 h, P'.keep (by simp; omega) fun c u h => two _ _ _ _ _ _ _ p2 h, N.keep (by simp; omega) fun c u h => two _ _ _ _ _ _ _ N.1 h, (((E.push _).setN (i := H.n) (by omega) (by rw [Heap.get_push, if_pos rfl]) _).push _).setN (i := H.n + 1) (by omega) (by rw [Heap.get_push, if_pos (by simp)]) _, H.n + 1, rfl, by omega, by omega, by omega, ?_⟩
           rw [if_pos rfl]
         · rintro T H M ⟨rfl, ⟨g0, g3, g5⟩, g6, g12, g14, g15, g154, g155, g156, O, P, N, E, g18, g20, v, g19, hv, hvb, hvn, hgv⟩
           obtain ⟨K1, K2⟩ := l_repair J (by omega) htk hxf (by omega) (by omega) (by show (0 : Int) ≤ (x.1 : Int); omega) (by show ((x.1 + 1 + x.2 % 20 : Nat) : Int) ≤ 300; omega)
           obtain ⟨H1, e1, E1, m1, k1⟩ := ev_stepL E (by omega) J.small (by simp [maxRows]) (by simp [maxRows]) K1
           obtain ⟨o1, o2, t, ou, o3⟩ := O
           have hg2 := k1 _ _ _ hvn hv hgv
           have hg3 := k1 _ _ _ o2 o1.2 o3
           rw [hnf] at e1
           simp only [Pos.kRepair, kP, ints, strs, List.map_cons, List.map_nil, i64] at e1
           simp (config := { maxDischargeDepth := 12 }) only [go_sem, reduceIte, reduceEqDiff, reduceAdd, reduceMul, reduceSub, reduceLeDiff, reduceLT, Nat.reduceBEq, reduceCtorEq, S1, g0, g3, g5, g6, g12, g14, g15, g18, g19, g20, g154, g155, g156, e1, hg2, hg3]
           refine ⟨⟨o1, by simp; omega, .unk, fun _ _ => rfl, ?_⟩, P.keep (by simp; omega) fun c u h => ?_, N.keep (by simp; omega) fun c u h => ?_, _, K2, E1.setN o1.2 hg3 _⟩
           · rw [Heap.get_set, if_pos rfl]
           · rw [Heap.get_set, if_neg hb]
             exact k1 _ _ _ P.2.1 P.1.2 h
           · rw [Heap.get_set, if_neg (fun e => o1.1 e.symm)]
             exact k1 _ _ _ N.1 (by decide) h
       · rintro T H M ⟨rfl, ⟨g0, g3, g5⟩, g6, g12, g14, g15, g154, g155, g156, O, P, N, L, J, E⟩
         simp (config := { maxDischargeDepth := 12 }) only [go_sem, reduceIte, reduceEqDiff, reduceAdd, reduceMul, reduceSub, reduceLeDiff, reduceLT, Nat.reduceBEq, reduceCtorEq, S1, g0, g3, g5, g6, g12, g14, g15, g154, g155, g156, hw]
         exact ⟨O, P, N, L, 8, J, Int.le_refl _, fun _ => rfl, E⟩
   · rintro T H M ⟨rfl, ⟨g0, g3, g5⟩, g6, g12, g14, g15, g154, g155, g156, O, P, N, L, tk, J, htk, htk1, E⟩
     have e1 : min l.length mn = mn := by omega
     rw [e1] at O J
     rw [List.take_of_length_le (by omega)] at g15
     obtain rfl := htk1 (by omega)
     simp (config := { maxDischargeDepth := 12 }) only [go_sem, reduceIte, reduceEqDiff, reduceAdd, reduceMul, reduceSub, reduceLeDiff, reduceLT, Nat.reduceBEq, reduceCtorEq, S1, g0, g3, g5, g6, g12, g14, g15, g154, g155, g156, Nat.lt_irrefl]
     refine ⟨O, P, N, L, ⟨J.rep, J.reg, J.small, ?_⟩, E⟩
     have := J.len
     omega
 clear g0 g3 g5 g6 g12 g14 g15 O P N E J hff
 clear L
 rintro T H M ⟨rfl, ⟨g0, g3, g5⟩, g6, g12, g14, g15, O, P, N, L, J, E⟩
 obtain ⟨j, hj⟩ : ∃ j : Nat, j = n1 % mn := ⟨_, rfl⟩
 have hj1 : j < mn := by rw [hj]; exact Nat.mod_lt _ (by omega)
 refine W_cut (fun T' H' M => M = [] ∧ H = H' ∧ S1 l T' ∧ getT T' 6 = .ptr b6 0 ∧ getT T' 12 = .ptr b12 0 ∧ getT T' 14 = i64 (mn : Nat) ∧ getT T' 15 = .int .i64 (leastF ((l.map ffL).drop mn)) ∧ getT T' 21 = .ps .exact [[.int .i64 ((l.length + j : Nat) + 1 : Int)]]) ?_ ?_
 · have cv := cv_u8 h1
   have r1 : sbin .rem 3 (.int .i64 (n1 : Int)) (.int .i64 (mn : Int)) = some (.int .i64 ((j : Nat) : Int)) := by rw [hj]; exact sbin_rem (by omega)
   have w1 : wrapq .i64 (Int.add (l.length : Int) 1) = ((l.length + 1 : Nat) : Int) := wrap_nat (n := l.length + 1) (by omega)
   have w2 : wrapq .i64 (Int.add ((l.length + 1 : Nat) : Int) (j : Int)) = ((l.length + j : Nat) + 1 : Int) := by
    have e : Int.add ((l.length + 1 : Nat) : Int) (j : Int) = ((l.length + j + 1 : Nat) : Int) := by show ((l.length + 1 : Nat) : Int) + (j : Int) = _; omega
    rw [e]; exact wrap_nat (n := l.length + j + 1) (by omega)
   have hN := N.2
   simp (config := { maxDischargeDepth := 12 }) only [go_sem, reduceIte, reduceEqDiff, reduceAdd, reduceMul, reduceSub, reduceLeDiff, reduceLT, Nat.reduceBEq, reduceCtorEq, S1, g0, g3, g5, g6, g12, g14, g15, hN, cv, r1, w1, w2]
 clear g0 g3 g5 g6 g12 g14 g15
 rintro T H' M ⟨rfl, rfl, ⟨g0, g3, g5⟩, g6, g12, g14, g15, g21⟩
 have hFj : (rstsF j ((l.map ffL).drop j)).length = l.length - j := by rw [rstsF_len, List.length_drop, hfl]
 have hx := pe10 (mwF (l.map ffL) mn) (l.length : Nat) (l.length : Nat) (rstsF 0 (l.map ffL)) [⟨[((l.length + j : Nat) : Int) + 1], false⟩] ⟨by rw [mwF_len, hfl]; unfold maxRows; omega, by rw [rstsF_len, hfl]; unfold maxRows; omega, by simp [maxRows], fun z hz => by
  have : z = ⟨[((l.length + j : Nat) : Int) + 1], false⟩ := by simpa using hz
  subst this; simp [maxRows]⟩
 have hex := exch_lost (fs := l.map ffL) (by omega) hgd (k := mn) (j := j) (by omega) hj1
 rw [hfl] at hex
 rw [hex] at hx
 refine W_cut (fun T H M => M = [] ∧ S1 l T ∧ getT T 6 = .ptr b6 0 ∧ getT T 12 = .ptr b12 0 ∧ getT T 14 = i64 (mn : Nat) ∧ getT T 15 = .int .i64 (leastF ((l.map ffL).drop mn)) ∧ getT T 21 = .ps .exact [[.int .i64 ((l.length + j : Nat) + 1 : Int)]] ∧ getT T 22 = .int .i64 0 ∧ OB H b6 (mwF (l.map ffL) mn) (l.length + j : Nat) ∧ PB H b12 (rstsF j ((l.map ffL).drop j)) (l.length + j : Nat) ∧ N3 H n0 n1 n2 ∧ EvB H 1 L) ?_ ?_
 · obtain ⟨o1, o2, t, ou, o3⟩ := O
   obtain ⟨p1, p2, t', pu, p3⟩ := P
   simp only [Pos.Rnd.row, ints, List.map_cons, List.map_nil, i64] at hx
   simp (config := { maxDischargeDepth := 12 }) only [go_sem, reduceIte, reduceEqDiff, reduceAdd, reduceMul, reduceSub, reduceLeDiff, reduceLT, Nat.reduceBEq, reduceCtorEq, S1, g0, g3, g5, g6, g12, g14, g15, g21, o3, p3, hx, hb', hb2]
   refine ⟨⟨o1, by simp; omega, .unk, fun _ _ => rfl, ?_⟩, ⟨p1, by simp; omega, .unk, fun _ _ => rfl, ?_⟩, N.keep (by simp) fun c u h => ?_, (E.setN (i := b6) o1.2 o3 _).setN (i := b12) p1.2 (by rw [Heap.get_set, if_neg hb]; exact p3) _⟩
   · rw [Heap.get_set, if_neg (Ne.symm hb), Heap.get_set, if_pos rfl]
   · rw [Heap.get_set, if_pos rfl]
   · rw [Heap.get_set, if_neg (fun e => p1.1 e.symm), Heap.get_set, if_neg (fun e => o1.1 e.symm)]; exact h
 clear g0 g3 g5 g6 g12 g14 g15 g21 O P E N hx hex
 rintro T H M ⟨rfl, ⟨g0, g3, g5⟩, g6, g12, g14, g15, g21, g22, O, P, N, E⟩
 refine W_cut (fun T' H' M => M = [] ∧ H = H' ∧ S1 l T' ∧ getT T' 6 = .ptr b6 0 ∧ getT T' 12 = .ptr b12 0 ∧ getT T' 14 = i64 (mn : Nat) ∧ getT T' 15 = .int .i64 (leastF ((l.map ffL).drop mn)) ∧ getT T' 21 = .ps .exact [[.int .i64 ((l.length + j : Nat) + 1 : Int)]]) ?_ ?_
 · obtain ⟨p1, p2, t', pu, p3⟩ := P
   have w1 : wrapq .i64 (Int.sub ((l.length + j : Nat) + 1 : Int) 1) = ((l.length + j : Nat) : Int) := by
    have e : Int.sub ((l.length + j : Nat) + 1 : Int) 1 = ((l.length + j : Nat) : Int) := by show ((l.length + j : Nat) : Int) + 1 - 1 = _; omega
    rw [e]; exact wrap_nat (by omega)
   have w2 : wrapq .i64 (Int.mul 2 (l.length : Int)) = ((2 * l.length : Nat) : Int) := by
    have e : Int.mul 2 (l.length : Int) = ((2 * l.length : Nat) : Int) := by show 2 * (l.length : Int) = _; omega
    rw [e]; exact wrap_nat (by omega)
   have w3 : wrapq .i64 (Int.sub ((2 * l.length : Nat) : Int) ((l.length + j : Nat) : Int)) = ((l.length - j : Nat) : Int) := by
    have e : Int.sub ((2 * l.length : Nat) : Int) ((l.length + j : Nat) : Int) = ((l.length - j : Nat) : Int) := by show ((2 * l.length : Nat) : Int) - ((l.length + j : Nat) : Int) = _; omega
    rw [e]; exact wrap_nat (by omega)
   simp (config := { maxDischargeDepth := 12 }) only [go_sem, reduceIte, reduceEqDiff, reduceAdd, reduceMul, reduceSub, reduceLeDiff, reduceLT, Nat.reduceBEq, reduceCtorEq, S1, g0, g3, g5, g6, g12, g14, g15, g21, g22, p3, pu, w1, w2, w3, hFj]
 clear g0 g3 g5 g6 g12 g14 g15 g21 g22
 rintro T H' M ⟨rfl, rfl, ⟨g0, g3, g5⟩, g6, g12, g14, g15, g21⟩
 have hff := pe7 l ⟨by unfold maxRows; omega, hz⟩
 refine W_cut (fun T H M => M = [] ∧ S1 l T ∧ getT T 6 = .ptr b6 0 ∧ getT T 12 = .ptr b12 0 ∧ getT T 14 = i64 (mn : Nat) ∧ getT T 15 = .int .i64 (leastF ((l.map ffL).drop mn)) ∧ OB H b6 (mwF (l.map ffL) mn) (l.length + j : Nat) ∧ PB H b12 (rstsF j ((l.map ffL).drop j)) (l.length + j : Nat) ∧ N3 H n0 n1 n2 ∧ EvB H 1 L) ?_ ?_
 · simp (config := { maxDischargeDepth := 12 }) only [go_sem, reduceIte, reduceEqDiff, reduceAdd, reduceMul, reduceSub, reduceLeDiff, reduceLT, Nat.reduceBEq, reduceCtorEq, g0, hff]
   refine W_for (fun k T H M => M = [] ∧ S1 l T ∧ getT T 6 = .ptr b6 0 ∧ getT T 12 = .ptr b12 0 ∧ getT T 14 = i64 (mn : Nat) ∧ getT T 15 = .int .i64 (leastF ((l.map ffL).drop mn)) ∧ getT T 21 = .ps .exact [[.int .i64 ((l.length + j : Nat) + 1 : Int)]] ∧ getT T 233 = .ps .unk (l.map fkRow) ∧ getT T 234 = i64 (l.length : Nat) ∧ getT T 235 = i64 k ∧ OB H b6 (mwF (l.map ffL) mn) (l.length + j : Nat) ∧ PB H b12 (rstsF j ((l.map ffL).drop j)) (l.length + j : Nat) ∧ N3 H n0 n1 n2 ∧ EvB H 1 L) l.length ?_ ?_ ?_
   · simp (config := { maxDischargeDepth := 12 }) only [go_sem, reduceIte, reduceEqDiff, reduceAdd, reduceMul, reduceSub, reduceLeDiff, reduceLT, Nat.reduceBEq, reduceCtorEq, S1, g0, g3, g5, g6, g12, g14, g15, g21]
     exact ⟨O, P, N, E⟩
   · clear g0 g3 g5 g6 g12 g14 g15 g21 O P N E
     rintro k T H M hk ⟨rfl, ⟨g0, g3, g5⟩, g6, g12, g14, g15, g21, g233, g234, g235, O, P, N, E⟩
     obtain ⟨x, hx⟩ : ∃ x, l[k]? = some x := ⟨l[k], by simp⟩
     have hr : (l.map fkRow)[k]? = some (fkRow x) := map_at hx
     have hw := wrap_succ hk (show l.length ≤ maxRows by unfold maxRows; omega)
     obtain ⟨y1, y2⟩ := hz x (List.mem_of_getElem? hx)
     have hE0 := E.1
     have hN0 := N.1
     have P' := P
     obtain ⟨p1, p2, t', pu, p3⟩ := P
     simp only [fkRow] at hr
     have q3 : (b12 = H.n) = False := eq_false (by omega)
     have w1 : wrapq .i64 (Int.add (l.length : Int) (k : Int)) = ((l.length + k : Nat) : Int) := wrap_nat (n := l.length + k) (by omega)
     have w2 : wrapq .i64 (Int.add ((l.length + k : Nat) : Int) 1) = ((l.length + k + 1 : Nat) : Int) := wrap_nat (n := l.length + k + 1) (by omega)
     have hal2 := alw_G (l := (l.map ffL).drop j) (i := j) (h := l.length + j) (by rw [List.length_drop]; omega) (by omega) (fun z hz => hgd z (List.mem_of_mem_drop hz)) (x := (x.1 : Int)) (by omega)
     have hpe := pe15 (l.length + j : Nat) (rstsF j ((l.map ffL).drop j)) (x.1 : Int) (by rw [hFj]; unfold maxRows; omega)
     rw [hal2] at hpe
     have hlim : j ≤ k → alF (rstsF j ((l.map ffL).drop j)) (x.1 : Int) ≤ ((10 + x.2 / 2 : Nat) : Int) := fun hjk => by
      have hxd : ((l.map ffL).drop j)[k - j]? = some (ffL x) := by
       rw [List.getElem?_drop]
       have : j + (k - j) = k := by omega
       rw [this]; exact map_at hx
      exact al_in hxd (Int.le_refl _) (by show (x.1 : Int) < ((x.1 + 1 + x.2 % 20 : Nat) : Int); omega)
     generalize alF (rstsF j ((l.map ffL).drop j)) (x.1 : Int) = V at hpe hlim
     have fin : ∀ H', H' = (H.push (.cells [.int .i64 0, .int .i64 0, .int .i64 0] 37)).set H.n (.cells [.int .i64 (x.1 : Int), .int .i64 ((x.1 + 1 + x.2 % 20 : Nat) : Int), .int .i64 ((10 + x.2 / 2 : Nat) : Int)] 37) → OB H' b6 (mwF (l.map ffL) mn) (l.length + j : Nat) ∧ PB H' b12 (rstsF j ((l.map ffL).drop j)) (l.length + j : Nat) ∧ N3 H' n0 n1 n2 ∧ EvB H' 1 L := by
      rintro _ rfl
      exact ⟨O.keep (by simp) fun c u h => new_get O.2.1 h, P'.keep (by simp) fun c u h => new_get p2 h, N.keep (by simp) fun c u h => new_get N.1 h, E.new _ _ _⟩
     by_cases c : mn ≤ k
     · have d : ((k : Int) < (mn : Int)) = False := eq_false (by omega)
       have v1 : (((10 + x.2 / 2 : Nat) : Int) < V) = False := eq_false (by have := hlim (by omega); omega)
       have v2 : (((l.length + k + 1 : Nat) : Int) < (l.length + j : Nat) + 1) = False := eq_false (by omega)
       simp (config := { maxDischargeDepth := 12 }) only [go_sem, reduceIte, reduceEqDiff, reduceAdd, reduceMul, reduceSub, reduceLeDiff, reduceLT, Nat.reduceBEq, reduceCtorEq, S1, g0, g3, g5, g6, g12, g14, g15, g21, g233, g234, g235, hk, hr, hw, w1, w2, d, v1, v2, p3, q3, hpe]
       exact fin _ rfl
     · have d : ((k : Int) < (mn : Int)) = True := eq_true (by omega)
       by_cases c2 : k < j
       · have v2 : (((l.length + k + 1 : Nat) : Int) < (l.length + j : Nat) + 1) = True := eq_true (by omega)
         simp (config := { maxDischargeDepth := 12 }) only [go_sem, reduceIte, reduceEqDiff, reduceAdd, reduceMul, reduceSub, reduceLeDiff, reduceLT, Nat.reduceBEq, reduceCtorEq, S1, g0, g3, g5, g6, g12, g14, g15, g21, g233, g234, g235, hk, hr, hw, w1, w2, d, v2, p3, q3, hpe]
         exact fin _ rfl
       · have v1 : (((10 + x.2 / 2 : Nat) : Int) < V) = False := eq_false (by have := hlim (by omega); omega)
         have v2 : (((l.length + k + 1 : Nat) : Int) < (l.length + j : Nat) + 1) = False := eq_false (by omega)
         simp (config := { maxDischargeDepth := 12 }) only [go_sem, reduceIte, reduceEqDiff, reduceAdd, reduceMul, reduceSub, reduceLeDiff, reduceLT, Nat.reduceBEq, reduceCtorEq, S1, g0, g3, g5, g6, g12, g14, g15, g21, g233, g234, g235, hk, hr, hw, w1, w2, d, v1, v2, p3, q3, hpe]
         exact fin _ rfl
   · rintro T H M ⟨rfl, ⟨g0, g3, g5⟩, g6, g12, g14, g15, g21, g233, g234, g235, O, P, N, E⟩
     simp (config := { maxDischargeDepth := 12 }) only [go_sem, reduceIte, reduceEqDiff, reduceAdd, reduceMul, reduceSub, reduceLeDiff, reduceLT, Nat.reduceBEq, reduceCtorEq, S1, g0, g3, g5, g6, g12, g14, g15, g21, g233, g234, g235, Nat.lt_irrefl]
     exact ⟨O, P, N, E⟩
 clear g0 g3 g5 g6 g12 g14 g15 g21 O P N E hff
 rintro T H M ⟨rfl, ⟨g0, g3, g5⟩, g6, g12, g14, g15, O, P, N, E⟩
 have hFm : (rstsF mn ((l.map ffL).drop mn)).length = l.length - mn := by rw [rstsF_len, List.length_drop, hfl]
 have hx := pe10 (mwF (l.map ffL) mn) (l.length + j : Nat) (l.length + j : Nat) (rstsF j ((l.map ffL).drop j)) [⟨[], false⟩] ⟨by rw [mwF_len, hfl]; unfold maxRows; omega, by rw [hFj]; unfold maxRows; omega, by simp [maxRows], by decide⟩
 have hex := exch_all (fs := l.map ffL) (by omega) hgd (k := mn) (j := j) (by omega) (by omega)
 rw [hfl] at hex
 rw [hex] at hx
 refine W_cut (fun T H M => M = [] ∧ S1 l T ∧ getT T 6 = .ptr b6 0 ∧ getT T 12 = .ptr b12 0 ∧ getT T 14 = i64 (mn : Nat) ∧ getT T 15 = .int .i64 (leastF ((l.map ffL).drop mn)) ∧ getT T 28 = .int .i64 0 ∧ OB H b6 (mwF (l.map ffL) mn) (l.length + mn : Nat) ∧ PB H b12 (rstsF mn ((l.map ffL).drop mn)) (l.length + mn : Nat) ∧ N3 H n0 n1 n2 ∧ EvB H 1 L) ?_ ?_
 · obtain ⟨o1, o2, t, ou, o3⟩ := O
   obtain ⟨p1, p2, t', pu, p3⟩ := P
   simp only [Pos.Rnd.row, ints, List.map_cons, List.map_nil, i64] at hx
   simp (config := { maxDischargeDepth := 12 }) only [go_sem, reduceIte, reduceEqDiff, reduceAdd, reduceMul, reduceSub, reduceLeDiff, reduceLT, Nat.reduceBEq, reduceCtorEq, S1, g0, g3, g5, g6, g12, g14, g15, o3, p3, hx, hb', hb2]
   refine ⟨⟨o1, by simp; omega, .unk, fun _ _ => rfl, ?_⟩, ⟨p1, by simp; omega, .unk, fun _ _ => rfl, ?_⟩, N.keep (by simp) fun c u h => ?_, (E.setN (i := b6) o1.2 o3 _).setN (i := b12) p1.2 (by rw [Heap.get_set, if_neg hb]; exact p3) _⟩
   · rw [Heap.get_set, if_neg (Ne.symm hb), Heap.get_set, if_pos rfl]
   · rw [Heap.get_set, if_pos rfl]
   · rw [Heap.get_set, if_neg (fun e => p1.1 e.symm), Heap.get_set, if_neg (fun e => o1.1 e.symm)]; exact h
 clear g0 g3 g5 g6 g12 g14 g15 O P E N hx hex
 rintro T H M ⟨rfl, ⟨g0, g3, g5⟩, g6, g12, g14, g15, g28, O, P, N, E⟩
 have hif := pe18 (mwF (l.map ffL) mn) (l.length + mn : Nat) (by rw [mwF_len, hfl]; unfold maxRows; omega)
 rw [if_F (by omega) hgd (by omega) (by omega)] at hif
 refine W_cut (fun T' H' M => M = [] ∧ H = H' ∧ S1 l T' ∧ getT T' 6 = .ptr b6 0 ∧ getT T' 12 = .ptr b12 0 ∧ getT T' 14 = i64 (mn : Nat) ∧ getT T' 15 = .int .i64 (leastF ((l.map ffL).drop mn)) ∧ getT T' 28 = .int .i64 0 ∧ getT T' 29 = .ps .unk ((rstsF mn ((l.map ffL).drop mn)).map Pos.Rst.row) ∧ getT T' 30 = .int .i64 0) ?_ ?_
 · obtain ⟨o1, o2, t, ou, o3⟩ := O
   simp (config := { maxDischargeDepth := 12 }) only [go_sem, reduceIte, reduceEqDiff, reduceAdd, reduceMul, reduceSub, reduceLeDiff, reduceLT, Nat.reduceBEq, reduceCtorEq, S1, g0, g3, g5, g6, g12, g14, g15, g28, o3, hif]
 clear g0 g3 g5 g6 g12 g14 g15 g28 hif
 rintro T H' M ⟨rfl, rfl, ⟨g0, g3, g5⟩, g6, g12, g14, g15, g28, g29, g30⟩
 refine W_cut (fun T' H' M => M = [] ∧ H = H' ∧ S1 l T' ∧ getT T' 12 = .ptr b12 0 ∧ getT T' 14 = i64 (mn : Nat) ∧ getT T' 15 = .int .i64 (leastF ((l.map ffL).drop mn)) ∧ getT T' 29 = .ps .unk ((rstsF mn ((l.map ffL).drop mn)).map Pos.Rst.row)) ?_ ?_
 · obtain ⟨p1, p2, t', pu, p3⟩ := P
   have w1 : wrapq .i64 (Int.sub (l.length : Int) (mn : Int)) = ((l.length - mn : Nat) : Int) := by
    have e : Int.sub (l.length : Int) (mn : Int) = ((l.length - mn : Nat) : Int) := by show (l.length : Int) - (mn : Int) = _; omega
    rw [e]; exact wrap_nat (by omega)
   simp (config := { maxDischargeDepth := 12 }) only [go_sem, reduceIte, reduceEqDiff, reduceAdd, reduceMul, reduceSub, reduceLeDiff, reduceLT, Nat.reduceBEq, reduceCtorEq, S1, g0, g3, g5, g6, g12, g14, g15, g28, g29, g30, p3, hFm, w1]
 clear g0 g3 g5 g6 g12 g14 g15 g28 g29 g30 O
 rintro T H' M ⟨rfl, rfl, ⟨g0, g3, g5⟩, g12, g14, g15, g29⟩
 refine W_cut (fun T H M => M = [] ∧ S1 l T ∧ getT T 15 = .int .i64 (leastF ((l.map ffL).drop mn)) ∧ N3 H n0 n1 n2 ∧ EvB H 1 L) ?_ ?_
 · simp (config := { maxDischargeDepth := 12 }) only [go_sem, reduceIte, reduceEqDiff, reduceAdd, reduceMul, reduceSub, reduceLeDiff, reduceLT, Nat.reduceBEq, reduceCtorEq, g29, hFm]
   refine W_for (fun k T H M => M = [] ∧ S1 l T ∧ getT T 12 = .ptr b12 0 ∧ getT T 14 = i64 (mn : Nat) ∧ getT T 15 = .int .i64 (leastF ((l.map ffL).drop mn)) ∧ getT T 311 = .ps .unk ((rstsF mn ((l.map ffL).drop mn)).map Pos.Rst.row) ∧ getT T 312 = i64 (l.length - mn : Nat) ∧ getT T 313 = i64 k ∧ PB H b12 (rstsF mn ((l.map ffL).drop mn)) (l.length + mn : Nat) ∧ N3 H n0 n1 n2 ∧ EvB H 1 L) (l.length - mn) ?_ ?_ ?_
   · simp (config := { maxDischargeDepth := 12 }) only [go_sem, reduceIte, reduceEqDiff, reduceAdd, reduceMul, reduceSub, reduceLeDiff, reduceLT, Nat.reduceBEq, reduceCtorEq, S1, g0, g3, g5, g12, g14, g15]
     exact ⟨P, N, E⟩
   · clear g0 g3 g5 g12 g14 g15 g29 P N E
     rintro k T H M hk ⟨rfl, ⟨g0, g3, g5⟩, g12, g14, g15, g311, g312, g313, P, N, E⟩
     obtain ⟨x, hx⟩ : ∃ x, l[mn + k]? = some x := ⟨l[mn + k], by simp⟩
     have hxd : ((l.map ffL).drop mn)[k]? = some (ffL x) := by rw [List.getElem?_drop]; exact map_at hx
     have hnf := nf_small (mn + k) (by omega)
     have hr : ((rstsF mn ((l.map ffL).drop mn)).map Pos.Rst.row)[k]? = some [.str [102, 49 + (mn + k)], .int .i64 (x.1 : Int), .int .i64 ((x.1 + 1 + x.2 % 20 : Nat) : Int), .int .i64 ((10 + x.2 / 2 : Nat) : Int)] := by
      have := map_at (f := Pos.Rst.row) (rstsF_at _ mn k _ hxd)
      rw [hnf] at this
      exact this
     have hml : ((rstsF mn ((l.map ffL).drop mn)).map Pos.Rst.row).length = l.length - mn := by rw [List.length_map, hFm]
     have hw := wrap_succ hk (show l.length - mn ≤ maxRows by unfold maxRows; omega)
     have hT := text_l (k := mn + k) (by omega)
     have w1 : wrapq .i64 (Int.add (mn : Int) (k : Int)) = ((mn + k : Nat) : Int) := wrap_nat (n := mn + k) (by omega)
     have w2 : wrapq .i64 (Int.add ((mn + k : Nat) : Int) 1) = ((mn + k + 1 : Nat) : Int) := wrap_nat (n := mn + k + 1) (by omega)
     have hbq : beqL [102, 49 + (mn + k)] [102, 49 + (mn + k)] = true := by rw [beqL_dec]; exact decide_eq_true rfl
     have hE0 := E.1
     have P' := P
     obtain ⟨p1, p2, t', pu, p3⟩ := P
     have q3 : (b12 = H.n) = False := eq_false (by omega)
     generalize hG : (rstsF mn ((l.map ffL).drop mn)).map Pos.Rst.row = G at hr hml p3 g311
     simp (config := { maxDischargeDepth := 12 }) only [go_sem, reduceIte, reduceEqDiff, reduceAdd, reduceMul, reduceSub, reduceLeDiff, reduceLT, Nat.reduceBEq, reduceCtorEq, S1, g0, g3, g5, g12, g14, g15, g311, g312, g313, hml, hk, hr, hw, w1, w2, hT, p3, pu, q3, hbq]
     exact ⟨P'.keep (by simp) fun c u h => new_get p2 h, N.keep (by simp) fun c u h => new_get N.1 h, E.new _ _ _⟩
   · rintro T H M ⟨rfl, ⟨g0, g3, g5⟩, g12, g14, g15, g311, g312, g313, P, N, E⟩
     simp (config := { maxDischargeDepth := 12 }) only [go_sem, reduceIte, reduceEqDiff, reduceAdd, reduceMul, reduceSub, reduceLeDiff, reduceLT, Nat.reduceBEq, reduceCtorEq, S1, g0, g3, g5, g12, g14, g15, g311, g312, g313, Nat.lt_irrefl]
     exact ⟨N, E⟩
 clear g0 g3 g5 g12 g14 g15 g29 P N E
 rintro T H M ⟨rfl, ⟨g0, g3, g5⟩, g15, N, E⟩
 obtain ⟨st, hst⟩ : ∃ st : Nat, st = n2 % 200 + 1 := ⟨_, rfl⟩
 have hst1 : 1 ≤ st ∧ st ≤ 200 := by have := Nat.mod_lt n2 (show 0 < 200 by decide); omega
 refine W_cut (fun T' H' M => M = [] ∧ H = H' ∧ S1 l T' ∧ getT T' 15 = .int .i64 (leastF ((l.map ffL).drop mn)) ∧ getT T' 33 = .int .i64 (st : Int)) ?_ ?_
 · have cv := cv_u8 h2
   have r1 : sbin .rem 3 (.int .i64 (n2 : Int)) (.int .i64 200) = some (.int .i64 ((n2 % 200 : Nat) : Int)) := sbin_rem (by decide)
   have w1 : wrapq .i64 (Int.add 1 ((n2 % 200 : Nat) : Int)) = (st : Int) := by
    have e : Int.add 1 ((n2 % 200 : Nat) : Int) = ((st : Nat) : Int) := by show 1 + ((n2 % 200 : Nat) : Int) = _; omega
    rw [e]; exact wrap_nat (by omega)
   have hN := N.2
   simp (config := { maxDischargeDepth := 12 }) only [go_sem, reduceIte, reduceEqDiff, reduceAdd, reduceMul, reduceSub, reduceLeDiff, reduceLT, Nat.reduceBEq, reduceCtorEq, S1, g0, g3, g5, g15, hN, cv, r1, w1]
 clear g0 g3 g5 g15
 rintro T H' M ⟨rfl, rfl, ⟨g0, g3, g5⟩, g15, g33⟩
 have hn0 := J.len
 have K0 := l_ret1 J (by omega)
 obtain ⟨K1, J1⟩ := l_off J (by omega)
 obtain ⟨K2, J2⟩ := l_clear J1 (by omega)
 have K3 := l_ret2 J2 (by omega)
 obtain ⟨K4, J4⟩ := l_open J2 (by omega)
 obtain ⟨K5, J5⟩ := l_close J4 (by omega) (v := (st : Int)) (by omega) (by omega)
 obtain ⟨K6, J6⟩ := l_ret J5 (by omega)
 obtain ⟨K7, J7⟩ := l_raise J6 (by omega) (by omega)
 obtain ⟨H1, e1, E1, m1, k1⟩ := ev_stepL E (by omega) J.small (by simp [maxRows]) (by simp [maxRows]) K1
 obtain ⟨H2, e2, E2, m2, k2⟩ := ev_stepL E1 (by have := J1.len; omega) J1.small (by simp [maxRows]) (by simp [maxRows]) K2
 obtain ⟨H4, e4, E4, m4, k4⟩ := ev_stepL E2 (by have := J2.len; omega) J2.small (by simp [maxRows]) (by simp [maxRows]) K4
 obtain ⟨H5, e5, E5, m5, k5⟩ := ev_stepL E4 (by have := J4.len; omega) J4.small (by simp [maxRows]) (by simp [maxRows]) K5
 obtain ⟨H6, e6, E6, m6, k6⟩ := ev_stepL E5 (by have := J5.len; omega) J5.small (by simp [maxRows]) (by simp [maxRows]) K6
 obtain ⟨H7, e7, E7, m7, k7⟩ := ev_stepL E6 (by have := J6.len; omega) J6.small (by simp [maxRows]) (by simp [maxRows]) K7
 obtain ⟨t0, ge0, -⟩ := E.get
 obtain ⟨t2, ge2, -⟩ := E2.get
 obtain ⟨t6, ge6, -⟩ := E6.get
 obtain ⟨t7, ge7, -⟩ := E7.get
 have pa := pe14 _ Pos.kReturn [9] [kP] ⟨by have := J.len; omega, J.small, by simp [maxRows], by simp [maxRows]⟩
 have pb := pe14 _ Pos.kReturn [9] [kP] ⟨by have := J2.len; omega, J2.small, by simp [maxRows], by simp [maxRows]⟩
 have K0' : acceptsL _ ⟨_, Pos.kReturn, [kP], [9], []⟩ = 32 := K0
 have K3' : acceptsL _ ⟨_, Pos.kReturn, [kP], [9], []⟩ = 7 := K3
 rw [K0'] at pa
 rw [K3'] at pb
 have pn := pe16 _ kUp ⟨by have := J6.len; omega, J6.small⟩
 have pm := pe16 _ kUp ⟨by have := J7.len; omega, J7.small⟩
 rw [l_next J6 hgd (by omega)] at pn
 rw [l_next J7 hgd (by omega)] at pm
 have hlF := least_in (fs := (l.map ffL).drop mn) (fun x hx => hgd x (List.mem_of_mem_drop hx))
 have hm1 : minI (leastF ((l.map ffL).drop mn)) (st : Int) = minI (st : Int) (leastF ((l.map ffL).drop mn)) := by
  unfold minI
  split <;> split <;> omega
 have hm2 : minI (leastF ((l.map ffL).drop mn)) 400 = leastF ((l.map ffL).drop mn) := by
  unfold minI
  rw [if_neg (by omega)]
 rw [hm1] at pn
 rw [hm2] at pm
 generalize leastF ((l.map ffL).drop mn) = V at pn pm g15
 generalize L.map Pos.Ev.row = R0 at pa ge0
 generalize List.map Pos.Ev.row (L ++ _ ++ _) = R2 at pb ge2
 generalize List.map Pos.Ev.row _ = R6 at pn ge6
 generalize List.map Pos.Ev.row _ = R7 at pm ge7
 simp only [Pos.kOff, Pos.kClear, Pos.kOpen, Pos.kClose, Pos.kReturn, Pos.kRaise, kUp, kP, ints, strs, List.map_cons, List.map_nil, i64] at e1 e2 e4 e5 e6 e7 pa pb pn pm
 simp (config := { maxDischargeDepth := 12 }) only [go_sem, reduceIte, reduceEqDiff, reduceAdd, reduceMul, reduceSub, reduceLeDiff, reduceLT, Nat.reduceBEq, reduceCtorEq, g0, g3, g5, g15, g33, ge0, ge2, ge6, ge7, e1, e2, e4, e5, e6, e7, pa, pb, pn, pm]
end Go.Sim
