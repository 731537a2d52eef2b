/-
Lemmas of one proof, the texts Sl1 to Acc2 joined.
-/
import Derived.Test.YtklnellnfbmokaaGreatT12
set_option linter.unusedSimpArgs false
set_option linter.unusedVariables false
open Nat (reduceEqDiff reduceAdd reduceMul reduceSub reduceLeDiff reduceLT)

namespace Go.Sim
open Go Go.Proofs
open Go.Sim.Pos (Nm Trk Flt Trn Pos Mch Reg Ev Len flat_len flat_take flat_drop flat_at)
set_option maxRecDepth 100000
set_option maxHeartbeats 4000000
theorem en84 {P:FuncId→Option (List AV→Option AV)} (hP:P 84=none) {lo:Nat} {args:List AV} {H:Heap} {K:AV→Heap→Prop}:VO (aenter (NC.withPrims P) (R (NC.withPrims P)) lo 84 args H) K=AO (R (NC.withPrims P) (.call H.n 84 args H)) fun o=>o.val.strip.pure=true∧K o.val.strip H:=by
 refine enter_pure rfl ?_ (by kernel_rfl) (by kernel_rfl) (by kernel_rfl)
 show (match NC.prim 84 with | some p=>some p | none=>P 84)=none
 rw [hP];kernel_rfl
theorem en34 {P:FuncId→Option (List AV→Option AV)} (hP:P 34=none) {lo:Nat} {args:List AV} {H:Heap} {K:AV→Heap→Prop}:VO (aenter (NC.withPrims P) (R (NC.withPrims P)) lo 34 args H) K=AO (R (NC.withPrims P) (.call H.n 34 args H)) fun o=>o.val.strip.pure=true∧K o.val.strip H:=by
 refine enter_pure rfl ?_ (by kernel_rfl) (by kernel_rfl) (by kernel_rfl)
 show (match NC.prim 34 with | some p=>some p | none=>P 34)=none
 rw [hP];kernel_rfl
theorem en87 {P:FuncId→Option (List AV→Option AV)} (hP:P 87=none) {lo:Nat} {args:List AV} {H:Heap} {K:AV→Heap→Prop}:VO (aenter (NC.withPrims P) (R (NC.withPrims P)) lo 87 args H) K=AO (R (NC.withPrims P) (.call H.n 87 args H)) fun o=>o.val.strip.pure=true∧K o.val.strip H:=by
 refine enter_pure rfl ?_ (by kernel_rfl) (by kernel_rfl) (by kernel_rfl)
 show (match NC.prim 87 with | some p=>some p | none=>P 87)=none
 rw [hP];kernel_rfl
theorem en89 {P:FuncId→Option (List AV→Option AV)} (hP:P 89=none) {lo:Nat} {args:List AV} {H:Heap} {K:AV→Heap→Prop}:VO (aenter (NC.withPrims P) (R (NC.withPrims P)) lo 89 args H) K=AO (R (NC.withPrims P) (.call H.n 89 args H)) fun o=>o.val.strip.pure=true∧K o.val.strip H:=by
 refine enter_pure rfl ?_ (by kernel_rfl) (by kernel_rfl) (by kernel_rfl)
 show (match NC.prim 89 with | some p=>some p | none=>P 89)=none
 rw [hP];kernel_rfl
theorem en91 {P:FuncId→Option (List AV→Option AV)} (hP:P 91=none) {lo:Nat} {args:List AV} {H:Heap} {K:AV→Heap→Prop}:VO (aenter (NC.withPrims P) (R (NC.withPrims P)) lo 91 args H) K=AO (R (NC.withPrims P) (.call H.n 91 args H)) fun o=>K o.val o.s.H:=by
 refine enter_fresh rfl ?_ (by kernel_rfl) (by kernel_rfl) (by kernel_rfl)
 show (match NC.prim 91 with | some p=>some p | none=>P 91)=none
 rw [hP];kernel_rfl
theorem r_mapT_names_1 {H:Heap} {v:AV} {l:List Trk} (hs:Sl H v 2 137 (l.map Pos.Trk.row)) (hl:l.length≤maxRows):∃ t H2,R PT (.call H.n 84 [v,.fn 85 [] []] H)=some (.ofVal (.ps t (strs (l.map (·.name)))) H2)∧AppB H.n H2 t (strs (l.map (·.name))) 1 9∧Old H.n H H2:=by
 obtain ⟨w,H2,h1,t,rfl,h2⟩:=R_of_body (C:=PT) (f:=84) (lo:=H.n) (args:=[v,.fn 85 [] []]) (H:=H) (fn:=Tryz.f84) (Q:=fun w H2=>∃ t,w=.ps t (strs (l.map (·.name)))∧AppB H.n H2 t (strs (l.map (·.name))) 1 9∧Old H.n H H2) (by kernel_rfl) Tryz.func84 rfl rfl (by
  have hlen:=fun H'=>hs.len (t:=99) (by kernel_rfl) H'
  simp only [List.length_map] at hlen
  simp (config:={ maxDischargeDepth:=12 }) only [go_sem,reduceIte,reduceEqDiff,reduceAdd,reduceMul,reduceSub,reduceLeDiff,reduceLT,Nat.reduceBEq,reduceCtorEq,hlen]
  refine W_for (fun k T Hc M=>M=[]∧getT T 1=.fn 85 [] []∧getT T 8=v∧getT T 9=i64 (l.length:Nat)∧getT T 10=i64 k∧Old H.n H Hc ∧ ∃ t,getT T 5=.ps t (strs ((l.take k).map (·.name)))∧AppB H.n Hc t (strs ((l.take k).map (·.name))) 1 9) l.length ?_ ?_ ?_
  · simp (config:={ maxDischargeDepth:=12 }) only [go_sem,reduceIte,reduceEqDiff,reduceAdd,reduceMul,reduceSub,reduceLeDiff,reduceLT,Nat.reduceBEq,reduceCtorEq];exact ⟨.nil,rfl,.inl ⟨rfl,rfl⟩⟩
  · rintro k T Hc M hk ⟨rfl,g1,g8,g9,g10,hO,t,g5,hA⟩
    obtain ⟨x,hx⟩:∃ x,l[k]? = some x:=⟨l[k],by simp⟩
    have hw:=wrap_succ hk hl
    have hN:=eq_true hO.1
    have hi:=hs.idx (t:=99) (by kernel_rfl) (by kernel_rfl) (rows_Len (by intro x;rfl) l) (by rw [List.length_map];exact hk) .i64
    have hd:=hs.ld (by kernel_rfl) (by kernel_rfl) (rows_Len (by intro x;rfl) l) (map_at hx) hO
    have hA1:=hA.new (.cells (default:List AV) 0) (.cells (Pos.Trk.row x) 137)
    have hz:∃ z,zeroOf NC.P 137=some z:=⟨_,ze_137⟩
    obtain ⟨z,hz⟩:=hz
    have hA1:=hA.new (.cells z.cells 137) (.cells (Pos.Trk.row x) 137)
    obtain ⟨t',H',ha,hA',_,hO',_⟩:=app_b (lo:=H.n) hA1 (by simp;have:=hO.1;omega) (Nat.le_refl _) (r:=[.str x.name]) (by rw [strs_len,List.length_map,List.length_take];omega) rfl (by decide) (strs_all _)
    have e1:[AV.str x.name].map AV.strip0=[.str x.name]:=rfl
    rw [e1,← strs_take hx] at ha hA'
    have hO2:Old H.n H H':=(hO.new _ _).trans hO'
    rw [ze_137] at hz
    cases hz
    simp only [Pos.Trk.row] at hd ha
    simp (config:={ maxDischargeDepth:=12 }) only [go_sem,reduceIte,reduceEqDiff,reduceAdd,reduceMul,reduceSub,reduceLeDiff,reduceLT,Nat.reduceBEq,reduceCtorEq] at ha
    have hp:=pe85 x
    simp only [Pos.Trk.row] at hp
    simp (config:={ maxDischargeDepth:=12 }) only [go_sem,reduceIte,reduceEqDiff,reduceAdd,reduceMul,reduceSub,reduceLeDiff,reduceLT,Nat.reduceBEq,reduceCtorEq,g1,g5,g8,g9,g10,hk,hw,hN,hi,hd,hp,appO,ha]
    exact ⟨hO2,t',rfl,hA'⟩
  · rintro T Hc M ⟨rfl,g1,g8,g9,g10,hO,t,g5,hA⟩
    rw [List.take_length] at g5 hA
    simp (config:={ maxDischargeDepth:=12 }) only [go_sem,reduceIte,reduceEqDiff,reduceAdd,reduceMul,reduceSub,reduceLeDiff,reduceLT,Nat.reduceBEq,reduceCtorEq,g1,g5,g8,g9,g10,Nat.lt_irrefl]
    exact ⟨t,rfl,hA,hO⟩)
 exact ⟨t,H2,h1,h2⟩
theorem e_mapT_names_1 {H : Heap} {v : AV} {l : List Trk} (hs : Sl H v 2 137 (l.map Pos.Trk.row)) (hl : l.length ≤ maxRows) {Hc : Heap} (ho : Old H.n H Hc) {lo : Nat} {K : AV → Heap → Prop} : VO (aenter PT (R PT) lo 84 [strp v, .fn 85 [] []] Hc) K = K (.ps .unk (strs (l.map (·.name)))) Hc := by
 obtain ⟨t, H2, h1, _⟩ := r_mapT_names_1 (hs.old ho).strip hl
 exact enter_p (en84 rfl) ⟨H2, h1⟩ rfl rfl
theorem r_mapF_names_2 {H:Heap} {v:AV} {l:List Flt} (hs:Sl H v 7 97 (l.map Pos.Flt.row)) (hl:l.length≤maxRows):∃ t H2,R PT (.call H.n 34 [v,.fn 86 [] []] H)=some (.ofVal (.ps t (strs (l.map (·.name)))) H2)∧AppB H.n H2 t (strs (l.map (·.name))) 1 9∧Old H.n H H2:=by
 obtain ⟨w,H2,h1,t,rfl,h2⟩:=R_of_body (C:=PT) (f:=34) (lo:=H.n) (args:=[v,.fn 86 [] []]) (H:=H) (fn:=Tryz.f34) (Q:=fun w H2=>∃ t,w=.ps t (strs (l.map (·.name)))∧AppB H.n H2 t (strs (l.map (·.name))) 1 9∧Old H.n H H2) (by kernel_rfl) Tryz.func34 rfl rfl (by
  have hlen:=fun H'=>hs.len (t:=98) (by kernel_rfl) H'
  simp only [List.length_map] at hlen
  simp (config:={ maxDischargeDepth:=12 }) only [go_sem,reduceIte,reduceEqDiff,reduceAdd,reduceMul,reduceSub,reduceLeDiff,reduceLT,Nat.reduceBEq,reduceCtorEq,hlen]
  refine W_for (fun k T Hc M=>M=[]∧getT T 1=.fn 86 [] []∧getT T 8=v∧getT T 9=i64 (l.length:Nat)∧getT T 10=i64 k∧Old H.n H Hc ∧ ∃ t,getT T 5=.ps t (strs ((l.take k).map (·.name)))∧AppB H.n Hc t (strs ((l.take k).map (·.name))) 1 9) l.length ?_ ?_ ?_
  · simp (config:={ maxDischargeDepth:=12 }) only [go_sem,reduceIte,reduceEqDiff,reduceAdd,reduceMul,reduceSub,reduceLeDiff,reduceLT,Nat.reduceBEq,reduceCtorEq];exact ⟨.nil,rfl,.inl ⟨rfl,rfl⟩⟩
  · rintro k T Hc M hk ⟨rfl,g1,g8,g9,g10,hO,t,g5,hA⟩
    obtain ⟨x,hx⟩:∃ x,l[k]? = some x:=⟨l[k],by simp⟩
    have hw:=wrap_succ hk hl
    have hN:=eq_true hO.1
    have hi:=hs.idx (t:=98) (by kernel_rfl) (by kernel_rfl) (rows_Len (by intro x;rfl) l) (by rw [List.length_map];exact hk) .i64
    have hd:=hs.ld (by kernel_rfl) (by kernel_rfl) (rows_Len (by intro x;rfl) l) (map_at hx) hO
    have hA1:=hA.new (.cells (default:List AV) 0) (.cells (Pos.Flt.row x) 97)
    have hz:∃ z,zeroOf NC.P 97=some z:=⟨_,ze_97⟩
    obtain ⟨z,hz⟩:=hz
    have hA1:=hA.new (.cells z.cells 97) (.cells (Pos.Flt.row x) 97)
    obtain ⟨t',H',ha,hA',_,hO',_⟩:=app_b (lo:=H.n) hA1 (by simp;have:=hO.1;omega) (Nat.le_refl _) (r:=[.str x.name]) (by rw [strs_len,List.length_map,List.length_take];omega) rfl (by decide) (strs_all _)
    have e1:[AV.str x.name].map AV.strip0=[.str x.name]:=rfl
    rw [e1,← strs_take hx] at ha hA'
    have hO2:Old H.n H H':=(hO.new _ _).trans hO'
    rw [ze_97] at hz
    cases hz
    simp only [Pos.Flt.row] at hd ha
    simp (config:={ maxDischargeDepth:=12 }) only [go_sem,reduceIte,reduceEqDiff,reduceAdd,reduceMul,reduceSub,reduceLeDiff,reduceLT,Nat.reduceBEq,reduceCtorEq] at ha
    have hp:=pe86 x
    simp only [Pos.Flt.row] at hp
    simp (config:={ maxDischargeDepth:=12 }) only [go_sem,reduceIte,reduceEqDiff,reduceAdd,reduceMul,reduceSub,reduceLeDiff,reduceLT,Nat.reduceBEq,reduceCtorEq,g1,g5,g8,g9,g10,hk,hw,hN,hi,hd,hp,appO,ha]
    exact ⟨hO2,t',rfl,hA'⟩
  · rintro T Hc M ⟨rfl,g1,g8,g9,g10,hO,t,g5,hA⟩
    rw [List.take_length] at g5 hA
    simp (config:={ maxDischargeDepth:=12 }) only [go_sem,reduceIte,reduceEqDiff,reduceAdd,reduceMul,reduceSub,reduceLeDiff,reduceLT,Nat.reduceBEq,reduceCtorEq,g1,g5,g8,g9,g10,Nat.lt_irrefl]
    exact ⟨t,rfl,hA,hO⟩)
 exact ⟨t,H2,h1,h2⟩
theorem e_mapF_names_2 {H : Heap} {v : AV} {l : List Flt} (hs : Sl H v 7 97 (l.map Pos.Flt.row)) (hl : l.length ≤ maxRows) {Hc : Heap} (ho : Old H.n H Hc) {lo : Nat} {K : AV → Heap → Prop} : VO (aenter PT (R PT) lo 34 [strp v, .fn 86 [] []] Hc) K = K (.ps .unk (strs (l.map (·.name)))) Hc := by
 obtain ⟨t, H2, h1, _⟩ := r_mapF_names_2 (hs.old ho).strip hl
 exact enter_p (en34 rfl) ⟨H2, h1⟩ rfl rfl
theorem r_mapR_names_3 {H:Heap} {v:AV} {l:List Trn} (hs:Sl H v 3 165 (l.map Pos.Trn.row)) (hl:l.length≤maxRows):∃ t H2,R PT (.call H.n 87 [v,.fn 88 [] []] H)=some (.ofVal (.ps t (strs (l.map (·.name)))) H2)∧AppB H.n H2 t (strs (l.map (·.name))) 1 9∧Old H.n H H2:=by
 obtain ⟨w,H2,h1,t,rfl,h2⟩:=R_of_body (C:=PT) (f:=87) (lo:=H.n) (args:=[v,.fn 88 [] []]) (H:=H) (fn:=Tryz.f87) (Q:=fun w H2=>∃ t,w=.ps t (strs (l.map (·.name)))∧AppB H.n H2 t (strs (l.map (·.name))) 1 9∧Old H.n H H2) (by kernel_rfl) Tryz.func87 rfl rfl (by
  have hlen:=fun H'=>hs.len (t:=100) (by kernel_rfl) H'
  simp only [List.length_map] at hlen
  simp (config:={ maxDischargeDepth:=12 }) only [go_sem,reduceIte,reduceEqDiff,reduceAdd,reduceMul,reduceSub,reduceLeDiff,reduceLT,Nat.reduceBEq,reduceCtorEq,hlen]
  refine W_for (fun k T Hc M=>M=[]∧getT T 1=.fn 88 [] []∧getT T 8=v∧getT T 9=i64 (l.length:Nat)∧getT T 10=i64 k∧Old H.n H Hc ∧ ∃ t,getT T 5=.ps t (strs ((l.take k).map (·.name)))∧AppB H.n Hc t (strs ((l.take k).map (·.name))) 1 9) l.length ?_ ?_ ?_
  · simp (config:={ maxDischargeDepth:=12 }) only [go_sem,reduceIte,reduceEqDiff,reduceAdd,reduceMul,reduceSub,reduceLeDiff,reduceLT,Nat.reduceBEq,reduceCtorEq];exact ⟨.nil,rfl,.inl ⟨rfl,rfl⟩⟩
  · rintro k T Hc M hk ⟨rfl,g1,g8,g9,g10,hO,t,g5,hA⟩
    obtain ⟨x,hx⟩:∃ x,l[k]? = some x:=⟨l[k],by simp⟩
    have hw:=wrap_succ hk hl
    have hN:=eq_true hO.1
    have hi:=hs.idx (t:=100) (by kernel_rfl) (by kernel_rfl) (rows_Len (by intro x;rfl) l) (by rw [List.length_map];exact hk) .i64
    have hd:=hs.ld (by kernel_rfl) (by kernel_rfl) (rows_Len (by intro x;rfl) l) (map_at hx) hO
    have hA1:=hA.new (.cells (default:List AV) 0) (.cells (Pos.Trn.row x) 165)
    have hz:∃ z,zeroOf NC.P 165=some z:=⟨_,ze_165⟩
    obtain ⟨z,hz⟩:=hz
    have hA1:=hA.new (.cells z.cells 165) (.cells (Pos.Trn.row x) 165)
    obtain ⟨t',H',ha,hA',_,hO',_⟩:=app_b (lo:=H.n) hA1 (by simp;have:=hO.1;omega) (Nat.le_refl _) (r:=[.str x.name]) (by rw [strs_len,List.length_map,List.length_take];omega) rfl (by decide) (strs_all _)
    have e1:[AV.str x.name].map AV.strip0=[.str x.name]:=rfl
    rw [e1,← strs_take hx] at ha hA'
    have hO2:Old H.n H H':=(hO.new _ _).trans hO'
    rw [ze_165] at hz
    cases hz
    simp only [Pos.Trn.row] at hd ha
    simp (config:={ maxDischargeDepth:=12 }) only [go_sem,reduceIte,reduceEqDiff,reduceAdd,reduceMul,reduceSub,reduceLeDiff,reduceLT,Nat.reduceBEq,reduceCtorEq] at ha
    have hp:=pe88 x
    simp only [Pos.Trn.row] at hp
    simp (config:={ maxDischargeDepth:=12 }) only [go_sem,reduceIte,reduceEqDiff,reduceAdd,reduceMul,reduceSub,reduceLeDiff,reduceLT,Nat.reduceBEq,reduceCtorEq,g1,g5,g8,g9,g10,hk,hw,hN,hi,hd,hp,appO,ha]
    exact ⟨hO2,t',rfl,hA'⟩
  · rintro T Hc M ⟨rfl,g1,g8,g9,g10,hO,t,g5,hA⟩
    rw [List.take_length] at g5 hA
    simp (config:={ maxDischargeDepth:=12 }) only [go_sem,reduceIte,reduceEqDiff,reduceAdd,reduceMul,reduceSub,reduceLeDiff,reduceLT,Nat.reduceBEq,reduceCtorEq,g1,g5,g8,g9,g10,Nat.lt_irrefl]
    exact ⟨t,rfl,hA,hO⟩)
 exact ⟨t,H2,h1,h2⟩
theorem e_mapR_names_3 {H : Heap} {v : AV} {l : List Trn} (hs : Sl H v 3 165 (l.map Pos.Trn.row)) (hl : l.length ≤ maxRows) {Hc : Heap} (ho : Old H.n H Hc) {lo : Nat} {K : AV → Heap → Prop} : VO (aenter PT (R PT) lo 87 [strp v, .fn 88 [] []] Hc) K = K (.ps .unk (strs (l.map (·.name)))) Hc := by
 obtain ⟨t, H2, h1, _⟩ := r_mapR_names_3 (hs.old ho).strip hl
 exact enter_p (en87 rfl) ⟨H2, h1⟩ rfl rfl
theorem r_mapP_names_4 {H:Heap} {v:AV} {l:List Pos} (hs:Sl H v 10 141 (l.map Pos.Pos.row)) (hl:l.length≤maxRows):∃ t H2,R PT (.call H.n 89 [v,.fn 90 [] []] H)=some (.ofVal (.ps t (strs (l.map (·.name)))) H2)∧AppB H.n H2 t (strs (l.map (·.name))) 1 9∧Old H.n H H2:=by
 obtain ⟨w,H2,h1,t,rfl,h2⟩:=R_of_body (C:=PT) (f:=89) (lo:=H.n) (args:=[v,.fn 90 [] []]) (H:=H) (fn:=Tryz.f89) (Q:=fun w H2=>∃ t,w=.ps t (strs (l.map (·.name)))∧AppB H.n H2 t (strs (l.map (·.name))) 1 9∧Old H.n H H2) (by kernel_rfl) Tryz.func89 rfl rfl (by
  have hlen:=fun H'=>hs.len (t:=101) (by kernel_rfl) H'
  simp only [List.length_map] at hlen
  simp (config:={ maxDischargeDepth:=12 }) only [go_sem,reduceIte,reduceEqDiff,reduceAdd,reduceMul,reduceSub,reduceLeDiff,reduceLT,Nat.reduceBEq,reduceCtorEq,hlen]
  refine W_for (fun k T Hc M=>M=[]∧getT T 1=.fn 90 [] []∧getT T 8=v∧getT T 9=i64 (l.length:Nat)∧getT T 10=i64 k∧Old H.n H Hc ∧ ∃ t,getT T 5=.ps t (strs ((l.take k).map (·.name)))∧AppB H.n Hc t (strs ((l.take k).map (·.name))) 1 9) l.length ?_ ?_ ?_
  · simp (config:={ maxDischargeDepth:=12 }) only [go_sem,reduceIte,reduceEqDiff,reduceAdd,reduceMul,reduceSub,reduceLeDiff,reduceLT,Nat.reduceBEq,reduceCtorEq];exact ⟨.nil,rfl,.inl ⟨rfl,rfl⟩⟩
  · rintro k T Hc M hk ⟨rfl,g1,g8,g9,g10,hO,t,g5,hA⟩
    obtain ⟨x,hx⟩:∃ x,l[k]? = some x:=⟨l[k],by simp⟩
    have hw:=wrap_succ hk hl
    have hN:=eq_true hO.1
    have hi:=hs.idx (t:=101) (by kernel_rfl) (by kernel_rfl) (rows_Len (by intro x;rfl) l) (by rw [List.length_map];exact hk) .i64
    have hd:=hs.ld (by kernel_rfl) (by kernel_rfl) (rows_Len (by intro x;rfl) l) (map_at hx) hO
    have hA1:=hA.new (.cells (default:List AV) 0) (.cells (Pos.Pos.row x) 141)
    have hz:∃ z,zeroOf NC.P 141=some z:=⟨_,ze_141⟩
    obtain ⟨z,hz⟩:=hz
    have hA1:=hA.new (.cells z.cells 141) (.cells (Pos.Pos.row x) 141)
    obtain ⟨t',H',ha,hA',_,hO',_⟩:=app_b (lo:=H.n) hA1 (by simp;have:=hO.1;omega) (Nat.le_refl _) (r:=[.str x.name]) (by rw [strs_len,List.length_map,List.length_take];omega) rfl (by decide) (strs_all _)
    have e1:[AV.str x.name].map AV.strip0=[.str x.name]:=rfl
    rw [e1,← strs_take hx] at ha hA'
    have hO2:Old H.n H H':=(hO.new _ _).trans hO'
    rw [ze_141] at hz
    cases hz
    simp only [Pos.Pos.row] at hd ha
    simp (config:={ maxDischargeDepth:=12 }) only [go_sem,reduceIte,reduceEqDiff,reduceAdd,reduceMul,reduceSub,reduceLeDiff,reduceLT,Nat.reduceBEq,reduceCtorEq] at ha
    have hp:=pe90 x
    simp only [Pos.Pos.row] at hp
    simp (config:={ maxDischargeDepth:=12 }) only [go_sem,reduceIte,reduceEqDiff,reduceAdd,reduceMul,reduceSub,reduceLeDiff,reduceLT,Nat.reduceBEq,reduceCtorEq,g1,g5,g8,g9,g10,hk,hw,hN,hi,hd,hp,appO,ha]
    exact ⟨hO2,t',rfl,hA'⟩
  · rintro T Hc M ⟨rfl,g1,g8,g9,g10,hO,t,g5,hA⟩
    rw [List.take_length] at g5 hA
    simp (config:={ maxDischargeDepth:=12 }) only [go_sem,reduceIte,reduceEqDiff,reduceAdd,reduceMul,reduceSub,reduceLeDiff,reduceLT,Nat.reduceBEq,reduceCtorEq,g1,g5,g8,g9,g10,Nat.lt_irrefl]
    exact ⟨t,rfl,hA,hO⟩)
 exact ⟨t,H2,h1,h2⟩
theorem e_mapP_names_4 {H : Heap} {v : AV} {l : List Pos} (hs : Sl H v 10 141 (l.map Pos.Pos.row)) (hl : l.length ≤ maxRows) {Hc : Heap} (ho : Old H.n H Hc) {lo : Nat} {K : AV → Heap → Prop} : VO (aenter PT (R PT) lo 89 [strp v, .fn 90 [] []] Hc) K = K (.ps .unk (strs (l.map (·.name)))) Hc := by
 obtain ⟨t, H2, h1, _⟩ := r_mapP_names_4 (hs.old ho).strip hl
 exact enter_p (en89 rfl) ⟨H2, h1⟩ rfl rfl
theorem r_mapM_names_5 {H:Heap} {v:AV} {l:List Mch} (hs:Sl H v 2 171 (l.map Pos.Mch.row)) (hl:l.length≤maxRows):∃ t H2,R PT (.call H.n 91 [v,.fn 92 [] []] H)=some (.ofVal (.ps t (strs (l.map (·.name)))) H2)∧AppB H.n H2 t (strs (l.map (·.name))) 1 9∧Old H.n H H2:=by
 obtain ⟨w,H2,h1,t,rfl,h2⟩:=R_of_body (C:=PT) (f:=91) (lo:=H.n) (args:=[v,.fn 92 [] []]) (H:=H) (fn:=Tryz.f91) (Q:=fun w H2=>∃ t,w=.ps t (strs (l.map (·.name)))∧AppB H.n H2 t (strs (l.map (·.name))) 1 9∧Old H.n H H2) (by kernel_rfl) Tryz.func91 rfl rfl (by
  have hlen:=fun H'=>hs.len (t:=102) (by kernel_rfl) H'
  simp only [List.length_map] at hlen
  simp (config:={ maxDischargeDepth:=12 }) only [go_sem,reduceIte,reduceEqDiff,reduceAdd,reduceMul,reduceSub,reduceLeDiff,reduceLT,Nat.reduceBEq,reduceCtorEq,hlen]
  refine W_for (fun k T Hc M=>M=[]∧getT T 1=.fn 92 [] []∧getT T 8=v∧getT T 9=i64 (l.length:Nat)∧getT T 10=i64 k∧Old H.n H Hc ∧ ∃ t,getT T 5=.ps t (strs ((l.take k).map (·.name)))∧AppB H.n Hc t (strs ((l.take k).map (·.name))) 1 9) l.length ?_ ?_ ?_
  · simp (config:={ maxDischargeDepth:=12 }) only [go_sem,reduceIte,reduceEqDiff,reduceAdd,reduceMul,reduceSub,reduceLeDiff,reduceLT,Nat.reduceBEq,reduceCtorEq];exact ⟨.nil,rfl,.inl ⟨rfl,rfl⟩⟩
  · rintro k T Hc M hk ⟨rfl,g1,g8,g9,g10,hO,t,g5,hA⟩
    obtain ⟨x,hx⟩:∃ x,l[k]? = some x:=⟨l[k],by simp⟩
    have hw:=wrap_succ hk hl
    have hN:=eq_true hO.1
    have hi:=hs.idx (t:=102) (by kernel_rfl) (by kernel_rfl) (rows_Len (by intro x;rfl) l) (by rw [List.length_map];exact hk) .i64
    have hd:=hs.ld (by kernel_rfl) (by kernel_rfl) (rows_Len (by intro x;rfl) l) (map_at hx) hO
    have hA1:=hA.new (.cells (default:List AV) 0) (.cells (Pos.Mch.row x) 171)
    have hz:∃ z,zeroOf NC.P 171=some z:=⟨_,ze_171⟩
    obtain ⟨z,hz⟩:=hz
    have hA1:=hA.new (.cells z.cells 171) (.cells (Pos.Mch.row x) 171)
    obtain ⟨t',H',ha,hA',_,hO',_⟩:=app_b (lo:=H.n) hA1 (by simp;have:=hO.1;omega) (Nat.le_refl _) (r:=[.str x.name]) (by rw [strs_len,List.length_map,List.length_take];omega) rfl (by decide) (strs_all _)
    have e1:[AV.str x.name].map AV.strip0=[.str x.name]:=rfl
    rw [e1,← strs_take hx] at ha hA'
    have hO2:Old H.n H H':=(hO.new _ _).trans hO'
    rw [ze_171] at hz
    cases hz
    simp only [Pos.Mch.row] at hd ha
    simp (config:={ maxDischargeDepth:=12 }) only [go_sem,reduceIte,reduceEqDiff,reduceAdd,reduceMul,reduceSub,reduceLeDiff,reduceLT,Nat.reduceBEq,reduceCtorEq] at ha
    have hp:=pe92 x
    simp only [Pos.Mch.row] at hp
    simp (config:={ maxDischargeDepth:=12 }) only [go_sem,reduceIte,reduceEqDiff,reduceAdd,reduceMul,reduceSub,reduceLeDiff,reduceLT,Nat.reduceBEq,reduceCtorEq,g1,g5,g8,g9,g10,hk,hw,hN,hi,hd,hp,appO,ha]
    exact ⟨hO2,t',rfl,hA'⟩
  · rintro T Hc M ⟨rfl,g1,g8,g9,g10,hO,t,g5,hA⟩
    rw [List.take_length] at g5 hA
    simp (config:={ maxDischargeDepth:=12 }) only [go_sem,reduceIte,reduceEqDiff,reduceAdd,reduceMul,reduceSub,reduceLeDiff,reduceLT,Nat.reduceBEq,reduceCtorEq,g1,g5,g8,g9,g10,Nat.lt_irrefl]
    exact ⟨t,rfl,hA,hO⟩)
 exact ⟨t,H2,h1,h2⟩
theorem r_mapM_holds_2 {H:Heap} {v:AV} {l:List Mch} (hs:Sl H v 2 171 (l.map Pos.Mch.row)) (hl:l.length≤maxRows):∃ t H2,R PT (.call H.n 91 [v,.fn 149 [] []] H)=some (.ofVal (.ps t (strs (l.map (·.name)))) H2)∧AppB H.n H2 t (strs (l.map (·.name))) 1 9∧Old H.n H H2:=by
 obtain ⟨w,H2,h1,t,rfl,h2⟩:=R_of_body (C:=PT) (f:=91) (lo:=H.n) (args:=[v,.fn 149 [] []]) (H:=H) (fn:=Tryz.f91) (Q:=fun w H2=>∃ t,w=.ps t (strs (l.map (·.name)))∧AppB H.n H2 t (strs (l.map (·.name))) 1 9∧Old H.n H H2) (by kernel_rfl) Tryz.func91 rfl rfl (by
  have hlen:=fun H'=>hs.len (t:=102) (by kernel_rfl) H'
  simp only [List.length_map] at hlen
  simp (config:={ maxDischargeDepth:=12 }) only [go_sem,reduceIte,reduceEqDiff,reduceAdd,reduceMul,reduceSub,reduceLeDiff,reduceLT,Nat.reduceBEq,reduceCtorEq,hlen]
  refine W_for (fun k T Hc M=>M=[]∧getT T 1=.fn 149 [] []∧getT T 8=v∧getT T 9=i64 (l.length:Nat)∧getT T 10=i64 k∧Old H.n H Hc ∧ ∃ t,getT T 5=.ps t (strs ((l.take k).map (·.name)))∧AppB H.n Hc t (strs ((l.take k).map (·.name))) 1 9) l.length ?_ ?_ ?_
  · simp (config:={ maxDischargeDepth:=12 }) only [go_sem,reduceIte,reduceEqDiff,reduceAdd,reduceMul,reduceSub,reduceLeDiff,reduceLT,Nat.reduceBEq,reduceCtorEq];exact ⟨.nil,rfl,.inl ⟨rfl,rfl⟩⟩
  · rintro k T Hc M hk ⟨rfl,g1,g8,g9,g10,hO,t,g5,hA⟩
    obtain ⟨x,hx⟩:∃ x,l[k]? = some x:=⟨l[k],by simp⟩
    have hw:=wrap_succ hk hl
    have hN:=eq_true hO.1
    have hi:=hs.idx (t:=102) (by kernel_rfl) (by kernel_rfl) (rows_Len (by intro x;rfl) l) (by rw [List.length_map];exact hk) .i64
    have hd:=hs.ld (by kernel_rfl) (by kernel_rfl) (rows_Len (by intro x;rfl) l) (map_at hx) hO
    have hA1:=hA.new (.cells (default:List AV) 0) (.cells (Pos.Mch.row x) 171)
    have hz:∃ z,zeroOf NC.P 171=some z:=⟨_,ze_171⟩
    obtain ⟨z,hz⟩:=hz
    have hA1:=hA.new (.cells z.cells 171) (.cells (Pos.Mch.row x) 171)
    obtain ⟨t',H',ha,hA',_,hO',_⟩:=app_b (lo:=H.n) hA1 (by simp;have:=hO.1;omega) (Nat.le_refl _) (r:=[.str x.name]) (by rw [strs_len,List.length_map,List.length_take];omega) rfl (by decide) (strs_all _)
    have e1:[AV.str x.name].map AV.strip0=[.str x.name]:=rfl
    rw [e1,← strs_take hx] at ha hA'
    have hO2:Old H.n H H':=(hO.new _ _).trans hO'
    rw [ze_171] at hz
    cases hz
    simp only [Pos.Mch.row] at hd ha
    simp (config:={ maxDischargeDepth:=12 }) only [go_sem,reduceIte,reduceEqDiff,reduceAdd,reduceMul,reduceSub,reduceLeDiff,reduceLT,Nat.reduceBEq,reduceCtorEq] at ha
    have hp:=pe149 x
    simp only [Pos.Mch.row] at hp
    simp (config:={ maxDischargeDepth:=12 }) only [go_sem,reduceIte,reduceEqDiff,reduceAdd,reduceMul,reduceSub,reduceLeDiff,reduceLT,Nat.reduceBEq,reduceCtorEq,g1,g5,g8,g9,g10,hk,hw,hN,hi,hd,hp,appO,ha]
    exact ⟨hO2,t',rfl,hA'⟩
  · rintro T Hc M ⟨rfl,g1,g8,g9,g10,hO,t,g5,hA⟩
    rw [List.take_length] at g5 hA
    simp (config:={ maxDischargeDepth:=12 }) only [go_sem,reduceIte,reduceEqDiff,reduceAdd,reduceMul,reduceSub,reduceLeDiff,reduceLT,Nat.reduceBEq,reduceCtorEq,g1,g5,g8,g9,g10,Nat.lt_irrefl]
    exact ⟨t,rfl,hA,hO⟩)
 exact ⟨t,H2,h1,h2⟩
def PA (H:Heap) (v:AV) (sz:Nat) (te:TypeId) (rows:List (List AV)):Prop:=∃ t,v=.ps t rows∧AppB 0 H t rows sz te
theorem PA.old {H H':Heap} {v:AV} {sz:Nat} {te:TypeId} {rows:List (List AV)} (h:PA H v sz te rows) (ho:Old H.n H H'):PA H' v sz te rows:=by
 obtain ⟨t,h1,h2 | ⟨j,h2,h3,h4,h5,h6⟩⟩:=h
 · exact ⟨t,h1,.inl h2⟩
 · exact ⟨t,h1,.inr ⟨j,h2,h3,h4,Nat.lt_of_lt_of_le h5 ho.1,by rw [ho.2 j h5];exact h6⟩⟩
theorem PA.sl {H:Heap} {v:AV} {sz:Nat} {te:TypeId} {rows:List (List AV)} (h:PA H v sz te rows):Sl H v sz te rows:=by
 obtain ⟨t,rfl,⟨rfl,rfl⟩ | ⟨j,rfl,_,_,h5,_⟩⟩:=h
 · exact .inl ⟨_,rfl,rfl⟩
 · exact .inl ⟨_,rfl,by simp only [AV.under,Nat.blt_eq];exact h5⟩
theorem sv_old {H H':Heap} {v:AV} {sz:Nat} {te:TypeId} {rows:List (List AV)} (h:Pos.SV sz te H v rows) (ho:Old H.n H H'):Pos.SV sz te H' v rows:=by
 rcases h with h | ⟨id,cs,m,h1,h2,h3,h4⟩
 · exact .inl h
 · exact .inr ⟨id,cs,m,h1,Nat.lt_of_lt_of_le h2 ho.1,by rw [ho.2 id h2];exact h3,h4⟩
theorem sv_sl {H:Heap} {v:AV} {sz:Nat} {te:TypeId} {rows:List (List AV)} (h:Pos.SV sz te H v rows):Sl H v sz te rows:=by
 rcases h with ⟨rfl,rfl⟩ | ⟨id,cs,m,h1,h2,h3,h4⟩
 · exact .inl ⟨_,rfl,rfl⟩
 · exact .inr ⟨id,cs,h1,h2,h3⟩
structure RegV where
 vT:AV
 vF:AV
 vR:AV
 vP:AV
 vM:AV
def regC (r:Reg) (V:RegV):List AV:=[i64 r.tick,V.vT,V.vF,V.vR,V.vP,V.vM]
structure RegIs (H:Heap) (b o:Nat) (r:Reg) (V:RegV):Prop where
 bn:b < H.n
 cs:∃ pre post e,H.get b=.cells (pre++(regC r V++post)) e∧pre.length=o
 aT:PA H V.vT 2 137 (r.tracks.map Pos.Trk.row)
 aF:Pos.SV 7 97 H V.vF (r.faults.map Pos.Flt.row)
 aR:PA H V.vR 3 165 (r.trains.map Pos.Trn.row)
 aP:Pos.SV 10 141 H V.vP (r.poss.map Pos.Pos.row)
 aM:PA H V.vM 2 171 (r.machs.map Pos.Mch.row)
 lT:r.tracks.length≤maxRows
 lF:r.faults.length≤maxRows
 lR:r.trains.length≤maxRows
 lP:r.poss.length≤maxRows
 lM:r.machs.length≤maxRows
section
variable {H H':Heap} {b o:Nat} {r:Reg} {V:RegV}
theorem RegIs.sT (h:RegIs H b o r V):Sl H V.vT 2 137 (r.tracks.map Pos.Trk.row):=h.aT.sl
theorem RegIs.sF (h:RegIs H b o r V):Sl H V.vF 7 97 (r.faults.map Pos.Flt.row):=sv_sl h.aF
theorem RegIs.sR (h:RegIs H b o r V):Sl H V.vR 3 165 (r.trains.map Pos.Trn.row):=h.aR.sl
theorem RegIs.sP (h:RegIs H b o r V):Sl H V.vP 10 141 (r.poss.map Pos.Pos.row):=sv_sl h.aP
theorem RegIs.sM (h:RegIs H b o r V):Sl H V.vM 2 171 (r.machs.map Pos.Mch.row):=h.aM.sl
theorem RegIs.old (h:RegIs H b o r V) (ho:Old H.n H H'):RegIs H' b o r V:=by
 obtain ⟨pre,post,e,h1,h2⟩:=h.cs
 exact ⟨Nat.lt_of_lt_of_le h.bn ho.1,⟨pre,post,e,by rw [ho.2 b h.bn];exact h1,h2⟩,h.aT.old ho,sv_old h.aF ho,h.aR.old ho,sv_old h.aP ho,h.aM.old ho,h.lT,h.lF,h.lR,h.lP,h.lM⟩
theorem RegIs.ld (h:RegIs H b o r V) {i:Nat} {v:AV} (hi:(regC r V)[i]? = some v) {t:TypeId} (hs:(szOf NC.P t).isSome=true) (hg:aggOf NC.P t=some false) (ho:Old H.n H H'):sld H' t (.ptr b (o+i))=some v:=by
 obtain ⟨pre,post,e,h1,h2⟩:=h.cs
 have hlt:i < (regC r V).length:=(List.getElem?_eq_some_iff.1 hi).1
 obtain ⟨n,hn⟩:=Option.isSome_iff_exists.1 hs
 have hsub:sub? (pre++(regC r V++post)) (o+i) 1=some [v]:=by
  unfold sub?
  rw [if_pos (by simp only [List.length_append];omega)]
  have e1:(pre++(regC r V++post)).drop (o+i)=(regC r V++post).drop i:=by
   rw [← h2,List.drop_length_add_append]
  rw [e1,List.drop_append_of_le_length (by omega),List.drop_eq_getElem_cons hlt,(List.getElem?_eq_some_iff.1 hi).2]
  rfl
 show aload NC.P H' t (.ptr b (o+i))=some v
 unfold aload
 simp only [hn,hg,readCells,ho.2 b h.bn,h1,blkCells,if_false,hsub,loadV,Bool.false_eq_true]
theorem RegIs.l1 (h:RegIs H b o r V) (ho:Old H.n H H'):sld H' 99 (.ptr b (o+1))=some V.vT:=h.ld (i:=1) rfl (by kernel_rfl) (by kernel_rfl) ho
theorem RegIs.l2 (h:RegIs H b o r V) (ho:Old H.n H H'):sld H' 98 (.ptr b (o+2))=some V.vF:=h.ld (i:=2) rfl (by kernel_rfl) (by kernel_rfl) ho
theorem RegIs.l3 (h:RegIs H b o r V) (ho:Old H.n H H'):sld H' 100 (.ptr b (o+3))=some V.vR:=h.ld (i:=3) rfl (by kernel_rfl) (by kernel_rfl) ho
theorem RegIs.l4 (h:RegIs H b o r V) (ho:Old H.n H H'):sld H' 101 (.ptr b (o+4))=some V.vP:=h.ld (i:=4) rfl (by kernel_rfl) (by kernel_rfl) ho
theorem RegIs.l5 (h:RegIs H b o r V) (ho:Old H.n H H'):sld H' 102 (.ptr b (o+5))=some V.vM:=h.ld (i:=5) rfl (by kernel_rfl) (by kernel_rfl) ho
end
def namesR (r:Reg) (c:Int):List Nm:=if c=116 then r.tracks.map (·.name) else if c=102 then r.faults.map (·.name) else if c=114 then r.trains.map (·.name) else if c=112 then r.poss.map (·.name) else r.machs.map (·.name)
theorem en64 {P:FuncId→Option (List AV→Option AV)} (hP:P 64=none) {lo:Nat} {args:List AV} {H:Heap} {K:AV→Heap→Prop}:VO (aenter (NC.withPrims P) (R (NC.withPrims P)) lo 64 args H) K=AO (R (NC.withPrims P) (.call H.n 64 args H)) fun o=>o.val.strip.pure=true∧K o.val.strip H:=by
 refine enter_pure rfl ?_ (by kernel_rfl) (by kernel_rfl) (by kernel_rfl)
 show (match NC.prim 64 with | some p=>some p | none=>P 64)=none
 rw [hP];kernel_rfl
theorem r_names {H:Heap} {b o:Nat} {r:Reg} {V:RegV} (h:RegIs H b o r V) (c:Int):∃ w H2,R PT (.call H.n 64 [.ptr b o,.int .u8 c] H)=some (.ofVal w H2)∧w.strip=.ps .unk (strs (namesR r c)):=by
 refine R_of_body (C:=PT) (f:=64) (lo:=H.n) (args:=[.ptr b o,.int .u8 c]) (H:=H) (fn:=Tryz.f64) (Q:=fun w _=>w.strip=.ps .unk (strs (namesR r c))) (by kernel_rfl) Tryz.func64 rfl rfl ?_
 have l1:=fun H'=>h.l1 (H':=H')
 have l2:=fun H'=>h.l2 (H':=H')
 have l3:=fun H'=>h.l3 (H':=H')
 have l4:=fun H'=>h.l4 (H':=H')
 have l5:=fun H'=>h.l5 (H':=H')
 have m1:=fun Hc (ho:Old H.n H Hc) lo K=>e_mapT_names_1 h.sT h.lT ho (lo:=lo) (K:=K)
 have m2:=fun Hc (ho:Old H.n H Hc) lo K=>e_mapF_names_2 h.sF h.lF ho (lo:=lo) (K:=K)
 have m3:=fun Hc (ho:Old H.n H Hc) lo K=>e_mapR_names_3 h.sR h.lR ho (lo:=lo) (K:=K)
 have m4:=fun Hc (ho:Old H.n H Hc) lo K=>e_mapP_names_4 h.sP h.lP ho (lo:=lo) (K:=K)
 obtain ⟨t5,H5,hr5,_⟩:=r_mapM_names_5 h.sM.strip h.lM
 have m5:=fun lo K=>enter_n (K:=K) (en91 (lo:=lo) rfl) hr5
 unfold namesR
 by_cases c1:c=116
 · rw [if_pos c1];simp (config:={ maxDischargeDepth:=12 }) only [go_sem,reduceIte,reduceEqDiff,reduceAdd,reduceMul,reduceSub,reduceLeDiff,reduceLT,Nat.reduceBEq,reduceCtorEq,eq_true c1,l1,m1]
 rw [if_neg c1]
 by_cases c2:c=102
 · rw [if_pos c2];simp (config:={ maxDischargeDepth:=12 }) only [go_sem,reduceIte,reduceEqDiff,reduceAdd,reduceMul,reduceSub,reduceLeDiff,reduceLT,Nat.reduceBEq,reduceCtorEq,c1,eq_true c2,l2,m2]
 rw [if_neg c2]
 by_cases c3:c=114
 · rw [if_pos c3];simp (config:={ maxDischargeDepth:=12 }) only [go_sem,reduceIte,reduceEqDiff,reduceAdd,reduceMul,reduceSub,reduceLeDiff,reduceLT,Nat.reduceBEq,reduceCtorEq,c1,c2,eq_true c3,l3,m3]
 rw [if_neg c3]
 by_cases c4:c=112
 · rw [if_pos c4];simp (config:={ maxDischargeDepth:=12 }) only [go_sem,reduceIte,reduceEqDiff,reduceAdd,reduceMul,reduceSub,reduceLeDiff,reduceLT,Nat.reduceBEq,reduceCtorEq,c1,c2,c3,eq_true c4,l4,m4]
 rw [if_neg c4]
 have m5':∀ lo K,VO (aenter PT (R PT) lo 91 [strp V.vM,.fn 92 [] []] H) K=K (.ps t5 (strs (r.machs.map (·.name)))) H5:=m5
 simp (config:={ maxDischargeDepth:=12 }) only [go_sem,reduceIte,reduceEqDiff,reduceAdd,reduceMul,reduceSub,reduceLeDiff,reduceLT,Nat.reduceBEq,reduceCtorEq,c1,c2,c3,c4,l5,m5']
theorem e_names {H : Heap} {b o : Nat} {r : Reg} {V : RegV} (h : RegIs H b o r V) (c : Int) {Hc : Heap} (ho : Old H.n H Hc) {lo : Nat} {K : AV → Heap → Prop} : VO (aenter PT (R PT) lo 64 [.ptr b o, .int .u8 c] Hc) K = K (.ps .unk (strs (namesR r c))) Hc := by
 obtain ⟨w, H2, h1, h2⟩ := r_names (h.old ho) c
 exact enter_p (en64 rfl) ⟨H2, h1⟩ h2 rfl
theorem idxW_idxN {α:Type} {nm:α→Nm} {x:Nm}:∀ {l:List α} {i:Nat},Pos.idxN nm x l=some i→idxW x (l.map nm)=(i:Int)
 | [],i,h=>by cases h
 | a::l,i,h=>by
   unfold Pos.idxN at h
   rw [List.map_cons]
   unfold idxW
   by_cases ha:nm a=x
   · rw [if_pos ha] at h ⊢
     cases h;rfl
   · rw [if_neg ha] at h ⊢
     cases hi:Pos.idxN nm x l with
     | none=>rw [hi] at h;cases h
     | some j =>
       rw [hi] at h
       have h:i=j+1:=(Option.some.inj h).symm
       rw [idxW_idxN hi,if_neg (by omega),h];omega
theorem en65 {P:FuncId→Option (List AV→Option AV)} (hP:P 65=none) {lo:Nat} {args:List AV} {H:Heap} {K:AV→Heap→Prop}:VO (aenter (NC.withPrims P) (R (NC.withPrims P)) lo 65 args H) K=AO (R (NC.withPrims P) (.call H.n 65 args H)) fun o=>K o.val o.s.H:=by
 refine enter_fresh rfl ?_ (by kernel_rfl) (by kernel_rfl) (by kernel_rfl)
 show (match NC.prim 65 with | some p=>some p | none=>P 65)=none
 rw [hP];kernel_rfl
theorem en103 {P:FuncId→Option (List AV→Option AV)} (hP:P 103=none) {lo:Nat} {args:List AV} {H:Heap} {K:AV→Heap→Prop}:VO (aenter (NC.withPrims P) (R (NC.withPrims P)) lo 103 args H) K=AO (R (NC.withPrims P) (.call H.n 103 args H)) fun o=>K o.val o.s.H:=by
 refine enter_fresh rfl ?_ (by kernel_rfl) (by kernel_rfl) (by kernel_rfl)
 show (match NC.prim 103 with | some p=>some p | none=>P 103)=none
 rw [hP];kernel_rfl
theorem en139 {P:FuncId→Option (List AV→Option AV)} (hP:P 139=none) {lo:Nat} {args:List AV} {H:Heap} {K:AV→Heap→Prop}:VO (aenter (NC.withPrims P) (R (NC.withPrims P)) lo 139 args H) K=AO (R (NC.withPrims P) (.call H.n 139 args H)) fun o=>K o.val o.s.H:=by
 refine enter_fresh rfl ?_ (by kernel_rfl) (by kernel_rfl) (by kernel_rfl)
 show (match NC.prim 139 with | some p=>some p | none=>P 139)=none
 rw [hP];kernel_rfl
theorem find_len {α:Type} {nm:α→Nm} {x:Nm} {l:List α} {y:α} (h:(l.find? fun z=>decide (nm z=x))=some y):∃ i:Nat,idxW x (l.map nm)=(i:Int)∧l[i]? = some y∧i < l.length∧nm y=x:=by
 obtain ⟨i,h1,h2,h3⟩:=Pos.idxN_find h
 obtain ⟨z,h4,h5,_,_⟩:=Pos.idxN_some h1
 rw [h2] at h4
 cases h4
 exact ⟨i,idxW_idxN h1,h2,h3,h5⟩
theorem r_track {H:Heap} {b o:Nat} {r:Reg} {V:RegV} (h:RegIs H b o r V) {x:Nm} {i:Nat} (hi:idxW x (r.tracks.map (·.name))=(i:Int)) (hlt:i < r.tracks.length) (lo:Nat):R PT (.call lo 65 [.ptr b o,.str x] H)=some (.ofVal (elA V.vT 2 i) H):=by
 obtain ⟨v,H2,h1,rfl,rfl⟩:=R_of_body (C:=PT) (f:=65) (lo:=lo) (args:=[.ptr b o,.str x]) (H:=H) (fn:=Tryz.f65) (Q:=fun w H2=>w=elA V.vT 2 i∧H2=H) (by kernel_rfl) Tryz.func65 rfl rfl (by
  have l1:=fun H'=>h.l1 (H':=H')
  have m1:=fun Hc (ho:Old H.n H Hc) lo K=>e_names h 116 ho (lo:=lo) (K:=K)
  have e1:namesR r 116=r.tracks.map (·.name):=rfl
  have hb:=eq_true h.bn
  have hx:=h.sT.idx (t:=99) (by kernel_rfl) (by kernel_rfl) (rows_Len (by intro x;rfl) _) (by rw [List.length_map];exact hlt) .i64
  have hl:=h.lT
  simp (config:={ maxDischargeDepth:=12 }) only [go_sem,reduceIte,reduceEqDiff,reduceAdd,reduceMul,reduceSub,reduceLeDiff,reduceLT,Nat.reduceBEq,reduceCtorEq,l1,m1,e1,hb,hl,hi,hx])
 exact h1
theorem e_track {H:Heap} {b o:Nat} {r:Reg} {V:RegV} (h:RegIs H b o r V) {x:Nm} {i:Nat} (hi:idxW x (r.tracks.map (·.name))=(i:Int)) (hlt:i < r.tracks.length) {Hc:Heap} (ho:Old H.n H Hc) {lo:Nat} {K:AV→Heap→Prop}:VO (aenter PT (R PT) lo 65 [.ptr b o,.str x] Hc) K=K (elA V.vT 2 i) Hc :=
 enter_n (en65 rfl) (r_track (h.old ho) hi hlt _)
theorem r_fault {H:Heap} {b o:Nat} {r:Reg} {V:RegV} (h:RegIs H b o r V) {x:Nm} {i:Nat} (hi:idxW x (r.faults.map (·.name))=(i:Int)) (hlt:i < r.faults.length) (lo:Nat):R PT (.call lo 103 [.ptr b o,.str x] H)=some (.ofVal (elA V.vF 7 i) H):=by
 obtain ⟨v,H2,h1,rfl,rfl⟩:=R_of_body (C:=PT) (f:=103) (lo:=lo) (args:=[.ptr b o,.str x]) (H:=H) (fn:=Tryz.f103) (Q:=fun w H2=>w=elA V.vF 7 i∧H2=H) (by kernel_rfl) Tryz.func103 rfl rfl (by
  have l1:=fun H'=>h.l2 (H':=H')
  have m1:=fun Hc (ho:Old H.n H Hc) lo K=>e_names h 102 ho (lo:=lo) (K:=K)
  have e1:namesR r 102=r.faults.map (·.name):=rfl
  have hb:=eq_true h.bn
  have hx:=h.sF.idx (t:=98) (by kernel_rfl) (by kernel_rfl) (rows_Len (by intro x;rfl) _) (by rw [List.length_map];exact hlt) .i64
  have hl:=h.lF
  simp (config:={ maxDischargeDepth:=12 }) only [go_sem,reduceIte,reduceEqDiff,reduceAdd,reduceMul,reduceSub,reduceLeDiff,reduceLT,Nat.reduceBEq,reduceCtorEq,l1,m1,e1,hb,hl,hi,hx])
 exact h1
theorem e_fault {H:Heap} {b o:Nat} {r:Reg} {V:RegV} (h:RegIs H b o r V) {x:Nm} {i:Nat} (hi:idxW x (r.faults.map (·.name))=(i:Int)) (hlt:i < r.faults.length) {Hc:Heap} (ho:Old H.n H Hc) {lo:Nat} {K:AV→Heap→Prop}:VO (aenter PT (R PT) lo 103 [.ptr b o,.str x] Hc) K=K (elA V.vF 7 i) Hc :=
 enter_n (en103 rfl) (r_fault (h.old ho) hi hlt _)
theorem r_poss {H:Heap} {b o:Nat} {r:Reg} {V:RegV} (h:RegIs H b o r V) {x:Nm} {i:Nat} (hi:idxW x (r.poss.map (·.name))=(i:Int)) (hlt:i < r.poss.length) (lo:Nat):R PT (.call lo 139 [.ptr b o,.str x] H)=some (.ofVal (elA V.vP 10 i) H):=by
 obtain ⟨v,H2,h1,rfl,rfl⟩:=R_of_body (C:=PT) (f:=139) (lo:=lo) (args:=[.ptr b o,.str x]) (H:=H) (fn:=Tryz.f139) (Q:=fun w H2=>w=elA V.vP 10 i∧H2=H) (by kernel_rfl) Tryz.func139 rfl rfl (by
  have l1:=fun H'=>h.l4 (H':=H')
  have m1:=fun Hc (ho:Old H.n H Hc) lo K=>e_names h 112 ho (lo:=lo) (K:=K)
  have e1:namesR r 112=r.poss.map (·.name):=rfl
  have hb:=eq_true h.bn
  have hx:=h.sP.idx (t:=101) (by kernel_rfl) (by kernel_rfl) (rows_Len (by intro x;rfl) _) (by rw [List.length_map];exact hlt) .i64
  have hl:=h.lP
  simp (config:={ maxDischargeDepth:=12 }) only [go_sem,reduceIte,reduceEqDiff,reduceAdd,reduceMul,reduceSub,reduceLeDiff,reduceLT,Nat.reduceBEq,reduceCtorEq,l1,m1,e1,hb,hl,hi,hx])
 exact h1
theorem e_poss {H:Heap} {b o:Nat} {r:Reg} {V:RegV} (h:RegIs H b o r V) {x:Nm} {i:Nat} (hi:idxW x (r.poss.map (·.name))=(i:Int)) (hlt:i < r.poss.length) {Hc:Heap} (ho:Old H.n H Hc) {lo:Nat} {K:AV→Heap→Prop}:VO (aenter PT (R PT) lo 139 [.ptr b o,.str x] Hc) K=K (elA V.vP 10 i) Hc :=
 enter_n (en139 rfl) (r_poss (h.old ho) hi hlt _)
theorem filter_take {α:Type} {q:α→Bool} {l:List α} {k:Nat} {x:α} (h:l[k]? = some x):(l.take (k+1)).filter q=if q x then (l.take k).filter q++[x] else (l.take k).filter q:=by
 rw [List.take_add_one,h]
 simp only [Option.toList,List.filter_append,List.filter_cons,List.filter_nil]
 cases q x<;>simp
theorem r_keptF {H:Heap} {v:AV} {l:List Flt} (hs:Sl H v 7 97 (l.map Pos.Flt.row)) (hl:l.length≤maxRows) {g:FuncId} {caps:List AV} {q:Flt→Bool} (hc:caps.map strp=caps) (hg:∀ x ∈ l,∀ Hc,Old H.n H Hc → ∀ lo K,VO (aenter PT (R PT) lo g (.agg [.str x.name,.str x.track,.int .i64 x.frm,.int .i64 x.to,.int .i64 x.speed,.bool x.ans,.bool x.rep]::caps) Hc) K=K (.bool (q x)) Hc) :
 ∃ t H2,R PT (.call H.n 61 [v,.fn g [] caps] H)=some (.ofVal (.ps t ((l.filter q).map Pos.Flt.row)) H2)∧AppB H.n H2 t ((l.filter q).map Pos.Flt.row) 7 97∧Old H.n H H2:=by
 obtain ⟨w,H2,h1,t,rfl,h2⟩:=R_of_body (C:=PT) (f:=61) (lo:=H.n) (args:=[v,.fn g [] caps]) (H:=H) (fn:=Tryz.f61) (Q:=fun w H2=>∃ t,w=.ps t ((l.filter q).map Pos.Flt.row)∧AppB H.n H2 t ((l.filter q).map Pos.Flt.row) 7 97∧Old H.n H H2) (by kernel_rfl) Tryz.func61 rfl rfl (by
  have hlen:=fun H'=>hs.len (t:=98) (by kernel_rfl) H'
  simp only [List.length_map] at hlen
  simp (config:={ maxDischargeDepth:=12 }) only [go_sem,reduceIte,reduceEqDiff,reduceAdd,reduceMul,reduceSub,reduceLeDiff,reduceLT,Nat.reduceBEq,reduceCtorEq,hlen]
  refine W_for (fun k T Hc M=>M=[]∧getT T 1=.fn g [] caps∧getT T 8=v∧getT T 9=i64 (l.length:Nat)∧getT T 10=i64 k∧Old H.n H Hc ∧ ∃ t,getT T 5=.ps t (((l.take k).filter q).map Pos.Flt.row)∧AppB H.n Hc t (((l.take k).filter q).map Pos.Flt.row) 7 97) l.length ?_ ?_ ?_
  · simp (config:={ maxDischargeDepth:=12 }) only [go_sem,reduceIte,reduceEqDiff,reduceAdd,reduceMul,reduceSub,reduceLeDiff,reduceLT,Nat.reduceBEq,reduceCtorEq];exact ⟨.nil,rfl,.inl ⟨rfl,rfl⟩⟩
  · rintro k T Hc M hk ⟨rfl,g1,g8,g9,g10,hO,t,g5,hA⟩
    obtain ⟨x,hx⟩:∃ x,l[k]? = some x:=⟨l[k],by simp⟩
    have hw:=wrap_succ hk hl
    have hN:=eq_true hO.1
    have hi:=hs.idx (t:=98) (by kernel_rfl) (by kernel_rfl) (rows_Len (by intro x;rfl) l) (by rw [List.length_map];exact hk) .i64
    have hd:=hs.ld (by kernel_rfl) (by kernel_rfl) (rows_Len (by intro x;rfl) l) (map_at hx) hO
    have hg1:=hg x (List.mem_of_getElem? hx)
    obtain ⟨z,hz⟩:∃ z,zeroOf NC.P 97=some z:=⟨_,ze_97⟩
    have hA1:=hA.new (.cells z.cells 97) (.cells (Pos.Flt.row x) 97)
    have hft:=filter_take (q:=q) hx
    have hlt:((l.take k).filter q).length≤k:=Nat.le_trans (List.length_filter_le _ _) (by rw [List.length_take];omega)
    cases hq:q x with
    | true =>
      obtain ⟨t',H',ha,hA',_,hO',_⟩:=app_b (lo:=H.n) hA1 (by simp;have:=hO.1;omega) (Nat.le_refl _) (r:=Pos.Flt.row x) (by rw [List.length_map];omega) rfl (by decide) (rows_all (by intro x;rfl) _)
      have e1:(Pos.Flt.row x).map AV.strip0=Pos.Flt.row x:=rfl
      rw [hq,if_pos rfl] at hft
      have e2:((l.take k).filter q).map Pos.Flt.row++[Pos.Flt.row x]=((l.take (k+1)).filter q).map Pos.Flt.row:=by rw [hft,List.map_append];rfl
      rw [e1,e2] at ha hA'
      have hO2:Old H.n H H':=(hO.new _ _).trans hO'
      rw [ze_97] at hz
      cases hz
      simp only [Pos.Flt.row] at hd ha
      simp (config:={ maxDischargeDepth:=12 }) only [go_sem,reduceIte,reduceEqDiff,reduceAdd,reduceMul,reduceSub,reduceLeDiff,reduceLT,Nat.reduceBEq,reduceCtorEq] at ha
      have hra:=rows_all (f:=Pos.Flt.row) (sz:=7) (by intro x;rfl) ((l.take k).filter q)
      simp (config:={ maxDischargeDepth:=12 }) only [go_sem,reduceIte,reduceEqDiff,reduceAdd,reduceMul,reduceSub,reduceLeDiff,reduceLT,Nat.reduceBEq,reduceCtorEq,g1,g5,g8,g9,g10,hk,hw,hN,hi,hd,hc,hg1,hO,hq,appO,ha]
      exact ⟨hO2,t',by first | rfl | simp only [Pos.Flt.row],by first | exact hA' | simpa only [Pos.Flt.row] using hA'⟩
    | false =>
      rw [hq,if_neg (by simp)] at hft
      rw [ze_97] at hz
      cases hz
      rw [← hft] at g5 hA1
      simp only [Pos.Flt.row] at hd hA1
      simp (config:={ maxDischargeDepth:=12 }) only [go_sem,reduceIte,reduceEqDiff,reduceAdd,reduceMul,reduceSub,reduceLeDiff,reduceLT,Nat.reduceBEq,reduceCtorEq] at hA1
      simp (config:={ maxDischargeDepth:=12 }) only [go_sem,reduceIte,reduceEqDiff,reduceAdd,reduceMul,reduceSub,reduceLeDiff,reduceLT,Nat.reduceBEq,reduceCtorEq,g1,g5,g8,g9,g10,hk,hw,hN,hi,hd,hc,hg1,hO,hq]
      exact ⟨t,rfl,hA1⟩
  · rintro T Hc M ⟨rfl,g1,g8,g9,g10,hO,t,g5,hA⟩
    rw [List.take_length] at g5 hA
    simp (config:={ maxDischargeDepth:=12 }) only [go_sem,reduceIte,reduceEqDiff,reduceAdd,reduceMul,reduceSub,reduceLeDiff,reduceLT,Nat.reduceBEq,reduceCtorEq,g1,g5,g8,g9,g10,Nat.lt_irrefl]
    exact ⟨t,rfl,hA,hO⟩)
 exact ⟨t,H2,h1,h2⟩
theorem r_keptR {H:Heap} {v:AV} {l:List Trn} (hs:Sl H v 3 165 (l.map Pos.Trn.row)) (hl:l.length≤maxRows) {g:FuncId} {caps:List AV} {q:Trn→Bool} (hc:caps.map strp=caps) (hg:∀ x ∈ l,∀ Hc,Old H.n H Hc → ∀ lo K,VO (aenter PT (R PT) lo g (.agg [.str x.name,.str x.track,.int .i64 x.speed]::caps) Hc) K=K (.bool (q x)) Hc) :
 ∃ t H2,R PT (.call H.n 111 [v,.fn g [] caps] H)=some (.ofVal (.ps t ((l.filter q).map Pos.Trn.row)) H2)∧AppB H.n H2 t ((l.filter q).map Pos.Trn.row) 3 165∧Old H.n H H2:=by
 obtain ⟨w,H2,h1,t,rfl,h2⟩:=R_of_body (C:=PT) (f:=111) (lo:=H.n) (args:=[v,.fn g [] caps]) (H:=H) (fn:=Tryz.f111) (Q:=fun w H2=>∃ t,w=.ps t ((l.filter q).map Pos.Trn.row)∧AppB H.n H2 t ((l.filter q).map Pos.Trn.row) 3 165∧Old H.n H H2) (by kernel_rfl) Tryz.func111 rfl rfl (by
  have hlen:=fun H'=>hs.len (t:=100) (by kernel_rfl) H'
  simp only [List.length_map] at hlen
  simp (config:={ maxDischargeDepth:=12 }) only [go_sem,reduceIte,reduceEqDiff,reduceAdd,reduceMul,reduceSub,reduceLeDiff,reduceLT,Nat.reduceBEq,reduceCtorEq,hlen]
  refine W_for (fun k T Hc M=>M=[]∧getT T 1=.fn g [] caps∧getT T 8=v∧getT T 9=i64 (l.length:Nat)∧getT T 10=i64 k∧Old H.n H Hc ∧ ∃ t,getT T 5=.ps t (((l.take k).filter q).map Pos.Trn.row)∧AppB H.n Hc t (((l.take k).filter q).map Pos.Trn.row) 3 165) l.length ?_ ?_ ?_
  · simp (config:={ maxDischargeDepth:=12 }) only [go_sem,reduceIte,reduceEqDiff,reduceAdd,reduceMul,reduceSub,reduceLeDiff,reduceLT,Nat.reduceBEq,reduceCtorEq];exact ⟨.nil,rfl,.inl ⟨rfl,rfl⟩⟩
  · rintro k T Hc M hk ⟨rfl,g1,g8,g9,g10,hO,t,g5,hA⟩
    obtain ⟨x,hx⟩:∃ x,l[k]? = some x:=⟨l[k],by simp⟩
    have hw:=wrap_succ hk hl
    have hN:=eq_true hO.1
    have hi:=hs.idx (t:=100) (by kernel_rfl) (by kernel_rfl) (rows_Len (by intro x;rfl) l) (by rw [List.length_map];exact hk) .i64
    have hd:=hs.ld (by kernel_rfl) (by kernel_rfl) (rows_Len (by intro x;rfl) l) (map_at hx) hO
    have hg1:=hg x (List.mem_of_getElem? hx)
    obtain ⟨z,hz⟩:∃ z,zeroOf NC.P 165=some z:=⟨_,ze_165⟩
    have hA1:=hA.new (.cells z.cells 165) (.cells (Pos.Trn.row x) 165)
    have hft:=filter_take (q:=q) hx
    have hlt:((l.take k).filter q).length≤k:=Nat.le_trans (List.length_filter_le _ _) (by rw [List.length_take];omega)
    cases hq:q x with
    | true =>
      obtain ⟨t',H',ha,hA',_,hO',_⟩:=app_b (lo:=H.n) hA1 (by simp;have:=hO.1;omega) (Nat.le_refl _) (r:=Pos.Trn.row x) (by rw [List.length_map];omega) rfl (by decide) (rows_all (by intro x;rfl) _)
      have e1:(Pos.Trn.row x).map AV.strip0=Pos.Trn.row x:=rfl
      rw [hq,if_pos rfl] at hft
      have e2:((l.take k).filter q).map Pos.Trn.row++[Pos.Trn.row x]=((l.take (k+1)).filter q).map Pos.Trn.row:=by rw [hft,List.map_append];rfl
      rw [e1,e2] at ha hA'
      have hO2:Old H.n H H':=(hO.new _ _).trans hO'
      rw [ze_165] at hz
      cases hz
      simp only [Pos.Trn.row] at hd ha
      simp (config:={ maxDischargeDepth:=12 }) only [go_sem,reduceIte,reduceEqDiff,reduceAdd,reduceMul,reduceSub,reduceLeDiff,reduceLT,Nat.reduceBEq,reduceCtorEq] at ha
      have hra:=rows_all (f:=Pos.Trn.row) (sz:=3) (by intro x;rfl) ((l.take k).filter q)
      simp (config:={ maxDischargeDepth:=12 }) only [go_sem,reduceIte,reduceEqDiff,reduceAdd,reduceMul,reduceSub,reduceLeDiff,reduceLT,Nat.reduceBEq,reduceCtorEq,g1,g5,g8,g9,g10,hk,hw,hN,hi,hd,hc,hg1,hO,hq,appO,ha]
      exact ⟨hO2,t',by first | rfl | simp only [Pos.Trn.row],by first | exact hA' | simpa only [Pos.Trn.row] using hA'⟩
    | false =>
      rw [hq,if_neg (by simp)] at hft
      rw [ze_165] at hz
      cases hz
      rw [← hft] at g5 hA1
      simp only [Pos.Trn.row] at hd hA1
      simp (config:={ maxDischargeDepth:=12 }) only [go_sem,reduceIte,reduceEqDiff,reduceAdd,reduceMul,reduceSub,reduceLeDiff,reduceLT,Nat.reduceBEq,reduceCtorEq] at hA1
      simp (config:={ maxDischargeDepth:=12 }) only [go_sem,reduceIte,reduceEqDiff,reduceAdd,reduceMul,reduceSub,reduceLeDiff,reduceLT,Nat.reduceBEq,reduceCtorEq,g1,g5,g8,g9,g10,hk,hw,hN,hi,hd,hc,hg1,hO,hq]
      exact ⟨t,rfl,hA1⟩
  · rintro T Hc M ⟨rfl,g1,g8,g9,g10,hO,t,g5,hA⟩
    rw [List.take_length] at g5 hA
    simp (config:={ maxDischargeDepth:=12 }) only [go_sem,reduceIte,reduceEqDiff,reduceAdd,reduceMul,reduceSub,reduceLeDiff,reduceLT,Nat.reduceBEq,reduceCtorEq,g1,g5,g8,g9,g10,Nat.lt_irrefl]
    exact ⟨t,rfl,hA,hO⟩)
 exact ⟨t,H2,h1,h2⟩
theorem r_keptM {H:Heap} {v:AV} {l:List Mch} (hs:Sl H v 2 171 (l.map Pos.Mch.row)) (hl:l.length≤maxRows) {g:FuncId} {caps:List AV} {q:Mch→Bool} (hc:caps.map strp=caps) (hg:∀ x ∈ l,∀ Hc,Old H.n H Hc → ∀ lo K,VO (aenter PT (R PT) lo g (.agg [.str x.name,.str x.poss]::caps) Hc) K=K (.bool (q x)) Hc) :
 ∃ t H2,R PT (.call H.n 125 [v,.fn g [] caps] H)=some (.ofVal (.ps t ((l.filter q).map Pos.Mch.row)) H2)∧AppB H.n H2 t ((l.filter q).map Pos.Mch.row) 2 171∧Old H.n H H2:=by
 obtain ⟨w,H2,h1,t,rfl,h2⟩:=R_of_body (C:=PT) (f:=125) (lo:=H.n) (args:=[v,.fn g [] caps]) (H:=H) (fn:=Tryz.f125) (Q:=fun w H2=>∃ t,w=.ps t ((l.filter q).map Pos.Mch.row)∧AppB H.n H2 t ((l.filter q).map Pos.Mch.row) 2 171∧Old H.n H H2) (by kernel_rfl) Tryz.func125 rfl rfl (by
  have hlen:=fun H'=>hs.len (t:=102) (by kernel_rfl) H'
  simp only [List.length_map] at hlen
  simp (config:={ maxDischargeDepth:=12 }) only [go_sem,reduceIte,reduceEqDiff,reduceAdd,reduceMul,reduceSub,reduceLeDiff,reduceLT,Nat.reduceBEq,reduceCtorEq,hlen]
  refine W_for (fun k T Hc M=>M=[]∧getT T 1=.fn g [] caps∧getT T 8=v∧getT T 9=i64 (l.length:Nat)∧getT T 10=i64 k∧Old H.n H Hc ∧ ∃ t,getT T 5=.ps t (((l.take k).filter q).map Pos.Mch.row)∧AppB H.n Hc t (((l.take k).filter q).map Pos.Mch.row) 2 171) l.length ?_ ?_ ?_
  · simp (config:={ maxDischargeDepth:=12 }) only [go_sem,reduceIte,reduceEqDiff,reduceAdd,reduceMul,reduceSub,reduceLeDiff,reduceLT,Nat.reduceBEq,reduceCtorEq];exact ⟨.nil,rfl,.inl ⟨rfl,rfl⟩⟩
  · rintro k T Hc M hk ⟨rfl,g1,g8,g9,g10,hO,t,g5,hA⟩
    obtain ⟨x,hx⟩:∃ x,l[k]? = some x:=⟨l[k],by simp⟩
    have hw:=wrap_succ hk hl
    have hN:=eq_true hO.1
    have hi:=hs.idx (t:=102) (by kernel_rfl) (by kernel_rfl) (rows_Len (by intro x;rfl) l) (by rw [List.length_map];exact hk) .i64
    have hd:=hs.ld (by kernel_rfl) (by kernel_rfl) (rows_Len (by intro x;rfl) l) (map_at hx) hO
    have hg1:=hg x (List.mem_of_getElem? hx)
    obtain ⟨z,hz⟩:∃ z,zeroOf NC.P 171=some z:=⟨_,ze_171⟩
    have hA1:=hA.new (.cells z.cells 171) (.cells (Pos.Mch.row x) 171)
    have hft:=filter_take (q:=q) hx
    have hlt:((l.take k).filter q).length≤k:=Nat.le_trans (List.length_filter_le _ _) (by rw [List.length_take];omega)
    cases hq:q x with
    | true =>
      obtain ⟨t',H',ha,hA',_,hO',_⟩:=app_b (lo:=H.n) hA1 (by simp;have:=hO.1;omega) (Nat.le_refl _) (r:=Pos.Mch.row x) (by rw [List.length_map];omega) rfl (by decide) (rows_all (by intro x;rfl) _)
      have e1:(Pos.Mch.row x).map AV.strip0=Pos.Mch.row x:=rfl
      rw [hq,if_pos rfl] at hft
      have e2:((l.take k).filter q).map Pos.Mch.row++[Pos.Mch.row x]=((l.take (k+1)).filter q).map Pos.Mch.row:=by rw [hft,List.map_append];rfl
      rw [e1,e2] at ha hA'
      have hO2:Old H.n H H':=(hO.new _ _).trans hO'
      rw [ze_171] at hz
      cases hz
      simp only [Pos.Mch.row] at hd ha
      simp (config:={ maxDischargeDepth:=12 }) only [go_sem,reduceIte,reduceEqDiff,reduceAdd,reduceMul,reduceSub,reduceLeDiff,reduceLT,Nat.reduceBEq,reduceCtorEq] at ha
      have hra:=rows_all (f:=Pos.Mch.row) (sz:=2) (by intro x;rfl) ((l.take k).filter q)
      simp (config:={ maxDischargeDepth:=12 }) only [go_sem,reduceIte,reduceEqDiff,reduceAdd,reduceMul,reduceSub,reduceLeDiff,reduceLT,Nat.reduceBEq,reduceCtorEq,g1,g5,g8,g9,g10,hk,hw,hN,hi,hd,hc,hg1,hO,hq,appO,ha]
      exact ⟨hO2,t',by first | rfl | simp only [Pos.Mch.row],by first | exact hA' | simpa only [Pos.Mch.row] using hA'⟩
    | false =>
      rw [hq,if_neg (by simp)] at hft
      rw [ze_171] at hz
      cases hz
      rw [← hft] at g5 hA1
      simp only [Pos.Mch.row] at hd hA1
      simp (config:={ maxDischargeDepth:=12 }) only [go_sem,reduceIte,reduceEqDiff,reduceAdd,reduceMul,reduceSub,reduceLeDiff,reduceLT,Nat.reduceBEq,reduceCtorEq] at hA1
      simp (config:={ maxDischargeDepth:=12 }) only [go_sem,reduceIte,reduceEqDiff,reduceAdd,reduceMul,reduceSub,reduceLeDiff,reduceLT,Nat.reduceBEq,reduceCtorEq,g1,g5,g8,g9,g10,hk,hw,hN,hi,hd,hc,hg1,hO,hq]
      exact ⟨t,rfl,hA1⟩
  · rintro T Hc M ⟨rfl,g1,g8,g9,g10,hO,t,g5,hA⟩
    rw [List.take_length] at g5 hA
    simp (config:={ maxDischargeDepth:=12 }) only [go_sem,reduceIte,reduceEqDiff,reduceAdd,reduceMul,reduceSub,reduceLeDiff,reduceLT,Nat.reduceBEq,reduceCtorEq,g1,g5,g8,g9,g10,Nat.lt_irrefl]
    exact ⟨t,rfl,hA,hO⟩)
 exact ⟨t,H2,h1,h2⟩
theorem en61 {P:FuncId→Option (List AV→Option AV)} (hP:P 61=none) {lo:Nat} {args:List AV} {H:Heap} {K:AV→Heap→Prop}:VO (aenter (NC.withPrims P) (R (NC.withPrims P)) lo 61 args H) K=AO (R (NC.withPrims P) (.call H.n 61 args H)) fun o=>o.val.strip.pure=true∧K o.val.strip H:=by
 refine enter_pure rfl ?_ (by kernel_rfl) (by kernel_rfl) (by kernel_rfl)
 show (match NC.prim 61 with | some p=>some p | none=>P 61)=none
 rw [hP];kernel_rfl
theorem en111 {P:FuncId→Option (List AV→Option AV)} (hP:P 111=none) {lo:Nat} {args:List AV} {H:Heap} {K:AV→Heap→Prop}:VO (aenter (NC.withPrims P) (R (NC.withPrims P)) lo 111 args H) K=AO (R (NC.withPrims P) (.call H.n 111 args H)) fun o=>K o.val o.s.H:=by
 refine enter_fresh rfl ?_ (by kernel_rfl) (by kernel_rfl) (by kernel_rfl)
 show (match NC.prim 111 with | some p=>some p | none=>P 111)=none
 rw [hP];kernel_rfl
theorem en125 {P:FuncId→Option (List AV→Option AV)} (hP:P 125=none) {lo:Nat} {args:List AV} {H:Heap} {K:AV→Heap→Prop}:VO (aenter (NC.withPrims P) (R (NC.withPrims P)) lo 125 args H) K=AO (R (NC.withPrims P) (.call H.n 125 args H)) fun o=>K o.val o.s.H:=by
 refine enter_fresh rfl ?_ (by kernel_rfl) (by kernel_rfl) (by kernel_rfl)
 show (match NC.prim 125 with | some p=>some p | none=>P 125)=none
 rw [hP];kernel_rfl
theorem en67 {P:FuncId→Option (List AV→Option AV)} (hP:P 67=none) {lo:Nat} {args:List AV} {H:Heap} {K:AV→Heap→Prop}:VO (aenter (NC.withPrims P) (R (NC.withPrims P)) lo 67 args H) K=AO (R (NC.withPrims P) (.call H.n 67 args H)) fun o=>o.val.strip.pure=true∧K o.val.strip H:=by
 refine enter_pure rfl ?_ (by kernel_rfl) (by kernel_rfl) (by kernel_rfl)
 show (match NC.prim 67 with | some p=>some p | none=>P 67)=none
 rw [hP];kernel_rfl
theorem en94 {P:FuncId→Option (List AV→Option AV)} (hP:P 94=none) {lo:Nat} {args:List AV} {H:Heap} {K:AV→Heap→Prop}:VO (aenter (NC.withPrims P) (R (NC.withPrims P)) lo 94 args H) K=AO (R (NC.withPrims P) (.call H.n 94 args H)) fun o=>o.val.strip.pure=true∧K o.val.strip H:=by
 refine enter_pure rfl ?_ (by kernel_rfl) (by kernel_rfl) (by kernel_rfl)
 show (match NC.prim 94 with | some p=>some p | none=>P 94)=none
 rw [hP];kernel_rfl
def idxFlt (q:Flt→Bool) (l:List Flt):Int:=match l.findIdx? q with
 | some i=>i
 | none=>-1
theorem r_idxF {H:Heap} {v:AV} {l:List Flt} (hs:Sl H v 7 97 (l.map Pos.Flt.row)) (hl:l.length≤maxRows) {g:FuncId} {caps:List AV} {q:Flt→Bool} (hc:caps.map strp=caps) (hg:∀ x ∈ l,∀ Hc,Old H.n H Hc → ∀ lo K,VO (aenter PT (R PT) lo g (.agg [.str x.name,.str x.track,.int .i64 x.frm,.int .i64 x.to,.int .i64 x.speed,.bool x.ans,.bool x.rep]::caps) Hc) K=K (.bool (q x)) Hc) :
 ∃ w H2,R PT (.call H.n 94 [v,.fn g [] caps] H)=some (.ofVal w H2)∧w=.int .i64 (idxFlt q l):=by
 refine R_of_body (C:=PT) (f:=94) (lo:=H.n) (args:=[v,.fn g [] caps]) (H:=H) (fn:=Tryz.f94) (Q:=fun w _=>w=.int .i64 (idxFlt q l)) (by kernel_rfl) Tryz.func94 rfl rfl ?_
 have hlen:=fun H'=>hs.len (t:=98) (by kernel_rfl) H'
 simp only [List.length_map] at hlen
 simp (config:={ maxDischargeDepth:=12 }) only [go_sem,reduceIte,reduceEqDiff,reduceAdd,reduceMul,reduceSub,reduceLeDiff,reduceLT,Nat.reduceBEq,reduceCtorEq,hlen]
 refine W_for (fun k T Hc M=>M=[]∧getT T 0=v∧getT T 1=.fn g [] caps∧getT T 7=i64 (l.length:Nat)∧getT T 8=i64 k∧Old H.n H Hc ∧ ∀ x ∈ l.take k,q x=false) l.length ?_ ?_ ?_
 · simp (config:={ maxDischargeDepth:=12 }) only [go_sem,reduceIte,reduceEqDiff,reduceAdd,reduceMul,reduceSub,reduceLeDiff,reduceLT,Nat.reduceBEq,reduceCtorEq];exact fun x hx=>by simp at hx
 · rintro k T Hc M hk ⟨rfl,g0,g1,g7,g8,hO,hn⟩
   obtain ⟨x,hx⟩:∃ x,l[k]? = some x:=⟨l[k],by simp⟩
   have hw:=wrap_succ hk hl
   have hi:=hs.idx (t:=98) (by kernel_rfl) (by kernel_rfl) (rows_Len (by intro x;rfl) l) (by rw [List.length_map];exact hk) .i64
   have hd:=hs.ld (by kernel_rfl) (by kernel_rfl) (rows_Len (by intro x;rfl) l) (map_at hx) hO
   have hg1:=hg x (List.mem_of_getElem? hx)
   simp only [Pos.Flt.row] at hd
   cases hq:q x with
   | true =>
     simp (config:={ maxDischargeDepth:=12 }) only [go_sem,reduceIte,reduceEqDiff,reduceAdd,reduceMul,reduceSub,reduceLeDiff,reduceLT,Nat.reduceBEq,reduceCtorEq,g0,g1,g7,g8,hk,hw,hi,hd,hc,hg1,hO,hq]
     have:l.findIdx? q=some k:=by
      rw [List.findIdx?_eq_some_iff_getElem]
      obtain ⟨hlt,he⟩:=List.getElem?_eq_some_iff.1 hx
      refine ⟨hlt,by rw [he];exact hq,fun j hj => ?_⟩
      have:=hn l[j] (List.mem_take_iff_getElem.2 ⟨j,by omega,rfl⟩)
      simp [this]
     unfold idxFlt
     rw [this]
   | false =>
     simp (config:={ maxDischargeDepth:=12 }) only [go_sem,reduceIte,reduceEqDiff,reduceAdd,reduceMul,reduceSub,reduceLeDiff,reduceLT,Nat.reduceBEq,reduceCtorEq,g0,g1,g7,g8,hk,hw,hi,hd,hc,hg1,hO,hq]
     intro y hy
     rw [List.take_add_one,hx] at hy
     rcases List.mem_append.1 hy with hy | hy
     · exact hn y hy
     · simp only [Option.toList,List.mem_singleton] at hy
       rw [hy];exact hq
 · rintro T Hc M ⟨rfl,g0,g1,g7,g8,hO,hn⟩
   rw [List.take_length] at hn
   simp (config:={ maxDischargeDepth:=12 }) only [go_sem,reduceIte,reduceEqDiff,reduceAdd,reduceMul,reduceSub,reduceLeDiff,reduceLT,Nat.reduceBEq,reduceCtorEq,g0,g1,g7,g8,Nat.lt_irrefl]
   have:l.findIdx? q=none:=by
    rw [List.findIdx?_eq_none_iff];exact fun x hx=>by simp [hn x hx]
   unfold idxFlt
   rw [this]
theorem idxFlt_ge (q:Flt→Bool) (l:List Flt):(idxFlt q l < 0)=(l.any q=false):=by
 unfold idxFlt
 cases h:l.findIdx? q with
 | none =>
   rw [List.findIdx?_eq_none_iff] at h
   simp only [eq_iff_iff]
   refine ⟨fun _ => ?_,fun _=>by decide⟩
   rw [List.any_eq_false]
   exact fun x hx=>by simp [h x hx]
 | some i =>
   rw [List.findIdx?_eq_some_iff_getElem] at h
   obtain ⟨hlt,hq,_⟩:=h
   simp only [eq_iff_iff]
   refine ⟨fun h=>by omega,fun h => ?_⟩
   rw [List.any_eq_false] at h
   exact absurd hq (h _ (List.getElem_mem hlt))
theorem r_hasF {H : Heap} {v : AV} {l : List Flt} (hs : Sl H v 7 97 (l.map Pos.Flt.row)) (hl : l.length ≤ maxRows) {g : FuncId} {caps : List AV} {q : Flt → Bool} (hc : caps.map strp = caps) (hg : ∀ x ∈ l, ∀ Hc, Old H.n H Hc → ∀ lo K, VO (aenter PT (R PT) lo g (.agg [.str x.name, .str x.track, .int .i64 x.frm, .int .i64 x.to, .int .i64 x.speed, .bool x.ans, .bool x.rep] :: caps) Hc) K = K (.bool (q x)) Hc) :
 ∃ w H2, R PT (.call H.n 67 [v, .fn g [] caps] H) = some (.ofVal w H2) ∧ w = .bool (l.any q) := by
 refine R_of_body (C := PT) (f := 67) (lo := H.n) (args := [v, .fn g [] caps]) (H := H) (fn := Tryz.f67) (Q := fun w _ => w = .bool (l.any q)) (by kernel_rfl) Tryz.func67 rfl rfl ?_
 have e1 : ∀ lo K, VO (aenter PT (R PT) lo 94 [strp v, .fn g [] caps] H) K = K (.int .i64 (idxFlt q l)) H := fun lo K => by
  obtain ⟨w, H2, h1, h2⟩ := r_idxF hs.strip hl hc hg
  exact enter_p (en94 rfl) ⟨H2, h1⟩ (by rw [h2]; rfl) rfl
 simp (config := { maxDischargeDepth := 12 }) only [go_sem, reduceIte, reduceEqDiff, reduceAdd, reduceMul, reduceSub, reduceLeDiff, reduceLT, Nat.reduceBEq, reduceCtorEq, e1, idxFlt_ge]
 cases l.any q <;> simp
theorem e_hasF {H : Heap} {v : AV} {l : List Flt} (hs : Sl H v 7 97 (l.map Pos.Flt.row)) (hl : l.length ≤ maxRows) {g : FuncId} {caps : List AV} {q : Flt → Bool} (hc : caps.map strp = caps) (hg : ∀ x ∈ l, ∀ Hc, Old H.n H Hc → ∀ lo K, VO (aenter PT (R PT) lo g (.agg [.str x.name, .str x.track, .int .i64 x.frm, .int .i64 x.to, .int .i64 x.speed, .bool x.ans, .bool x.rep] :: caps) Hc) K = K (.bool (q x)) Hc) {lo : Nat} {K : AV → Heap → Prop} : VO (aenter PT (R PT) lo 67 [strp v, .fn g [] caps] H) K = K (.bool (l.any q)) H := by
 obtain ⟨w, H2, h1, h2⟩ := r_hasF hs.strip hl hc hg
 exact enter_p (en67 rfl) ⟨H2, h1⟩ (by rw [h2]; rfl) rfl
theorem en142 {P:FuncId→Option (List AV→Option AV)} (hP:P 142=none) {lo:Nat} {args:List AV} {H:Heap} {K:AV→Heap→Prop}:VO (aenter (NC.withPrims P) (R (NC.withPrims P)) lo 142 args H) K=AO (R (NC.withPrims P) (.call H.n 142 args H)) fun o=>o.val.strip.pure=true∧K o.val.strip H:=by
 refine enter_pure rfl ?_ (by kernel_rfl) (by kernel_rfl) (by kernel_rfl)
 show (match NC.prim 142 with | some p=>some p | none=>P 142)=none
 rw [hP];kernel_rfl
theorem en150 {P:FuncId→Option (List AV→Option AV)} (hP:P 150=none) {lo:Nat} {args:List AV} {H:Heap} {K:AV→Heap→Prop}:VO (aenter (NC.withPrims P) (R (NC.withPrims P)) lo 150 args H) K=AO (R (NC.withPrims P) (.call H.n 150 args H)) fun o=>o.val.strip.pure=true∧K o.val.strip H:=by
 refine enter_pure rfl ?_ (by kernel_rfl) (by kernel_rfl) (by kernel_rfl)
 show (match NC.prim 150 with | some p=>some p | none=>P 150)=none
 rw [hP];kernel_rfl
def idxTrn (q:Trn→Bool) (l:List Trn):Int:=match l.findIdx? q with
 | some i=>i
 | none=>-1
theorem r_idxR {H:Heap} {v:AV} {l:List Trn} (hs:Sl H v 3 165 (l.map Pos.Trn.row)) (hl:l.length≤maxRows) {g:FuncId} {caps:List AV} {q:Trn→Bool} (hc:caps.map strp=caps) (hg:∀ x ∈ l,∀ Hc,Old H.n H Hc → ∀ lo K,VO (aenter PT (R PT) lo g (.agg [.str x.name,.str x.track,.int .i64 x.speed]::caps) Hc) K=K (.bool (q x)) Hc) :
 ∃ w H2,R PT (.call H.n 150 [v,.fn g [] caps] H)=some (.ofVal w H2)∧w=.int .i64 (idxTrn q l):=by
 refine R_of_body (C:=PT) (f:=150) (lo:=H.n) (args:=[v,.fn g [] caps]) (H:=H) (fn:=Tryz.f150) (Q:=fun w _=>w=.int .i64 (idxTrn q l)) (by kernel_rfl) Tryz.func150 rfl rfl ?_
 have hlen:=fun H'=>hs.len (t:=100) (by kernel_rfl) H'
 simp only [List.length_map] at hlen
 simp (config:={ maxDischargeDepth:=12 }) only [go_sem,reduceIte,reduceEqDiff,reduceAdd,reduceMul,reduceSub,reduceLeDiff,reduceLT,Nat.reduceBEq,reduceCtorEq,hlen]
 refine W_for (fun k T Hc M=>M=[]∧getT T 0=v∧getT T 1=.fn g [] caps∧getT T 7=i64 (l.length:Nat)∧getT T 8=i64 k∧Old H.n H Hc ∧ ∀ x ∈ l.take k,q x=false) l.length ?_ ?_ ?_
 · simp (config:={ maxDischargeDepth:=12 }) only [go_sem,reduceIte,reduceEqDiff,reduceAdd,reduceMul,reduceSub,reduceLeDiff,reduceLT,Nat.reduceBEq,reduceCtorEq];exact fun x hx=>by simp at hx
 · rintro k T Hc M hk ⟨rfl,g0,g1,g7,g8,hO,hn⟩
   obtain ⟨x,hx⟩:∃ x,l[k]? = some x:=⟨l[k],by simp⟩
   have hw:=wrap_succ hk hl
   have hi:=hs.idx (t:=100) (by kernel_rfl) (by kernel_rfl) (rows_Len (by intro x;rfl) l) (by rw [List.length_map];exact hk) .i64
   have hd:=hs.ld (by kernel_rfl) (by kernel_rfl) (rows_Len (by intro x;rfl) l) (map_at hx) hO
   have hg1:=hg x (List.mem_of_getElem? hx)
   simp only [Pos.Trn.row] at hd
   cases hq:q x with
   | true =>
     simp (config:={ maxDischargeDepth:=12 }) only [go_sem,reduceIte,reduceEqDiff,reduceAdd,reduceMul,reduceSub,reduceLeDiff,reduceLT,Nat.reduceBEq,reduceCtorEq,g0,g1,g7,g8,hk,hw,hi,hd,hc,hg1,hO,hq]
     have:l.findIdx? q=some k:=by
      rw [List.findIdx?_eq_some_iff_getElem]
      obtain ⟨hlt,he⟩:=List.getElem?_eq_some_iff.1 hx
      refine ⟨hlt,by rw [he];exact hq,fun j hj => ?_⟩
      have:=hn l[j] (List.mem_take_iff_getElem.2 ⟨j,by omega,rfl⟩)
      simp [this]
     unfold idxTrn
     rw [this]
   | false =>
     simp (config:={ maxDischargeDepth:=12 }) only [go_sem,reduceIte,reduceEqDiff,reduceAdd,reduceMul,reduceSub,reduceLeDiff,reduceLT,Nat.reduceBEq,reduceCtorEq,g0,g1,g7,g8,hk,hw,hi,hd,hc,hg1,hO,hq]
     intro y hy
     rw [List.take_add_one,hx] at hy
     rcases List.mem_append.1 hy with hy | hy
     · exact hn y hy
     · simp only [Option.toList,List.mem_singleton] at hy
       rw [hy];exact hq
 · rintro T Hc M ⟨rfl,g0,g1,g7,g8,hO,hn⟩
   rw [List.take_length] at hn
   simp (config:={ maxDischargeDepth:=12 }) only [go_sem,reduceIte,reduceEqDiff,reduceAdd,reduceMul,reduceSub,reduceLeDiff,reduceLT,Nat.reduceBEq,reduceCtorEq,g0,g1,g7,g8,Nat.lt_irrefl]
   have:l.findIdx? q=none:=by
    rw [List.findIdx?_eq_none_iff];exact fun x hx=>by simp [hn x hx]
   unfold idxTrn
   rw [this]
theorem idxTrn_ge (q:Trn→Bool) (l:List Trn):(idxTrn q l < 0)=(l.any q=false):=by
 unfold idxTrn
 cases h:l.findIdx? q with
 | none =>
   rw [List.findIdx?_eq_none_iff] at h
   simp only [eq_iff_iff]
   refine ⟨fun _ => ?_,fun _=>by decide⟩
   rw [List.any_eq_false]
   exact fun x hx=>by simp [h x hx]
 | some i =>
   rw [List.findIdx?_eq_some_iff_getElem] at h
   obtain ⟨hlt,hq,_⟩:=h
   simp only [eq_iff_iff]
   refine ⟨fun h=>by omega,fun h => ?_⟩
   rw [List.any_eq_false] at h
   exact absurd hq (h _ (List.getElem_mem hlt))
theorem r_hasR {H : Heap} {v : AV} {l : List Trn} (hs : Sl H v 3 165 (l.map Pos.Trn.row)) (hl : l.length ≤ maxRows) {g : FuncId} {caps : List AV} {q : Trn → Bool} (hc : caps.map strp = caps) (hg : ∀ x ∈ l, ∀ Hc, Old H.n H Hc → ∀ lo K, VO (aenter PT (R PT) lo g (.agg [.str x.name, .str x.track, .int .i64 x.speed] :: caps) Hc) K = K (.bool (q x)) Hc) :
 ∃ w H2, R PT (.call H.n 142 [v, .fn g [] caps] H) = some (.ofVal w H2) ∧ w = .bool (l.any q) := by
 refine R_of_body (C := PT) (f := 142) (lo := H.n) (args := [v, .fn g [] caps]) (H := H) (fn := Tryz.f142) (Q := fun w _ => w = .bool (l.any q)) (by kernel_rfl) Tryz.func142 rfl rfl ?_
 have e1 : ∀ lo K, VO (aenter PT (R PT) lo 150 [strp v, .fn g [] caps] H) K = K (.int .i64 (idxTrn q l)) H := fun lo K => by
  obtain ⟨w, H2, h1, h2⟩ := r_idxR hs.strip hl hc hg
  exact enter_p (en150 rfl) ⟨H2, h1⟩ (by rw [h2]; rfl) rfl
 simp (config := { maxDischargeDepth := 12 }) only [go_sem, reduceIte, reduceEqDiff, reduceAdd, reduceMul, reduceSub, reduceLeDiff, reduceLT, Nat.reduceBEq, reduceCtorEq, e1, idxTrn_ge]
 cases l.any q <;> simp
theorem e_hasR {H : Heap} {v : AV} {l : List Trn} (hs : Sl H v 3 165 (l.map Pos.Trn.row)) (hl : l.length ≤ maxRows) {g : FuncId} {caps : List AV} {q : Trn → Bool} (hc : caps.map strp = caps) (hg : ∀ x ∈ l, ∀ Hc, Old H.n H Hc → ∀ lo K, VO (aenter PT (R PT) lo g (.agg [.str x.name, .str x.track, .int .i64 x.speed] :: caps) Hc) K = K (.bool (q x)) Hc) {lo : Nat} {K : AV → Heap → Prop} : VO (aenter PT (R PT) lo 142 [strp v, .fn g [] caps] H) K = K (.bool (l.any q)) H := by
 obtain ⟨w, H2, h1, h2⟩ := r_hasR hs.strip hl hc hg
 exact enter_p (en142 rfl) ⟨H2, h1⟩ (by rw [h2]; rfl) rfl
theorem el_T {H:Heap} {b o:Nat} {r:Reg} {V:RegV} (h:RegIs H b o r V) {i:Nat} {x:Trk} (hx:r.tracks[i]? = some x):elA V.vT 2 i=.pptr [.str x.name,.int .i64 x.speed]:=by
 obtain ⟨t,e,_⟩:=h.aT
 rw [e]
 show AV.pptr _=_
 rw [map_at hx];rfl
theorem el_SV {H:Heap} {v:AV} {sz:Nat} {te:TypeId} {rows:List (List AV)} (h:Pos.SV sz te H v rows) (hr:Len sz rows) {i:Nat} {row:List AV} (hx:rows[i]? = some row):∃ id,elA v sz i=.ptr id (i * sz)∧id < H.n ∧
 (∀ {H':Heap},Old H.n H H' → ∀ {k:Nat} {c:AV} {t:TypeId},row[k]? = some c→(szOf NC.P t).isSome=true→aggOf NC.P t=some false→sld H' t (.ptr id (i * sz+k))=some c) ∧
 (∀ {H':Heap},Old H.n H H' → ∀ {k n:Nat} {t:TypeId},k+n≤row.length→szOf NC.P t=some n→aggOf NC.P t=some true→sld H' t (.ptr id (i * sz+k))=some (.agg ((row.drop k).take n))):=by
 rcases h with ⟨rfl,rfl⟩ | ⟨id,cs,m,rfl,h2,h3,h4⟩
 · cases hx
 refine ⟨id,by show AV.ptr id (0+i * sz)=_;rw [Nat.zero_add],h2,fun {H'} ho {k c t} hk hs hg => ?_,fun {H'} ho {k n t} hk hs hg => ?_⟩
 · obtain ⟨n,hn⟩:=Option.isSome_iff_exists.1 hs
   have hc:=Pos.flat_cell hr hx hk
   have hc2:sub? (rows.flatten++cs) (i * sz+k) 1=some [c]:=by
    unfold sub? at hc ⊢
    split at hc
    · rename_i hle
      rw [if_pos (by rw [List.length_append];omega),List.drop_append_of_le_length (by omega),List.take_append_of_le_length (by rw [List.length_drop];omega)]
      exact hc
    · cases hc
   show aload NC.P H' t (.ptr id (i * sz+k))=some c
   unfold aload
   simp only [hn,hg,readCells,ho.2 id h2,h3,blkCells,if_false,hc2,loadV,Bool.false_eq_true]
 · have hf:=flat_at hr hx
   have hl:=hr row (List.mem_of_getElem? hx)
   have hc2:sub? (rows.flatten++cs) (i * sz+k) n=some ((row.drop k).take n):=by
    unfold sub? at hf ⊢
    split at hf
    · rename_i hle
      have hf:=Option.some.inj hf
      rw [if_pos (by rw [List.length_append];omega),List.drop_append_of_le_length (by omega),List.take_append_of_le_length (by rw [List.length_drop];omega)]
      rw [← List.drop_drop,← hf,List.drop_take,List.take_take]
      congr 1
      congr 1
      omega
    · cases hf
   show aload NC.P H' t (.ptr id (i * sz+k))=_
   unfold aload
   simp only [hs,hg,readCells,ho.2 id h2,h3,blkCells,if_true,hc2,loadV]
structure PtF (H:Heap) (id off:Nat) (x:Flt):Prop where
 lt:id < H.n
 f0:∀ {H':Heap},Old H.n H H'→sld H' 9 (.ptr id off)=some (.str x.name)
 f1:∀ {H':Heap},Old H.n H H'→sld H' 9 (.ptr id (off+1))=some (.str x.track)
 f2:∀ {H':Heap},Old H.n H H'→sld H' 3 (.ptr id (off+2))=some (.int .i64 x.frm)
 f3:∀ {H':Heap},Old H.n H H'→sld H' 3 (.ptr id (off+3))=some (.int .i64 x.to)
 f4:∀ {H':Heap},Old H.n H H'→sld H' 3 (.ptr id (off+4))=some (.int .i64 x.speed)
 f5:∀ {H':Heap},Old H.n H H'→sld H' 4 (.ptr id (off+5))=some (.bool x.ans)
 f6:∀ {H':Heap},Old H.n H H'→sld H' 4 (.ptr id (off+6))=some (.bool x.rep)
structure PtP (H:Heap) (id off:Nat) (x:Pos):Prop where
 lt:id < H.n
 f0:∀ {H':Heap},Old H.n H H'→sld H' 9 (.ptr id off)=some (.str x.name)
 f1:∀ {H':Heap},Old H.n H H'→sld H' 9 (.ptr id (off+1))=some (.str x.track)
 f2:∀ {H':Heap},Old H.n H H'→sld H' 3 (.ptr id (off+2))=some (.int .i64 x.frm)
 f3:∀ {H':Heap},Old H.n H H'→sld H' 3 (.ptr id (off+3))=some (.int .i64 x.to)
 f4:∀ {H':Heap},Old H.n H H'→sld H' 4 (.ptr id (off+4))=some (.bool x.ret)
 f5:∀ {H':Heap},Old H.n H H'→sld H' 4 (.ptr id (off+5))=some (.bool x.prot)
 f6:∀ {H':Heap},Old H.n H H'→sld H' 4 (.ptr id (off+6))=some (.bool x.opn)
 f7:∀ {H':Heap},Old H.n H H'→sld H' 3 (.ptr id (off+7))=some (.int .i64 x.closed)
 f8:∀ {H':Heap},Old H.n H H'→sld H' 3 (.ptr id (off+8))=some (.int .i64 x.pers)
 f9:∀ {H':Heap},Old H.n H H'→sld H' 3 (.ptr id (off+9))=some (.int .i64 x.speed)
 sp:∀ {H':Heap},Old H.n H H'→sld H' 35 (.ptr id (off+2))=some (.agg [.int .i64 x.frm,.int .i64 x.to])
theorem el_F {H:Heap} {b o:Nat} {r:Reg} {V:RegV} (h:RegIs H b o r V) {i:Nat} {x:Flt} (hx:r.faults[i]? = some x):∃ id,elA V.vF 7 i=.ptr id (i * 7)∧PtF H id (i * 7) x:=by
 obtain ⟨id,h1,h2,h3,h4⟩:=el_SV h.aF (rows_Len (by intro x;rfl) _) (map_at hx)
 exact ⟨id,h1,h2,fun ho=>h3 ho (k:=0) rfl (by kernel_rfl) (by kernel_rfl),fun ho=>h3 ho rfl (by kernel_rfl) (by kernel_rfl),fun ho=>h3 ho rfl (by kernel_rfl) (by kernel_rfl),fun ho=>h3 ho rfl (by kernel_rfl) (by kernel_rfl),fun ho=>h3 ho rfl (by kernel_rfl) (by kernel_rfl),fun ho=>h3 ho rfl (by kernel_rfl) (by kernel_rfl),fun ho=>h3 ho rfl (by kernel_rfl) (by kernel_rfl)⟩
theorem el_P {H:Heap} {b o:Nat} {r:Reg} {V:RegV} (h:RegIs H b o r V) {i:Nat} {x:Pos} (hx:r.poss[i]? = some x):∃ id,elA V.vP 10 i=.ptr id (i * 10)∧PtP H id (i * 10) x:=by
 obtain ⟨id,h1,h2,h3,h4⟩:=el_SV h.aP (rows_Len (by intro x;rfl) _) (map_at hx)
 exact ⟨id,h1,h2,fun ho=>h3 ho (k:=0) rfl (by kernel_rfl) (by kernel_rfl),fun ho=>h3 ho rfl (by kernel_rfl) (by kernel_rfl),fun ho=>h3 ho rfl (by kernel_rfl) (by kernel_rfl),fun ho=>h3 ho rfl (by kernel_rfl) (by kernel_rfl),fun ho=>h3 ho rfl (by kernel_rfl) (by kernel_rfl),fun ho=>h3 ho rfl (by kernel_rfl) (by kernel_rfl),fun ho=>h3 ho rfl (by kernel_rfl) (by kernel_rfl),fun ho=>h3 ho rfl (by kernel_rfl) (by kernel_rfl),fun ho=>h3 ho rfl (by kernel_rfl) (by kernel_rfl),fun ho=>h3 ho rfl (by kernel_rfl) (by kernel_rfl),fun ho=>h4 ho (k:=2) (n:=2) (by show 2+2≤10;decide) (by kernel_rfl) (by kernel_rfl)⟩
theorem en35 {P:FuncId→Option (List AV→Option AV)} (hP:P 35=none) {lo:Nat} {args:List AV} {H:Heap} {K:AV→Heap→Prop}:VO (aenter (NC.withPrims P) (R (NC.withPrims P)) lo 35 args H) K=AO (R (NC.withPrims P) (.call H.n 35 args H)) fun o=>o.val.strip.pure=true∧K o.val.strip H:=by
 refine enter_pure rfl ?_ (by kernel_rfl) (by kernel_rfl) (by kernel_rfl)
 show (match NC.prim 35 with | some p=>some p | none=>P 35)=none
 rw [hP];kernel_rfl
theorem en43 {P:FuncId→Option (List AV→Option AV)} (hP:P 43=none) {lo:Nat} {args:List AV} {H:Heap} {K:AV→Heap→Prop}:VO (aenter (NC.withPrims P) (R (NC.withPrims P)) lo 43 args H) K=AO (R (NC.withPrims P) (.call H.n 43 args H)) fun o=>o.val.strip.pure=true∧K o.val.strip H:=by
 refine enter_pure rfl ?_ (by kernel_rfl) (by kernel_rfl) (by kernel_rfl)
 show (match NC.prim 43 with | some p=>some p | none=>P 43)=none
 rw [hP];kernel_rfl
theorem en68 {P:FuncId→Option (List AV→Option AV)} (hP:P 68=none) {lo:Nat} {args:List AV} {H:Heap} {K:AV→Heap→Prop}:VO (aenter (NC.withPrims P) (R (NC.withPrims P)) lo 68 args H) K=AO (R (NC.withPrims P) (.call H.n 68 args H)) fun o=>o.val.strip.pure=true∧K o.val.strip H:=by
 refine enter_pure rfl ?_ (by kernel_rfl) (by kernel_rfl) (by kernel_rfl)
 show (match NC.prim 68 with | some p=>some p | none=>P 68)=none
 rw [hP];kernel_rfl
theorem en39 {P:FuncId→Option (List AV→Option AV)} (hP:P 39=none) {lo:Nat} {args:List AV} {H:Heap} {K:AV→Heap→Prop}:VO (aenter (NC.withPrims P) (R (NC.withPrims P)) lo 39 args H) K=AO (R (NC.withPrims P) (.call H.n 39 args H)) fun o=>o.val.strip.pure=true∧K o.val.strip H:=by
 refine enter_pure rfl ?_ (by kernel_rfl) (by kernel_rfl) (by kernel_rfl)
 show (match NC.prim 39 with | some p=>some p | none=>P 39)=none
 rw [hP];kernel_rfl
theorem r_silent {H : Heap} {b o : Nat} {r : Reg} {V : RegV} (h : RegIs H b o r V) : ∃ w H2, R PT (.call H.n 35 [.ptr b o] H) = some (.ofVal w H2) ∧ w.strip = .ps .unk ((r.faults.filter Flt.silent).map Pos.Flt.row) := by
 refine R_of_body (C := PT) (f := 35) (lo := H.n) (args := [.ptr b o]) (H := H) (fn := Tryz.f35) (Q := fun w _ => w.strip = .ps .unk ((r.faults.filter Flt.silent).map Pos.Flt.row)) (by kernel_rfl) Tryz.func35 rfl rfl ?_
 have l2 := fun H' => h.l2 (H' := H')
 have e1 : ∀ lo K, VO (aenter PT (R PT) lo 61 [strp V.vF, .fn 62 [] []] H) K = K (.ps .unk ((r.faults.filter Flt.silent).map Pos.Flt.row)) H := fun lo K => by
  obtain ⟨t, H2, h1, _, _⟩ := r_keptF h.sF.strip h.lF (g := 62) (caps := []) (q := Flt.silent) rfl (fun x _ Hc _ lo K => by
   have hp := pe62 x
   simp only [Pos.Flt.row] at hp
   simp (config := { maxDischargeDepth := 12 }) only [go_sem, reduceIte, reduceEqDiff, reduceAdd, reduceMul, reduceSub, reduceLeDiff, reduceLT, Nat.reduceBEq, reduceCtorEq, hp])
  refine enter_p (en61 rfl) ⟨H2, h1⟩ rfl ?_
  rfl
 simp (config := { maxDischargeDepth := 12 }) only [go_sem, reduceIte, reduceEqDiff, reduceAdd, reduceMul, reduceSub, reduceLeDiff, reduceLT, Nat.reduceBEq, reduceCtorEq, l2, e1]
theorem e_silent {H : Heap} {b o : Nat} {r : Reg} {V : RegV} (h : RegIs H b o r V) {Hc : Heap} (ho : Old H.n H Hc) {lo : Nat} {K : AV → Heap → Prop} : VO (aenter PT (R PT) lo 35 [.ptr b o] Hc) K = K (.ps .unk ((r.faults.filter Flt.silent).map Pos.Flt.row)) Hc := by
 obtain ⟨w, H2, h1, h2⟩ := r_silent (h.old ho)
 exact enter_p (en35 rfl) ⟨H2, h1⟩ h2 rfl
theorem e_silentOn_1 {H : Heap} {f : Flt} {id : Nat} {s : Nm} (hid : id < H.n) (hg : H.get id = .cells [.str s] 9) {lo : Nat} {K : AV → Heap → Prop} : VO (aenter PT (R PT) lo 68 [.agg [.str f.name, .str f.track, .int .i64 f.frm, .int .i64 f.to, .int .i64 f.speed, .bool f.ans, .bool f.rep], .ptr id 0] H) K = K (.bool (decide (f.track = s))) H := by
 obtain ⟨w, H2, h1, h2⟩ := R_of_body (C := PT) (f := 68) (lo := H.n) (args := [.agg [.str f.name, .str f.track, .int .i64 f.frm, .int .i64 f.to, .int .i64 f.speed, .bool f.ans, .bool f.rep], .ptr id 0]) (H := H) (fn := Tryz.f68) (Q := fun w _ => w = .bool (decide (f.track = s))) (by kernel_rfl) Tryz.func68 rfl rfl (by
  have hne : (id = H.n) = False := eq_false (by omega)
  simp (config := { maxDischargeDepth := 12 }) only [go_sem, reduceIte, reduceEqDiff, reduceAdd, reduceMul, reduceSub, reduceLeDiff, reduceLT, Nat.reduceBEq, reduceCtorEq, hne, hg, beqL_dec])
 exact enter_p (en68 rfl) ⟨H2, h1⟩ (by rw [h2]; rfl) rfl
theorem r_silentOn {H:Heap} {b o:Nat} {r:Reg} {V:RegV} (h:RegIs H b o r V) (s:Nm):∃ w H2,R PT (.call H.n 43 [.ptr b o,.str s] H)=some (.ofVal w H2)∧w=.bool (r.silentOn s):=by
 refine R_of_body (C:=PT) (f:=43) (lo:=H.n) (args:=[.ptr b o,.str s]) (H:=H) (fn:=Tryz.f43) (Q:=fun w _=>w=.bool (r.silentOn s)) (by kernel_rfl) Tryz.func43 rfl rfl ?_
 have e1:=fun lo K=>e_silent h ((Old.refl H).push (.cells [.str s] 9)) (lo:=lo) (K:=K)
 have e2:∀ lo K,VO (aenter PT (R PT) lo 67 [.ps .unk ((r.faults.filter Flt.silent).map Pos.Flt.row),.fn 68 [] [.ptr H.n 0]] (H.push (.cells [.str s] 9))) K=K (.bool ((r.faults.filter Flt.silent).any fun f=>decide (f.track=s))) (H.push (.cells [.str s] 9)):=fun lo K =>
  e_hasF (v:=.ps .unk ((r.faults.filter Flt.silent).map Pos.Flt.row)) (.inl ⟨_,rfl,rfl⟩) (Nat.le_trans (List.length_filter_le _ _) h.lF) rfl (fun x _ Hc ho lo K=>e_silentOn_1 (Nat.lt_of_lt_of_le (by simp) ho.1) (by rw [ho.2 _ (by simp),Heap.get_push,if_pos rfl]))
 have e3:r.silentOn s=(r.faults.filter Flt.silent).any fun f=>decide (f.track=s):=by
  unfold Pos.Reg.silentOn
  rw [List.any_filter]
  congr 1
  funext f
  rw [Bool.and_comm]
 rw [e3]
 simp (config:={ maxDischargeDepth:=12 }) only [go_sem,reduceIte,reduceEqDiff,reduceAdd,reduceMul,reduceSub,reduceLeDiff,reduceLT,Nat.reduceBEq,reduceCtorEq,e1,e2]
theorem e_silentOn {H : Heap} {b o : Nat} {r : Reg} {V : RegV} (h : RegIs H b o r V) (s : Nm) {Hc : Heap} (ho : Old H.n H Hc) {lo : Nat} {K : AV → Heap → Prop} : VO (aenter PT (R PT) lo 43 [.ptr b o, .str s] Hc) K = K (.bool (r.silentOn s)) Hc := by
 obtain ⟨w, H2, h1, h2⟩ := r_silentOn (h.old ho) s
 exact enter_p (en43 rfl) ⟨H2, h1⟩ (by rw [h2]; rfl) rfl
end Go.Sim

namespace Go.Sim
open Go Go.Proofs
open Go.Sim.Pos (Nm Trk Flt Trn Pos Mch Reg Ev Len flat_len flat_take flat_drop flat_at minI)
set_option maxRecDepth 100000
set_option maxHeartbeats 8000000
def fltOn (s:Nm) (f:Flt):Bool:=decide (f.track=s) && (f.ans && !f.rep)
def posOn (s:Nm) (p:Pos):Bool:=decide (p.track=s) && p.ret
theorem min_le (a b:Int):minI a b≤a:=by unfold minI;split<;>omega
theorem fold_le (l:List Int) (a:Int):l.foldl minI a≤a:=by
 induction l generalizing a with
 | nil=>exact Int.le_refl _
 | cons x r ih=>exact Int.le_trans (ih _) (min_le a x)
theorem fold_filter {α:Type} {q:α→Bool} {u:α→Int} {l:List α} {k:Nat} {x:α} (h:l[k]? = some x) (a:Int):(((l.take (k+1)).filter q).map u).foldl minI a=if q x then minI ((((l.take k).filter q).map u).foldl minI a) (u x) else (((l.take k).filter q).map u).foldl minI a:=by
 rw [filter_take h]
 cases hq:q x with
 | true=>rw [if_pos rfl,if_pos rfl,List.map_append,List.foldl_append];rfl
 | false=>rw [if_neg (by simp),if_neg (by simp)]
theorem r_permitted {H:Heap} {b o:Nat} {r:Reg} {V:RegV} (h:RegIs H b o r V) {s:Nm} {y:Trk} (hy:r.track? s=some y):∃ w H2,R PT (.call H.n 39 [.ptr b o,.str s] H)=some (.ofVal w H2)∧w=.int .i64 (r.permitted s):=by
 refine R_of_body (C:=PT) (f:=39) (lo:=H.n) (args:=[.ptr b o,.str s]) (H:=H) (fn:=Tryz.f39) (Q:=fun w _=>w=.int .i64 (r.permitted s)) (by kernel_rfl) Tryz.func39 rfl rfl ?_
 have l2:=fun H'=>h.l2 (H':=H')
 have l4:=fun H'=>h.l4 (H':=H')
 obtain ⟨i,hi,hx,hlt,_⟩:=find_len hy
 have e1:=fun lo K=>e_track h hi hlt (Old.refl H) (lo:=lo) (K:=K)
 have e2:=el_T h hx
 have hlenF:=fun H'=>h.sF.len (t:=98) (by kernel_rfl) H'
 have hlenP:=fun H'=>h.sP.len (t:=101) (by kernel_rfl) H'
 simp only [List.length_map] at hlenF hlenP
 have hspec:r.permitted s=((r.poss.filter (posOn s)).map (·.speed)).foldl minI (((r.faults.filter (fltOn s)).map (·.speed)).foldl minI y.speed):=by
  unfold Pos.Reg.permitted
  rw [hy];rfl
 rw [hspec]
 simp (config:={ maxDischargeDepth:=12 }) only [go_sem,reduceIte,reduceEqDiff,reduceAdd,reduceMul,reduceSub,reduceLeDiff,reduceLT,Nat.reduceBEq,reduceCtorEq,e1,e2,l2,hlenF]
 refine W_for (fun k T Hc M=>M=[]∧getT T 0=.ptr b o∧getT T 1=.str s∧getT T 5=i64 y.speed∧getT T 6=i64 ((((r.faults.take k).filter (fltOn s)).map (·.speed)).foldl minI y.speed)∧getT T 21=V.vF∧getT T 22=i64 (r.faults.length:Nat)∧getT T 23=i64 k∧Old H.n H Hc) r.faults.length ?_ ?_ ?_
 · simp (config:={ maxDischargeDepth:=12 }) only [go_sem,reduceIte,reduceEqDiff,reduceAdd,reduceMul,reduceSub,reduceLeDiff,reduceLT,Nat.reduceBEq,reduceCtorEq];rfl
 · rintro k T Hc M hk ⟨rfl,g0,g1,g5,g6,g21,g22,g23,hO⟩
   obtain ⟨x,hx⟩:∃ x,r.faults[k]? = some x:=⟨r.faults[k],by simp⟩
   have hw:=wrap_succ hk h.lF
   have hN:=eq_true hO.1
   have hi:=h.sF.idx (t:=98) (by kernel_rfl) (by kernel_rfl) (rows_Len (by intro x;rfl) _) (by rw [List.length_map];exact hk) .i64
   have hd:=h.sF.ld (by kernel_rfl) (by kernel_rfl) (rows_Len (by intro x;rfl) _) (map_at hx) hO
   have hf:=fold_filter (q:=fltOn s) (u:=(·.speed)) hx y.speed
   obtain ⟨nm,tr,fa,fb,sp,an,re⟩:=x
   simp only [Pos.Flt.row] at hd
   obtain ⟨q,hq⟩:∃ q,fltOn s ⟨nm,tr,fa,fb,sp,an,re⟩=q:=⟨_,rfl⟩
   rw [hq] at hf
   rw [hf]
   unfold fltOn at hq
   by_cases c1:tr=s<;>cases an<;>cases re
   all_goals
    simp only [c1,decide_true,decide_false,Bool.not_true,Bool.not_false,Bool.and_true,Bool.and_false,Bool.true_and,Bool.false_and,if_true,if_false,Bool.false_eq_true] at hq
    subst hq
    generalize (((r.faults.take k).filter (fltOn s)).map (·.speed)).foldl minI y.speed=z at *
    simp (config:={ maxDischargeDepth:=12 }) only [go_sem,reduceIte,reduceEqDiff,reduceAdd,reduceMul,reduceSub,reduceLeDiff,reduceLT,Nat.reduceBEq,reduceCtorEq,g0,g1,g5,g6,g21,g22,g23,hk,hw,hN,hi,hd,hO,beqL_dec,c1]
    try rfl
 · rintro T Hc M ⟨rfl,g0,g1,g5,g6,g21,g22,g23,hO⟩
   rw [List.take_length] at g6
   generalize hz:((r.faults.filter (fltOn s)).map (·.speed)).foldl minI y.speed=z at *
   have hz:z≤y.speed:=by rw [← hz];exact fold_le _ _
   simp (config:={ maxDischargeDepth:=12 }) only [go_sem,reduceIte,reduceEqDiff,reduceAdd,reduceMul,reduceSub,reduceLeDiff,reduceLT,Nat.reduceBEq,reduceCtorEq,g0,g1,g5,g6,g21,g22,g23,Nat.lt_irrefl,l4,hlenP,hO]
   refine W_for (fun k T Hc M=>M=[]∧getT T 1=.str s∧getT T 5=i64 y.speed∧getT T 6=i64 ((((r.poss.take k).filter (posOn s)).map (·.speed)).foldl minI z)∧getT T 48=V.vP∧getT T 49=i64 (r.poss.length:Nat)∧getT T 50=i64 k∧Old H.n H Hc) r.poss.length ?_ ?_ ?_
   · simp (config:={ maxDischargeDepth:=12 }) only [go_sem,reduceIte,reduceEqDiff,reduceAdd,reduceMul,reduceSub,reduceLeDiff,reduceLT,Nat.reduceBEq,reduceCtorEq,g1,g5,g6];exact ⟨rfl,hO⟩
   · rintro k T Hc M hk ⟨rfl,g1,g5,g6,g48,g49,g50,hO⟩
     obtain ⟨x,hx⟩:∃ x,r.poss[k]? = some x:=⟨r.poss[k],by simp⟩
     have hw:=wrap_succ hk h.lP
     have hN:=eq_true hO.1
     have hi:=h.sP.idx (t:=101) (by kernel_rfl) (by kernel_rfl) (rows_Len (by intro x;rfl) _) (by rw [List.length_map];exact hk) .i64
     have hd:=h.sP.ld (by kernel_rfl) (by kernel_rfl) (rows_Len (by intro x;rfl) _) (map_at hx) hO
     have hf:=fold_filter (q:=posOn s) (u:=(·.speed)) hx z
     obtain ⟨nm,tr,fa,fb,re,pr,op,cl,pe,sp⟩:=x
     simp only [Pos.Pos.row] at hd
     obtain ⟨q,hq⟩:∃ q,posOn s ⟨nm,tr,fa,fb,re,pr,op,cl,pe,sp⟩=q:=⟨_,rfl⟩
     rw [hq] at hf
     rw [hf]
     unfold posOn at hq
     have hle:=fold_le (((r.poss.take k).filter (posOn s)).map (·.speed)) z
     by_cases c1:tr=s<;>cases re<;>by_cases c2:sp < y.speed
     all_goals
      simp only [c1,decide_true,decide_false,Bool.not_true,Bool.not_false,Bool.and_true,Bool.and_false,Bool.true_and,Bool.false_and,if_true,if_false,Bool.false_eq_true] at hq
      subst hq
      generalize (((r.poss.take k).filter (posOn s)).map (·.speed)).foldl minI z=z2 at *
      simp (config:={ maxDischargeDepth:=12 }) only [go_sem,reduceIte,reduceEqDiff,reduceAdd,reduceMul,reduceSub,reduceLeDiff,reduceLT,Nat.reduceBEq,reduceCtorEq,g1,g5,g6,g48,g49,g50,hk,hw,hN,hi,hd,hO,beqL_dec,c1,c2]
      try first
      | rfl
      | (have:minI z2 sp=z2:=by unfold minI;rw [if_neg (by omega)]
         simp only [if_true,this])
   · rintro T Hc M ⟨rfl,g1,g5,g6,g48,g49,g50,hO⟩
     rw [List.take_length] at g6
     simp (config:={ maxDischargeDepth:=12 }) only [go_sem,reduceIte,reduceEqDiff,reduceAdd,reduceMul,reduceSub,reduceLeDiff,reduceLT,Nat.reduceBEq,reduceCtorEq,g1,g5,g6,g48,g49,g50,Nat.lt_irrefl]
theorem e_permitted {H : Heap} {b o : Nat} {r : Reg} {V : RegV} (h : RegIs H b o r V) {s : Nm} {y : Trk} (hy : r.track? s = some y) {Hc : Heap} (ho : Old H.n H Hc) {lo : Nat} {K : AV → Heap → Prop} : VO (aenter PT (R PT) lo 39 [.ptr b o, .str s] Hc) K = K (.int .i64 (r.permitted s)) Hc := by
 obtain ⟨w, H2, h1, h2⟩ := r_permitted (h.old ho) hy
 exact enter_p (en39 rfl) ⟨H2, h1⟩ (by rw [h2]; rfl) rfl
theorem get_p {H:Heap} {a:ABlk}:(H.push a).get H.n=a:=by rw [Heap.get_push,if_pos rfl]
theorem get_pp0 {H:Heap} {a b:ABlk}:((H.push a).push b).get H.n=a:=by rw [Heap.get_push,if_neg (by simp only [Heap.n_push];omega),get_p]
theorem get_pp1 {H:Heap} {a b:ABlk}:((H.push a).push b).get (H.n+1)=b:=by rw [Heap.get_push];exact if_pos rfl
theorem n_pp {H:Heap} {a b:ABlk}:((H.push a).push b).n=H.n+1+1:=rfl
theorem en120 {P:FuncId→Option (List AV→Option AV)} (hP:P 120=none) {lo:Nat} {args:List AV} {H:Heap} {K:AV→Heap→Prop}:VO (aenter (NC.withPrims P) (R (NC.withPrims P)) lo 120 args H) K=AO (R (NC.withPrims P) (.call H.n 120 args H)) fun o=>o.val.strip.pure=true∧K o.val.strip H:=by
 refine enter_pure rfl ?_ (by kernel_rfl) (by kernel_rfl) (by kernel_rfl)
 show (match NC.prim 120 with | some p=>some p | none=>P 120)=none
 rw [hP];kernel_rfl
theorem en147 {P:FuncId→Option (List AV→Option AV)} (hP:P 147=none) {lo:Nat} {args:List AV} {H:Heap} {K:AV→Heap→Prop}:VO (aenter (NC.withPrims P) (R (NC.withPrims P)) lo 147 args H) K=AO (R (NC.withPrims P) (.call H.n 147 args H)) fun o=>o.val.strip.pure=true∧K o.val.strip H:=by
 refine enter_pure rfl ?_ (by kernel_rfl) (by kernel_rfl) (by kernel_rfl)
 show (match NC.prim 147 with | some p=>some p | none=>P 147)=none
 rw [hP];kernel_rfl
theorem en136 {P:FuncId→Option (List AV→Option AV)} (hP:P 136=none) {lo:Nat} {args:List AV} {H:Heap} {K:AV→Heap→Prop}:VO (aenter (NC.withPrims P) (R (NC.withPrims P)) lo 136 args H) K=AO (R (NC.withPrims P) (.call H.n 136 args H)) fun o=>o.val.strip.pure=true∧K o.val.strip H:=by
 refine enter_pure rfl ?_ (by kernel_rfl) (by kernel_rfl) (by kernel_rfl)
 show (match NC.prim 136 with | some p=>some p | none=>P 136)=none
 rw [hP];kernel_rfl
theorem en148 {P:FuncId→Option (List AV→Option AV)} (hP:P 148=none) {lo:Nat} {args:List AV} {H:Heap} {K:AV→Heap→Prop}:VO (aenter (NC.withPrims P) (R (NC.withPrims P)) lo 148 args H) K=AO (R (NC.withPrims P) (.call H.n 148 args H)) fun o=>o.val.strip.pure=true∧K o.val.strip H:=by
 refine enter_pure rfl ?_ (by kernel_rfl) (by kernel_rfl) (by kernel_rfl)
 show (match NC.prim 148 with | some p=>some p | none=>P 148)=none
 rw [hP];kernel_rfl
theorem x_keptM {H:Heap} {v:AV} {l:List Mch} (hs:Sl H v 2 171 (l.map Pos.Mch.row)) (hl:l.length≤maxRows) {g:FuncId} {caps:List AV} {q:Mch→Bool} (hc:caps.map strp=caps) (hg:∀ x ∈ l,∀ Hc,Old H.n H Hc → ∀ lo K,VO (aenter PT (R PT) lo g (.agg [.str x.name,.str x.poss]::caps) Hc) K=K (.bool (q x)) Hc) :
 ∃ t H2,(∀ lo K,VO (aenter PT (R PT) lo 125 [strp v,.fn g [] caps] H) K=K (.ps t ((l.filter q).map Pos.Mch.row)) H2)∧AppB H.n H2 t ((l.filter q).map Pos.Mch.row) 2 171∧Old H.n H H2:=by
 obtain ⟨t,H2,h1,h2⟩:=r_keptM hs.strip hl hc hg
 exact ⟨t,H2,fun lo K=>enter_n (en125 rfl) h1,h2⟩
theorem x_keptR {H:Heap} {v:AV} {l:List Trn} (hs:Sl H v 3 165 (l.map Pos.Trn.row)) (hl:l.length≤maxRows) {g:FuncId} {caps:List AV} {q:Trn→Bool} (hc:caps.map strp=caps) (hg:∀ x ∈ l,∀ Hc,Old H.n H Hc → ∀ lo K,VO (aenter PT (R PT) lo g (.agg [.str x.name,.str x.track,.int .i64 x.speed]::caps) Hc) K=K (.bool (q x)) Hc) :
 ∃ t H2,(∀ lo K,VO (aenter PT (R PT) lo 111 [strp v,.fn g [] caps] H) K=K (.ps t ((l.filter q).map Pos.Trn.row)) H2)∧AppB H.n H2 t ((l.filter q).map Pos.Trn.row) 3 165∧Old H.n H H2:=by
 obtain ⟨t,H2,h1,h2⟩:=r_keptR hs.strip hl hc hg
 exact ⟨t,H2,fun lo K=>enter_n (en111 rfl) h1,h2⟩
theorem x_mapM {H:Heap} (l:List Mch) (hl:l.length≤maxRows) :
 ∃ t H2,(∀ lo K,VO (aenter PT (R PT) lo 91 [.ps .unk (l.map Pos.Mch.row),.fn 149 [] []] H) K=K (.ps t (strs (l.map (·.name)))) H2)∧AppB H.n H2 t (strs (l.map (·.name))) 1 9∧Old H.n H H2:=by
 obtain ⟨t,H2,h1,h2⟩:=r_mapM_holds_2 (H:=H) (v:=.ps .unk (l.map Pos.Mch.row)) (l:=l) (.inl ⟨_,rfl,rfl⟩) hl
 exact ⟨t,H2,fun lo K=>enter_n (en91 rfl) h1,h2⟩
theorem e_inside_1 {H : Heap} {m : Mch} {id : Nat} {s : Nm} (hid : id < H.n) (hg : H.get id = .cells [.str s] 9) {lo : Nat} {K : AV → Heap → Prop} : VO (aenter PT (R PT) lo 147 [.agg [.str m.name, .str m.poss], .ptr id 0] H) K = K (.bool (decide (m.poss = s))) H := by
 obtain ⟨w, H2, h1, h2⟩ := R_of_body (C := PT) (f := 147) (lo := H.n) (args := [.agg [.str m.name, .str m.poss], .ptr id 0]) (H := H) (fn := Tryz.f147) (Q := fun w _ => w = .bool (decide (m.poss = s))) (by kernel_rfl) Tryz.func147 rfl rfl (by
  have hne : (id = H.n) = False := eq_false (by omega)
  simp (config := { maxDischargeDepth := 12 }) only [go_sem, reduceIte, reduceEqDiff, reduceAdd, reduceMul, reduceSub, reduceLeDiff, reduceLT, Nat.reduceBEq, reduceCtorEq, hne, hg, beqL_dec])
 exact enter_p (en147 rfl) ⟨H2, h1⟩ (by rw [h2]; rfl) rfl
theorem e_holds_1 {H : Heap} {m : Mch} {id : Nat} {s : Nm} (hid : id < H.n) (hg : H.get id = .cells [.str s] 9) {lo : Nat} {K : AV → Heap → Prop} : VO (aenter PT (R PT) lo 148 [.agg [.str m.name, .str m.poss], .ptr id 0] H) K = K (.bool (decide (m.poss = s))) H := by
 obtain ⟨w, H2, h1, h2⟩ := R_of_body (C := PT) (f := 148) (lo := H.n) (args := [.agg [.str m.name, .str m.poss], .ptr id 0]) (H := H) (fn := Tryz.f148) (Q := fun w _ => w = .bool (decide (m.poss = s))) (by kernel_rfl) Tryz.func148 rfl rfl (by
  have hne : (id = H.n) = False := eq_false (by omega)
  simp (config := { maxDischargeDepth := 12 }) only [go_sem, reduceIte, reduceEqDiff, reduceAdd, reduceMul, reduceSub, reduceLeDiff, reduceLT, Nat.reduceBEq, reduceCtorEq, hne, hg, beqL_dec])
 exact enter_p (en148 rfl) ⟨H2, h1⟩ (by rw [h2]; rfl) rfl
theorem ab2 (a b:Int):abuild NC.P 57 [(0,.int .i64 a),(1,.int .i64 b)]=some (.agg [.int .i64 a,.int .i64 b]):=by kernel_rfl
theorem r_inside {H:Heap} {b o:Nat} {r:Reg} {V:RegV} (h:RegIs H b o r V) {s:Nm} {p:Pos} (hp:r.poss? s=some p):∃ w H2,R PT (.call H.n 120 [.ptr b o,.str s] H)=some (.ofVal w H2)∧w=.agg [i64 ((r.within s).length:Nat),i64 p.pers]:=by
 refine R_of_body (C:=PT) (f:=120) (lo:=H.n) (args:=[.ptr b o,.str s]) (H:=H) (fn:=Tryz.f120) (Q:=fun w _=>w=.agg [i64 ((r.within s).length:Nat),i64 p.pers]) (by kernel_rfl) Tryz.func120 rfl rfl ?_
 have l5:=fun H'=>h.l5 (H':=H')
 obtain ⟨i,hi,hx,hlt,_⟩:=find_len hp
 obtain ⟨id,he,hP⟩:=el_P h hx
 obtain ⟨z,hz⟩:∃ z,zeroOf NC.P 57=some z:=⟨_,ze_57⟩
 have hO1:Old H.n H ((H.push (.cells [.str s] 9)).push (.cells z.cells 57)):=((Old.refl H).push _).push _
 obtain ⟨t,H2,m5,hA,hO2⟩:=x_keptM (h.sM.old hO1) h.lM (g:=147) (caps:=[.ptr H.n 0]) (q:=fun m=>decide (m.poss=s)) rfl (fun x _ Hc ho lo K=>e_inside_1 (Nat.lt_of_lt_of_le (by rw [n_pp];omega) ho.1) (by rw [ho.2 _ (by rw [n_pp];omega),get_pp0]))
 have hO:=hO1.to hO2
 have e1:=fun lo K=>e_poss h hi hlt hO (lo:=lo) (K:=K)
 rw [ze_57] at hz
 cases hz
 have b1:H2.get H.n=.cells [.str s] 9:=by rw [hO2.2 _ (by rw [n_pp];omega),get_pp0]
 have b2:H2.get (H.n+1)=.cells [.int .i64 0,.int .i64 0] 57:=by rw [hO2.2 _ (by rw [n_pp];omega),get_pp1];rfl
 simp only [AV.cells] at m5
 simp (config:={ maxDischargeDepth:=12 }) only [go_sem,reduceIte,reduceEqDiff,reduceAdd,reduceMul,reduceSub,reduceLeDiff,reduceLT,Nat.reduceBEq,reduceCtorEq,l5,m5,e1,he,hP.f8,hO,b1,b2,ab2]
 rfl
theorem e_inside {H : Heap} {b o : Nat} {r : Reg} {V : RegV} (h : RegIs H b o r V) {s : Nm} {p : Pos} (hp : r.poss? s = some p) {Hc : Heap} (ho : Old H.n H Hc) {lo : Nat} {K : AV → Heap → Prop} : VO (aenter PT (R PT) lo 120 [.ptr b o, .str s] Hc) K = K (.agg [i64 ((r.within s).length : Nat), i64 p.pers]) Hc := by
 obtain ⟨w, H2, h1, h2⟩ := r_inside (h.old ho) hp
 exact enter_p (en120 rfl) ⟨H2, h1⟩ (by rw [h2]; rfl) rfl
def holdsR (r:Reg) (s:Nm) (p:Pos):List Nm:=(r.within s).map (·.name)++(if 0 < p.pers then [[115,116,97,102,102]] else [])++(if p.opn then [[109,101,97,115,117,114,101,109,101,110,116]] else [])++(if p.prot then [[112,114,111,116,101,99,116,105,111,110]] else [])
theorem optApp {b lo:Nat} {H:Heap} {t:Tok} {l:List Nm} (c:Prop) [Decidable c] (x:Nm) (h:AppB b H t (strs l) 1 9) (hb:b≤H.n) (hlo:lo≤b) (hl:l.length+1≤maxRows) :
 ∃ u K,(c→appP lo H 1 9 (.ps t (strs l)) [[.str x]]=some (.ps u (strs (l++if c then [x] else [])),K))∧(¬ c→u=t∧K=H)∧AppB b K u (strs (l++if c then [x] else [])) 1 9∧Old b H K:=by
 by_cases hc:c
 · obtain ⟨t',H',ha,hA',_,hO,_⟩:=app_b h hb hlo (r:=[.str x]) (by rw [strs_len];exact hl) rfl (by decide) (strs_all _)
   have e1:strs l++[[AV.str x].map AV.strip0]=strs (l++if c then [x] else []):=by
    rw [if_pos hc];unfold strs;rw [List.map_append];rfl
   rw [e1] at ha hA'
   exact ⟨t',H',fun _=>ha,fun h=>absurd hc h,hA',hO⟩
 · rw [if_neg hc,List.append_nil]
   exact ⟨t,H,fun h=>absurd h hc,fun _=>⟨rfl,rfl⟩,h,⟨hb,fun _ _=>rfl⟩⟩
theorem r_holds {H:Heap} {b o:Nat} {r:Reg} {V:RegV} (h:RegIs H b o r V) {s:Nm} {p:Pos} (hp:r.poss? s=some p) (hM:r.machs.length+3≤maxRows):∃ w H2,R PT (.call H.n 136 [.ptr b o,.str s] H)=some (.ofVal w H2)∧w.strip=.ps .unk (strs (holdsR r s p)):=by
 refine R_of_body (C:=PT) (f:=136) (lo:=H.n) (args:=[.ptr b o,.str s]) (H:=H) (fn:=Tryz.f136) (Q:=fun w _=>w.strip=.ps .unk (strs (holdsR r s p))) (by kernel_rfl) Tryz.func136 rfl rfl ?_
 have l5:=fun H'=>h.l5 (H':=H')
 obtain ⟨i,hi,hx,hlt,_⟩:=find_len hp
 obtain ⟨id,he,hP⟩:=el_P h hx
 have hO1:Old H.n H (H.push (.cells [.str s] 9)):=(Old.refl H).push _
 obtain ⟨t,H2,m5,hA,hO2⟩:=x_keptM (h.sM.old hO1) h.lM (g:=148) (caps:=[.ptr H.n 0]) (q:=fun m=>decide (m.poss=s)) rfl (fun x _ Hc ho lo K=>e_holds_1 (Nat.lt_of_lt_of_le (by simp only [Heap.n_push];omega) ho.1) (by rw [ho.2 _ (by simp only [Heap.n_push];omega),get_p]))
 have hle:(r.machs.filter fun m=>decide (m.poss=s)).length≤r.machs.length:=List.length_filter_le _ _
 obtain ⟨t3,H3,m6,hA3,hO3⟩:=x_mapM (H:=H2) (r.machs.filter fun m=>decide (m.poss=s)) (by omega)
 have hO12:=hO1.to hO2
 have hO:=hO12.to hO3
 have b1:H3.get H.n=.cells [.str s] 9:=by
  rw [hO3.2 _ (Nat.lt_of_lt_of_le (by simp only [Heap.n_push];omega) hO2.1),hO2.2 _ (by simp only [Heap.n_push];omega),get_p]
 obtain ⟨u1,K1,a1,c1,A1,O1⟩:=optApp (lo:=H.n) (b:=H2.n) (0 < p.pers) [115,116,97,102,102] hA3 hO3.1 hO12.1 (by rw [List.length_map];omega)
 have n1:∀ (c:Prop) [Decidable c] (x:Nm) (l:List Nm),(l++if c then [x] else []).length≤l.length+1:=fun c _ x l=>by
  rw [List.length_append];split<;>simp
 have q1:=n1 (0 < p.pers) [115,116,97,102,102] ((r.machs.filter fun m=>decide (m.poss=s)).map (·.name))
 rw [List.length_map] at q1
 obtain ⟨u2,K2,a2,c2,A2,O2⟩:=optApp (lo:=H.n) (b:=H2.n) (p.opn=true) [109,101,97,115,117,114,101,109,101,110,116] A1 O1.1 hO12.1 (by omega)
 have q2:=n1 (p.opn=true) [109,101,97,115,117,114,101,109,101,110,116] ((r.machs.filter fun m=>decide (m.poss=s)).map (·.name)++if 0 < p.pers then [[115,116,97,102,102]] else [])
 obtain ⟨u3,K3,a3,c3,A3,O3⟩:=optApp (lo:=H.n) (b:=H2.n) (p.prot=true) [112,114,111,116,101,99,116,105,111,110] A2 O2.1 hO12.1 (by omega)
 have hO4:Old H.n H K1:=⟨Nat.le_trans hO12.1 O1.1,fun j hj=>by rw [O1.2 j (Nat.lt_of_lt_of_le hj hO12.1),hO.2 j hj]⟩
 have hO5:Old H.n H K2:=⟨Nat.le_trans hO12.1 O2.1,fun j hj=>by rw [O2.2 j (Nat.lt_of_lt_of_le hj hO12.1),hO4.2 j hj]⟩
 have e1:=fun lo K=>e_poss h hi hlt hO (lo:=lo) (K:=K)
 have hL:holdsR r s p=(((r.machs.filter fun m=>decide (m.poss=s)).map (·.name)++if 0 < p.pers then [[115,116,97,102,102]] else [])++if p.opn=true then [[109,101,97,115,117,114,101,109,101,110,116]] else [])++if p.prot=true then [[112,114,111,116,101,99,116,105,111,110]] else []:=rfl
 rw [hL]
 generalize hL0:(r.machs.filter fun m=>decide (m.poss=s)).map (·.name)=L0 at *
 generalize hL1:(L0++if 0 < p.pers then [[115,116,97,102,102]] else [])=L1 at *
 generalize hL2:(L1++if p.opn=true then [[109,101,97,115,117,114,101,109,101,110,116]] else [])=L2 at *
 generalize hL3:(L2++if p.prot=true then [[112,114,111,116,101,99,116,105,111,110]] else [])=L3 at *
 have hopn:=hP.f6 (H':=K1) hO4
 have hprot:=hP.f5 (H':=K2) hO5
 have hpers:=hP.f8 (H':=H3) hO
 have s1:=strs_all L0
 have s2:=strs_all L1
 have s3:=strs_all L2
 by_cases g1:0 < p.pers<;>cases g2:p.opn<;>cases g3:p.prot
 all_goals
  rw [g2] at hopn
  rw [g3] at hprot
  first | (have d1:=a1 g1) | (obtain ⟨rfl,rfl⟩:=c1 g1;have e0:L1=L0:=(by rw [← hL1,if_neg g1];simp);subst e0)
  first | (have d2:=a2 g2) | (obtain ⟨rfl,rfl⟩:=c2 (by rw [g2];simp);have e2:L2=L1:=(by rw [← hL2,g2];simp);subst e2)
  first | (have d3:=a3 g3) | (obtain ⟨rfl,rfl⟩:=c3 (by rw [g3];simp))
  simp (config:={ maxDischargeDepth:=12 }) only [go_sem,reduceIte,reduceEqDiff,reduceAdd,reduceMul,reduceSub,reduceLeDiff,reduceLT,Nat.reduceBEq,reduceCtorEq,l5,m5,m6,e1,he,hpers,hopn,hprot,hO,b1,g1,appO,s1,s2,s3, *]
  try (rw [← hL3,← hL2,g2,g3];simp)
theorem e_holds {H : Heap} {b o : Nat} {r : Reg} {V : RegV} (h : RegIs H b o r V) {s : Nm} {p : Pos} (hp : r.poss? s = some p) (hM : r.machs.length + 3 ≤ maxRows) {Hc : Heap} (ho : Old H.n H Hc) {lo : Nat} {K : AV → Heap → Prop} : VO (aenter PT (R PT) lo 136 [.ptr b o, .str s] Hc) K = K (.ps .unk (strs (holdsR r s p))) Hc := by
 obtain ⟨w, H2, h1, h2⟩ := r_holds (h.old ho) hp hM
 exact enter_p (en136 rfl) ⟨H2, h1⟩ h2 rfl
def openB (s:Nm) (p:Pos):Bool:=decide (p.track=s) && !p.ret
theorem en66 {P:FuncId→Option (List AV→Option AV)} (hP:P 66=none) {lo:Nat} {args:List AV} {H:Heap} {K:AV→Heap→Prop}:VO (aenter (NC.withPrims P) (R (NC.withPrims P)) lo 66 args H) K=AO (R (NC.withPrims P) (.call H.n 66 args H)) fun o=>K o.val o.s.H:=by
 refine enter_fresh rfl ?_ (by kernel_rfl) (by kernel_rfl) (by kernel_rfl)
 show (match NC.prim 66 with | some p=>some p | none=>P 66)=none
 rw [hP];kernel_rfl
theorem r_open {H:Heap} {lo b o:Nat} {s:Nm}:R PT (.call lo 66 [.ptr b o,.str s] H)=some (.ofVal (.fn 93 [] [.ptr H.n 0,.ptr (H.n+1) 0]) ((H.push (.cells [.ptr b o] 110)).push (.cells [.str s] 9))):=by
 obtain ⟨v,H2,h1,rfl,rfl⟩:=R_of_body (C:=PT) (f:=66) (lo:=lo) (args:=[.ptr b o,.str s]) (H:=H) (fn:=Tryz.f66) (Q:=fun w H2=>w=.fn 93 [] [.ptr H.n 0,.ptr (H.n+1) 0]∧H2=(H.push (.cells [.ptr b o] 110)).push (.cells [.str s] 9)) (by kernel_rfl) Tryz.func66 rfl rfl (by
  simp (config:={ maxDischargeDepth:=12 }) only [go_sem,reduceIte,reduceEqDiff,reduceAdd,reduceMul,reduceSub,reduceLeDiff,reduceLT,Nat.reduceBEq,reduceCtorEq])
 exact h1
theorem e_open {H:Heap} {lo b o:Nat} {s:Nm} {K:AV→Heap→Prop}:VO (aenter PT (R PT) lo 66 [.ptr b o,.str s] H) K=K (.fn 93 [] [.ptr H.n 0,.ptr (H.n+1) 0]) ((H.push (.cells [.ptr b o] 110)).push (.cells [.str s] 9)):=enter_n (en66 rfl) r_open
theorem open_run {lo y c1 c2 base b o:Nat} {H0 H:Heap} {r:Reg} {V:RegV} {s:Nm} (h:RegIs H0 b o r V) (hlo:lo≤base) (hbase:H0.n≤base) (J:Nat→Heap→Prop) (E:Heap→Prop)
 (hJ0:J 0 H) (hb0:base≤H.n) (hJo:∀ k H,J k H→Old H0.n H0 H) (hJ1:∀ k H,J k H→H.get c1=.cells [.ptr b o] 110) (hJ2:∀ k H,J k H→H.get c2=.cells [.str s] 9) (hc1:c1 < base) (hc2:c2 < base)
 (hJp:∀ k H b,J k H→base≤H.n→J k (H.push b)) (hJs:∀ k H b j,J k H→base≤j→J k (H.set j b))
 (hJn:∀ k p H,r.poss[k]? = some p→openB s p=false→J k H→J (k+1) H)
 (hy:∀ k p H,r.poss[k]? = some p→openB s p=true→J k H→base≤H.n → ∃ v H',R PT (.yield lo y [.agg p.row] H)=some (.ofVal (.bool v) H')∧(if v then J (k+1) H' else E H')∧H.n≤H'.n ∧ ∀ j,base≤j→j < H.n→H'.get j=H.get j) :
 ∃ v H',R PT (.call lo 93 [.yld y,.ptr c1 0,.ptr c2 0] H)=some (.ofVal v H')∧(J r.poss.length H'∨E H'):=by
 refine R_of_body (C:=PT) (fn:=Tryz.f93) (Q:=fun _ H'=>J r.poss.length H'∨E H') (by kernel_rfl) Tryz.func93 rfl rfl ?_
 have hc:=hJ1 0 H hJ0
 have l4:=fun H'=>h.l4 (H':=H')
 have hO:=hJo 0 H hJ0
 have hlenP:=fun H'=>h.sP.len (t:=101) (by kernel_rfl) H'
 simp only [List.length_map] at hlenP
 simp (config:={ maxDischargeDepth:=12 }) only [go_sem,reduceIte,reduceEqDiff,reduceAdd,reduceMul,reduceSub,reduceLeDiff,reduceLT,Nat.reduceBEq,reduceCtorEq,hc,l4,hO,hlenP]
 refine W_for (fun k T' H' M'=>M'=[]∧getT T' 0=.yld y∧getT T' 2=.ptr c2 0∧getT T' 9=V.vP∧getT T' 10=i64 (r.poss.length:Nat)∧getT T' 11=i64 k∧J k H'∧base≤H'.n) r.poss.length ?_ ?_ ?_
 · simp (config:={ maxDischargeDepth:=12 }) only [go_sem,reduceIte,reduceEqDiff,reduceAdd,reduceMul,reduceSub,reduceLeDiff,reduceLT,Nat.reduceBEq,reduceCtorEq];exact ⟨hJ0,hb0⟩
 · rintro k T' H' M' hk ⟨rfl,g0,g2,g9,g10,g11,hJ,hb⟩
   obtain ⟨p,hp⟩:∃ p,r.poss[k]? = some p:=⟨r.poss[k],by simp⟩
   have hw:=wrap_succ hk h.lP
   have hO:=hJo k H' hJ
   have hlo':lo≤H'.n:=Nat.le_trans hlo hb
   have hi:=h.sP.idx (t:=101) (by kernel_rfl) (by kernel_rfl) (rows_Len (by intro x;rfl) _) (by rw [List.length_map];exact hk) .i64
   have hd:=h.sP.ld (by kernel_rfl) (by kernel_rfl) (rows_Len (by intro x;rfl) _) (map_at hp) hO
   have hs2:=hJ2 k H' hJ
   have hne:(c2=H'.n)=False:=eq_false (by omega)
   obtain ⟨z,hz⟩:∃ z,zeroOf NC.P 141=some z:=⟨_,ze_141⟩
   have hJ':=hJs _ _ (.cells p.row 141) H'.n (hJp _ _ (.cells z.cells 141) hJ hb) hb
   by_cases ho:openB s p=true
   · obtain ⟨v,H2,hr,h1,h2,h3⟩:=hy k p ((H'.push (.cells z.cells 141)).set H'.n (.cells p.row 141)) hp ho hJ' (by simp only [Heap.n_set,Heap.n_push];omega)
     have h4:=h3 H'.n hb (by simp)
     rw [Heap.get_set,if_pos rfl] at h4
     rw [ze_141] at hz
     cases hz
     obtain ⟨nm,tr,fa,fb,re,pr,op,cl,pe,sp⟩:=p
     have ho2:tr=s∧re=false:=by simpa [openB] using ho
     obtain ⟨ht,hre⟩:=ho2
     subst hre
     subst ht
     simp only [Pos.Pos.row] at hd h4 hr
     simp only [AV.cells] at hr
     simp only [Heap.n_set,Heap.n_push] at h2
     cases v with
     | true =>
       simp (config:={ maxDischargeDepth:=12 }) only [go_sem,reduceIte,reduceEqDiff,reduceAdd,reduceMul,reduceSub,reduceLeDiff,reduceLT,Nat.reduceBEq,reduceCtorEq,g0,g2,g9,g10,g11,hk,hw,hi,hd,hs2,hne,hlo',beqL_dec,op_callY (l:=y),hr,ofVal_v,ofVal_H,h4]
       exact ⟨h1,by omega⟩
     | false =>
       simp (config:={ maxDischargeDepth:=12 }) only [go_sem,reduceIte,reduceEqDiff,reduceAdd,reduceMul,reduceSub,reduceLeDiff,reduceLT,Nat.reduceBEq,reduceCtorEq,g0,g2,g9,g10,g11,hk,hw,hi,hd,hs2,hne,hlo',beqL_dec,op_callY (l:=y),hr,ofVal_v,ofVal_H,h4]
       exact .inr h1
   · have ho:openB s p=false:=by simpa using ho
     have hJn':=hJn k p _ hp ho hJ'
     rw [ze_141] at hz
     cases hz
     obtain ⟨nm,tr,fa,fb,re,pr,op,cl,pe,sp⟩:=p
     simp only [Pos.Pos.row] at hd hJn'
     simp only [AV.cells] at hJn'
     by_cases c1:tr=s
     · have hre:re=true:=by
        unfold openB at ho
        simpa [c1] using ho
       subst hre
       simp (config:={ maxDischargeDepth:=12 }) only [go_sem,reduceIte,reduceEqDiff,reduceAdd,reduceMul,reduceSub,reduceLeDiff,reduceLT,Nat.reduceBEq,reduceCtorEq,g0,g2,g9,g10,g11,hk,hw,hi,hd,hs2,hne,hlo',beqL_dec,c1]
       exact ⟨by simpa only [c1] using hJn',by omega⟩
     · simp (config:={ maxDischargeDepth:=12 }) only [go_sem,reduceIte,reduceEqDiff,reduceAdd,reduceMul,reduceSub,reduceLeDiff,reduceLT,Nat.reduceBEq,reduceCtorEq,g0,g2,g9,g10,g11,hk,hw,hi,hd,hs2,hne,hlo',beqL_dec,c1]
       exact ⟨hJn',by omega⟩
 · rintro T' H' M' ⟨rfl,g0,g2,g9,g10,g11,hJ,hb⟩
   simp (config:={ maxDischargeDepth:=12 }) only [go_sem,reduceIte,reduceEqDiff,reduceAdd,reduceMul,reduceSub,reduceLeDiff,reduceLT,Nat.reduceBEq,reduceCtorEq,g0,g2,g9,g10,g11,Nat.lt_irrefl]
   exact .inl hJ
theorem W_open {lo:Nat} {fid:FuncId} {g:Operand} {params:Array Tmp} {pa:Tmp} (hpar:params.toList=[pa]) {assign body:Code} {T:TT AV} {H0 H:Heap} {M:List Nat} {Q:AExit→TT AV→Heap→List Nat→Prop} {b o c1 c2:Nat} {r:Reg} {V:RegV} {s:Nm} (h:RegIs H0 b o r V) (hO:Old H0.n H0 H)
 (hlo:lo≤H.n) (hg:evalO PT T g=some (.fn 93 [] [.ptr c1 0,.ptr c2 0])) (h1:H.get c1=.cells [.ptr b o] 110) (h2:H.get c2=.cells [.str s] 9) (hc1:c1 < H.n) (hc2:c2 < H.n) (st:Pos→Bool) (E:AExit→Heap→Prop)
 (round:∀ p Hk m,p ∈ r.poss→openB s p=true→Hk.n=m+(H.n+2)→(∀ i,i < H.n→Hk.get i=H.get i) →
   W PT lo fid true assign (setT T pa (.agg p.row)) Hk [] fun e T1 H1 M1=>e=.nrm∧(∀ j,H.n≤j→j < Hk.n→H1.get j=Hk.get j) ∧
     ∀ rr,W PT lo fid true body T1 (H1.set (H.n+1) rr) M1 fun e T3 H3 _=>H3.get (H.n+1)=rr∧Hk.n≤H3.n∧(∀ j,H.n≤j→j < Hk.n→j ≠ H.n+1→H3.get j=Hk.get j) ∧
       next e (st p=false ∧ ∀ i,i < H.n→H3.get i=H.get i) (st p=true∧E e H3))
 (fin:∀ H4,(∀ i,i < H.n→H4.get i=H.get i)→(∀ p ∈ r.poss,openB s p=true→st p=false)→H4.get H.n=.defr→H.n+2≤H4.n→Q .nrm T H4 (H.n::M))
 (stop:∀ e H3 H4,e ≠ .nrm→E e H3→(∃ p ∈ r.poss,openB s p=true∧st p=true)→(∀ i,i ≠ H.n+1→H4.get i=H3.get i)→H3.get H.n=.defr→Q e T H4 (H.n::M)) :
 W PT lo fid false (.rangeFunc g params assign body) T H M Q:=by
 refine W_rangeFunc hg ?_
 let r0:ALoop:=⟨fid,T,params.toList,assign,body,.ready,none,H.n⟩
 let J:Nat→Heap→Prop:=fun k H'=>((∀ i,i < H.n→H'.get i=H.get i) ∧ ∀ j p,j < k→r.poss[j]? = some p→openB s p=true→st p=false)∧H'.get H.n=.defr∧H'.get (H.n+1)=.loop r0∧H.n+2≤H'.n
 let EE:Heap→Prop:=fun H'=>(∃ p ∈ r.poss,openB s p=true∧st p=true) ∧ ∃ e H3,e ≠ .nrm∧E e H3∧H3.get H.n=.defr∧H'=H3.set (H.n+1) (.loop { r0 with state:=.done,pending:=some e })
 have hrun:∃ v H',R PT (.call lo 93 [.yld (H.n+1),.ptr c1 0,.ptr c2 0] ((H.push .defr).push (.loop r0)))=some (.ofVal v H')∧(J r.poss.length H'∨EE H'):=by
  refine open_run (s:=s) (lo:=lo) (y:=H.n+1) (c1:=c1) (c2:=c2) (base:=H.n+2) (H:=(H.push .defr).push (.loop r0)) h (by omega) (by have:=hO.1;omega) J EE ?_ ?_ ?_ ?_ ?_ (by omega) (by omega) ?_ ?_ ?_ ?_
  · refine ⟨⟨fun i hi => ?_,fun j p hj=>by omega⟩, ?_, ?_,by simp⟩
    · rw [Heap.get_push,if_neg (by simp;omega),Heap.get_push,if_neg (by omega)]
    · rw [Heap.get_push,if_neg (by simp),Heap.get_push,if_pos rfl]
    · rw [Heap.get_push,if_pos (by simp)]
  · simp
  · rintro k H' ⟨⟨j1,_⟩,_,_,j4⟩
    exact ⟨by have:=hO.1;omega,fun i hi=>by rw [j1 i (Nat.lt_of_lt_of_le hi hO.1),hO.2 i hi]⟩
  · rintro k H' ⟨⟨j1,_⟩,_⟩
    rw [j1 c1 hc1];exact h1
  · rintro k H' ⟨⟨j1,_⟩,_⟩
    rw [j1 c2 hc2];exact h2
  · rintro k H' x ⟨⟨j1,hg1⟩,j2,j3,j4⟩ _
    exact ⟨⟨fun i hi=>by rw [Heap.get_push,if_neg (by omega)];exact j1 i hi,hg1⟩,by rw [Heap.get_push,if_neg (by omega)];exact j2,by rw [Heap.get_push,if_neg (by omega)];exact j3,by simp;omega⟩
  · rintro k H' x j ⟨⟨j1,hg1⟩,j2,j3,j4⟩ hj
    exact ⟨⟨fun i hi=>by rw [Heap.get_set,if_neg (by omega)];exact j1 i hi,hg1⟩,by rw [Heap.get_set,if_neg (by omega)];exact j2,by rw [Heap.get_set,if_neg (by omega)];exact j3,by simp;omega⟩
  · rintro k p H' hp ho ⟨⟨j1,hg1⟩,j2⟩
    refine ⟨⟨j1,fun j q hj hq hoq => ?_⟩,j2⟩
    by_cases hjk:j=k
    · subst hjk
      rw [hp] at hq;cases hq
      rw [ho] at hoq;cases hoq
    · exact hg1 j q (by omega) hq hoq
  · rintro k p Hk hp ho ⟨⟨j1,hg1⟩,j2,j3,j4⟩ _
    have hmem:=List.mem_of_getElem? hp
    have hrd:=round p Hk (Hk.n - (H.n+2)) hmem ho (by omega) j1
    have hW:W PT lo fid true assign (setParams params.toList [.agg p.row] T) Hk [] fun e T1 H1 M1=>e=.nrm∧H1.get (H.n+1)=.loop r0 ∧
     W PT lo fid true body T1 (H1.set (H.n+1) (.loop { r0 with state:=.busy })) M1 fun e T2 H2 M2=>H2.get (H.n+1)=.loop { r0 with state:=.busy } ∧
       next e (((if true then J (k+1) (H2.set (H.n+1) (.loop { r0 with state:=.ready,pending:=none })) else EE (H2.set (H.n+1) (.loop { r0 with state:=.ready,pending:=none })))∧Hk.n≤(H2.set (H.n+1) (.loop { r0 with state:=.ready,pending:=none })).n ∧ ∀ j,H.n+2≤j→j < Hk.n→(H2.set (H.n+1) (.loop { r0 with state:=.ready,pending:=none })).get j=Hk.get j))
        (((if false=true then J (k+1) (H2.set (H.n+1) (.loop { r0 with state:=.done,pending:=some e })) else EE (H2.set (H.n+1) (.loop { r0 with state:=.done,pending:=some e })))∧Hk.n≤(H2.set (H.n+1) (.loop { r0 with state:=.done,pending:=some e })).n ∧ ∀ j,H.n+2≤j→j < Hk.n→(H2.set (H.n+1) (.loop { r0 with state:=.done,pending:=some e })).get j=Hk.get j)):=by
     rw [hpar]
     refine W_mono hrd fun e T1 H1 M1 ⟨he,hk1,hb⟩=>⟨he, ?_,W_mono (hb _) fun e T3 H3 M3 ⟨q1,q2,q3,q4⟩=>⟨q1, ?_⟩⟩
     · rw [hk1 _ (by omega) (by omega)];exact j3
     · have hd:H3.get H.n=.defr:=by rw [q3 _ (Nat.le_refl _) (by omega) (by omega)];exact j2
       have keep:∀ x j,H.n+2≤j→j < Hk.n→(H3.set (H.n+1) x).get j=Hk.get j:=fun x j hj hj2=>by
        rw [Heap.get_set,if_neg (by omega)];exact q3 j (by omega) hj2 (by omega)
       cases e with
       | nrm =>
         refine ⟨⟨⟨fun i hi => ?_,fun j q hj hq hoq => ?_⟩, ?_, ?_,by simp;omega⟩,by simpa using q2,keep _⟩
         · rw [Heap.get_set,if_neg (by omega)];exact q4.2 i hi
         · by_cases hjk:j=k
           · subst hjk
             rw [hp] at hq;cases hq
             exact q4.1
           · exact hg1 j q (by omega) hq hoq
         · rw [Heap.get_set,if_neg (by omega)];exact hd
         · rw [Heap.get_set,if_pos rfl]
       | ext i=>exact ⟨⟨⟨p,hmem,ho,q4.1⟩,_,_,by simp,q4.2,hd,rfl⟩,by simpa using q2,keep _⟩
       | gto i=>exact ⟨⟨⟨p,hmem,ho,q4.1⟩,_,_,by simp,q4.2,hd,rfl⟩,by simpa using q2,keep _⟩
       | ret=>exact ⟨⟨⟨p,hmem,ho,q4.1⟩,_,_,by simp,q4.2,hd,rfl⟩,by simpa using q2,keep _⟩
    obtain ⟨v,H',e1,e2,e3,e4⟩:=R_yield (C:=PT) (r0:=r0) j3 rfl (by show params.toList.length=1;rw [hpar];rfl) (by omega:lo≤H.n+1) (Y:=fun v H'=>(if v then J (k+1) H' else EE H')∧Hk.n≤H'.n ∧ ∀ j,H.n+2≤j→j < Hk.n→H'.get j=Hk.get j) hW
    exact ⟨v,H',e1,e2,e3,e4⟩
 obtain ⟨v,H',hr,hJ⟩:=hrun
 refine ⟨v,H',hr, ?_⟩
 rcases hJ with ⟨⟨j1,hg1⟩,j2,j3,j4⟩ | ⟨hst,e,H3,he,j1,j2,rfl⟩
 · refine ⟨r0,j3,by simp [r0], ?_⟩
   refine fin _ (fun i hi=>by rw [Heap.get_set,if_neg (by omega)];exact j1 i hi) (fun p hp ho => ?_) (by rw [Heap.get_set,if_neg (by omega)];exact j2) (by simp;omega)
   obtain ⟨j,hj⟩:=List.mem_iff_getElem?.1 hp
   exact hg1 j p (List.getElem?_eq_some_iff.1 hj).1 hj ho
 · refine ⟨_,by rw [Heap.get_set,if_pos rfl],by simp, ?_⟩
   exact stop e H3 _ he j1 hst (fun i hi=>by rw [Heap.get_set,if_neg hi,Heap.get_set,if_neg hi]) j2
end Go.Sim

namespace Go.Sim
open Go Go.Proofs
open Go.Sim.Pos (Nm Trk Flt Trn Pos Mch Reg Ev Len flat_len flat_take flat_drop flat_at)
set_option maxRecDepth 100000
set_option maxHeartbeats 8000000
theorem en42 {P:FuncId→Option (List AV→Option AV)} (hP:P 42=none) {lo:Nat} {args:List AV} {H:Heap} {K:AV→Heap→Prop}:VO (aenter (NC.withPrims P) (R (NC.withPrims P)) lo 42 args H) K=AO (R (NC.withPrims P) (.call H.n 42 args H)) fun o=>o.val.strip.pure=true∧K o.val.strip H:=by
 refine enter_pure rfl ?_ (by kernel_rfl) (by kernel_rfl) (by kernel_rfl)
 show (match NC.prim 42 with | some p=>some p | none=>P 42)=none
 rw [hP];kernel_rfl
theorem en144 {P:FuncId→Option (List AV→Option AV)} (hP:P 144=none) {lo:Nat} {args:List AV} {H:Heap} {K:AV→Heap→Prop}:VO (aenter (NC.withPrims P) (R (NC.withPrims P)) lo 144 args H) K=AO (R (NC.withPrims P) (.call H.n 144 args H)) fun o=>o.val.strip.pure=true∧K o.val.strip H:=by
 refine enter_pure rfl ?_ (by kernel_rfl) (by kernel_rfl) (by kernel_rfl)
 show (match NC.prim 144 with | some p=>some p | none=>P 144)=none
 rw [hP];kernel_rfl
theorem r_taken {H:Heap} {b o:Nat} {r:Reg} {V:RegV} (h:RegIs H b o r V) (s:Nm):∃ w H2,R PT (.call H.n 42 [.ptr b o,.str s] H)=some (.ofVal w H2)∧w=.bool (r.taken s):=by
 refine R_of_body (C:=PT) (f:=42) (lo:=H.n) (args:=[.ptr b o,.str s]) (H:=H) (fn:=Tryz.f42) (Q:=fun w _=>w=.bool (r.taken s)) (by kernel_rfl) Tryz.func42 rfl rfl ?_
 simp (config:={ maxDischargeDepth:=12 }) only [go_sem,reduceIte,reduceEqDiff,reduceAdd,reduceMul,reduceSub,reduceLeDiff,reduceLT,Nat.reduceBEq,reduceCtorEq,e_open]
 have hO:Old H.n H (((H.push (.cells [.bool false] 4)).push (.cells [.ptr b o] 110)).push (.cells [.str s] 9)):=(((Old.refl H).push _).push _).push _
 have hs:r.taken s=r.poss.any (openB s):=rfl
 generalize hK:((H.push (.cells [.bool false] 4)).push (.cells [.ptr b o] 110)).push (.cells [.str s] 9)=Hk at *
 have g0:Hk.get H.n=.cells [.bool false] 4:=by rw [← hK,Heap.get_push,if_neg (by simp only [Heap.n_push];omega),get_pp0]
 have g1:Hk.get (H.n+1)=.cells [.ptr b o] 110:=by rw [← hK,Heap.get_push,if_neg (by simp only [Heap.n_push];omega),get_pp1]
 have g2:Hk.get (H.n+1+1)=.cells [.str s] 9:=by rw [← hK];exact get_p
 have hn:Hk.n=H.n+3:=by rw [← hK];rfl
 refine W_open (pa:=8) rfl h hO hO.1 (by simp (config:={ maxDischargeDepth:=12 }) only [go_sem,reduceIte,reduceEqDiff,reduceAdd,reduceMul,reduceSub,reduceLeDiff,reduceLT,Nat.reduceBEq,reduceCtorEq]) g1 g2 (by omega) (by omega) (fun _=>true) (fun e H3=>e=.ret∧H3.get H.n=.cells [.bool true] 4) ?_ ?_ ?_
 · intro p Hq m hp ho hm hg
   have q0:=hg H.n (by omega)
   rw [g0] at q0
   have hlt:(H.n=Hk.n+1)=False:=eq_false (by omega)
   have hlt2:(Hk.n+1=H.n)=False:=eq_false (by omega)
   simp (config:={ maxDischargeDepth:=12 }) only [go_sem,reduceIte,reduceEqDiff,reduceAdd,reduceMul,reduceSub,reduceLeDiff,reduceLT,Nat.reduceBEq,reduceCtorEq,q0,hlt,hlt2]
   refine ⟨fun _ _ _=>trivial,fun rr j h1 h2 h3 => ?_⟩
   rw [if_neg (by omega),if_neg h3]
 · intro H4 hg hst hd hn4
   have q0:=hg H.n (by omega)
   rw [g0] at q0
   have hne:(Hk.n=H.n)=False:=eq_false (by omega)
   have hne2:(H.n=Hk.n)=False:=eq_false (by omega)
   have hf:r.poss.any (openB s)=false:=by
    rw [List.any_eq_false]
    intro p hp hop
    have:=hst p hp hop
    cases this
   simp (config:={ maxDischargeDepth:=12 }) only [go_sem,reduceIte,reduceEqDiff,reduceAdd,reduceMul,reduceSub,reduceLeDiff,reduceLT,Nat.reduceBEq,reduceCtorEq,q0,shutMarks_cons,hd,hne,hne2,hs,hf]
 · rintro e H3 H4 he ⟨rfl,h3⟩⟨p,hp,hop,_⟩ hg hd
   have q0:=hg H.n (by omega)
   rw [h3] at q0
   have qd:=hg Hk.n (by omega)
   rw [hd] at qd
   have hne2:(H.n=Hk.n)=False:=eq_false (by omega)
   have hf:r.poss.any (openB s)=true:=by
    rw [List.any_eq_true]
    exact ⟨p,hp,hop⟩
   simp (config:={ maxDischargeDepth:=12 }) only [go_sem,reduceIte,reduceEqDiff,reduceAdd,reduceMul,reduceSub,reduceLeDiff,reduceLT,Nat.reduceBEq,reduceCtorEq,q0,shutMarks_cons,qd,hne2,hs,hf]
theorem e_taken {H : Heap} {b o : Nat} {r : Reg} {V : RegV} (h : RegIs H b o r V) (s : Nm) {Hc : Heap} (ho : Old H.n H Hc) {lo : Nat} {K : AV → Heap → Prop} : VO (aenter PT (R PT) lo 42 [.ptr b o, .str s] Hc) K = K (.bool (r.taken s)) Hc := by
 obtain ⟨w, H2, h1, h2⟩ := r_taken (h.old ho) s
 exact enter_p (en42 rfl) ⟨H2, h1⟩ (by rw [h2]; rfl) rfl
def scp (Q:AExit→TT AV→Heap→List Nat→Prop) (e:AExit) (T:TT AV) (H:Heap) (M:List Nat) (_t:Tag Q:=⟨⟩):Prop:=match e with
 | .gto _=>False
 | e=>Q e T H M
section
variable {C:Cfg} {lo:Nat} {fid:FuncId} {rnd:Bool} {T:TT AV} {H:Heap} {M:List Nat} {Q:AExit→TT AV→Heap→List Nat→Prop}
theorem scp_nrm:scp Q .nrm T H M=Q .nrm T H M:=rfl
theorem scp_ret:scp Q .ret T H M=Q .ret T H M:=rfl
theorem scp_ext (i:Nat):scp Q (.ext i) T H M=Q (.ext i) T H M:=rfl
theorem W_scope (b:Code):W C lo fid rnd (.scope b) T H M Q=W C lo fid rnd b T H M fun e T H M=>scp Q e T H M:=by
 unfold W
 rw [R_scope]
 cases h:R C (.code lo fid rnd b ⟨T,H,M⟩) with
 | none=>rfl
 | some o =>
   obtain ⟨e,s⟩:=o
   cases e<;>rfl
end
attribute [go_sem ↓] scp_nrm scp_ret scp_ext W_scope W_label
theorem eqt_span:eqType NC.P 100 35=true:=by kernel_rfl
theorem aeq_span (a b c d:Int):aeqT NC.P 100 35 (.agg [.int .i64 a,.int .i64 b]) (.agg [.int .i64 c,.int .i64 d])=some (decide (a=c) && decide (b=d)):=by
 have h2:aeqT NC.P 100 35 (.agg [.int .i64 a,.int .i64 b]) (.agg [.int .i64 c,.int .i64 d])=match eqI a c with
  | true=>(match eqI b d with
    | true=>some true
    | false=>some false)
  | false=>some false:=by kernel_rfl
 rw [h2,eqI_iff,eqI_iff]
 by_cases c1:a=c<;>by_cases c2:b=d<;>simp [c1,c2]
def ovP (p:Pos) (a b:Int):Bool:=decide (p.frm=a) && decide (p.to=b) || decide (maxI p.frm a < minI p.to b)
def ovR (r:Reg) (t:Nm) (a b:Int):Bool:=r.poss.any fun p=>openB t p && ovP p a b
theorem r_overlaps {H:Heap} {b o:Nat} {r:Reg} {V:RegV} (h:RegIs H b o r V) (s:Nm) (x y:Int):∃ w H2,R PT (.call H.n 144 [.ptr b o,.str s,.agg [.int .i64 x,.int .i64 y]] H)=some (.ofVal w H2)∧w=.bool (ovR r s x y):=by
 refine R_of_body (C:=PT) (f:=144) (lo:=H.n) (args:=[.ptr b o,.str s,.agg [.int .i64 x,.int .i64 y]]) (H:=H) (fn:=Tryz.f144) (Q:=fun w _=>w=.bool (ovR r s x y)) (by kernel_rfl) Tryz.func144 rfl rfl ?_
 simp (config:={ maxDischargeDepth:=12 }) only [go_sem,reduceIte,reduceEqDiff,reduceAdd,reduceMul,reduceSub,reduceLeDiff,reduceLT,Nat.reduceBEq,reduceCtorEq,e_open]
 have hO:Old H.n H (((((H.push (.cells [.int .i64 x,.int .i64 y] 35)).push (.cells [.bool false] 4)).set (H.n+1) (.cells [.bool false] 4)).push (.cells [.ptr b o] 110)).push (.cells [.str s] 9)):=(((((Old.refl H).push _).push _).set (by omega) _).push _).push _
 generalize hK:((((H.push (.cells [.int .i64 x,.int .i64 y] 35)).push (.cells [.bool false] 4)).set (H.n+1) (.cells [.bool false] 4)).push (.cells [.ptr b o] 110)).push (.cells [.str s] 9)=Hk at *
 have g0:Hk.get H.n=.cells [.int .i64 x,.int .i64 y] 35:=by rw [← hK];simp (config:={ maxDischargeDepth:=12 }) only [go_sem,reduceIte,reduceEqDiff,reduceAdd,reduceMul,reduceSub,reduceLeDiff,reduceLT,Nat.reduceBEq,reduceCtorEq]
 have g1:Hk.get (H.n+1)=.cells [.bool false] 4:=by rw [← hK];simp (config:={ maxDischargeDepth:=12 }) only [go_sem,reduceIte,reduceEqDiff,reduceAdd,reduceMul,reduceSub,reduceLeDiff,reduceLT,Nat.reduceBEq,reduceCtorEq]
 have g2:Hk.get (H.n+1+1)=.cells [.ptr b o] 110:=by rw [← hK];simp (config:={ maxDischargeDepth:=12 }) only [go_sem,reduceIte,reduceEqDiff,reduceAdd,reduceMul,reduceSub,reduceLeDiff,reduceLT,Nat.reduceBEq,reduceCtorEq]
 have g3:Hk.get (H.n+1+1+1)=.cells [.str s] 9:=by rw [← hK];simp (config:={ maxDischargeDepth:=12 }) only [go_sem,reduceIte,reduceEqDiff,reduceAdd,reduceMul,reduceSub,reduceLeDiff,reduceLT,Nat.reduceBEq,reduceCtorEq]
 have hn:Hk.n=H.n+4:=by rw [← hK];rfl
 refine W_open (pa:=12) (c1:=H.n+1+1) (c2:=H.n+1+1+1) rfl h hO hO.1 (by simp (config:={ maxDischargeDepth:=12 }) only [go_sem,reduceIte,reduceEqDiff,reduceAdd,reduceMul,reduceSub,reduceLeDiff,reduceLT,Nat.reduceBEq,reduceCtorEq]) g2 g3 (by omega) (by omega) (fun p=>ovP p x y) (fun e H3=>e=.ext 0∧H3.get (H.n+1)=.cells [.bool true] 4) ?_ ?_ ?_
 · intro p Hq m hp ho hm hg
   have q0:=hg H.n (by omega)
   rw [g0] at q0
   have q1:=hg (H.n+1) (by omega)
   rw [g1] at q1
   have e0:(H.n=Hk.n+1)=False:=eq_false (by omega)
   have e1:(H.n+1=Hk.n+1)=False:=eq_false (by omega)
   have e2:(H.n=Hq.n)=False:=eq_false (by omega)
   have e3:(H.n+1=Hq.n)=False:=eq_false (by omega)
   have e4:(Hk.n+1=Hq.n)=False:=eq_false (by omega)
   have e5:(Hq.n=Hk.n+1)=False:=eq_false (by omega)
   have e6:(Hk.n+1=H.n+1)=False:=eq_false (by omega)
   have e7:(Hq.n=H.n+1)=False:=eq_false (by omega)
   have hle:(H.n≤Hq.n)=True:=eq_true (by omega)
   have hov:ovP p x y=(decide (p.frm=x) && decide (p.to=y) || decide (maxI p.frm x < minI p.to y)):=rfl
   obtain ⟨nm,tr,fa,fb,re,pr,op,cl,pe,sp⟩:=p
   simp only at hov
   rcases Classical.propComplete (fa=x) with c1 | c1<;>rcases Classical.propComplete (fb=y) with c2 | c2<;>rcases Classical.propComplete (maxI fa x < minI fb y) with c3 | c3
   all_goals
    simp only [c1,c2,c3,decide_true,decide_false,Bool.and_true,Bool.and_false,Bool.or_true,Bool.or_false,Bool.true_or,Bool.false_or,Bool.true_and,Bool.false_and] at hov
    simp (config:={ maxDischargeDepth:=12 }) only [go_sem,reduceIte,reduceEqDiff,reduceAdd,reduceMul,reduceSub,reduceLeDiff,reduceLT,Nat.reduceBEq,reduceCtorEq,Pos.Pos.row,q0,q1,e0,e1,e2,e3,e4,e5,e6,e7,hle,eqt_span,aeq_span,c1,c2,c3,hov]
    refine ⟨fun j h1 h2=>by rw [if_neg (by omega),if_neg (by omega)],fun rr => ?_⟩
    first
    | exact fun j h1 h2 h3=>by rw [if_neg (by omega),if_neg h3,if_neg (by omega),if_neg (by omega)]
    | exact ⟨fun j h1 h2 h3=>by rw [if_neg h3,if_neg (by omega),if_neg (by omega)],fun i hi=>by rw [if_neg (by omega),if_neg (by omega),if_neg (by omega)];exact hg i hi⟩
 · intro H4 hg hst hd hn4
   have q1:=hg (H.n+1) (by omega)
   rw [g1] at q1
   have hne:(Hk.n=H.n+1)=False:=eq_false (by omega)
   have hne2:(H.n+1=Hk.n)=False:=eq_false (by omega)
   have hf:ovR r s x y=false:=by
    unfold ovR
    rw [List.any_eq_false]
    intro p hp hop
    rw [Bool.and_eq_true] at hop
    have:=hst p hp hop.1
    rw [hop.2] at this
    cases this
   simp (config:={ maxDischargeDepth:=12 }) only [go_sem,reduceIte,reduceEqDiff,reduceAdd,reduceMul,reduceSub,reduceLeDiff,reduceLT,Nat.reduceBEq,reduceCtorEq,q1,shutMarks_cons,hd,hne,hne2,hf]
 · rintro e H3 H4 he ⟨rfl,h3⟩⟨p,hp,hop,hov⟩ hg hd
   have q1:=hg (H.n+1) (by omega)
   rw [h3] at q1
   have qd:=hg Hk.n (by omega)
   rw [hd] at qd
   have hne2:(H.n+1=Hk.n)=False:=eq_false (by omega)
   have hf:ovR r s x y=true:=by
    unfold ovR
    rw [List.any_eq_true]
    exact ⟨p,hp,by rw [hop,hov];rfl⟩
   simp (config:={ maxDischargeDepth:=12 }) only [go_sem,reduceIte,reduceEqDiff,reduceAdd,reduceMul,reduceSub,reduceLeDiff,reduceLT,Nat.reduceBEq,reduceCtorEq,q1,shutMarks_cons,qd,hne2,hf]
theorem e_overlaps {H : Heap} {b o : Nat} {r : Reg} {V : RegV} (h : RegIs H b o r V) (s : Nm) (x y : Int) {Hc : Heap} (ho : Old H.n H Hc) {lo : Nat} {K : AV → Heap → Prop} : VO (aenter PT (R PT) lo 144 [.ptr b o, .str s, .agg [.int .i64 x, .int .i64 y]] Hc) K = K (.bool (ovR r s x y)) Hc := by
 obtain ⟨w, H2, h1, h2⟩ := r_overlaps (h.old ho) s x y
 exact enter_p (en144 rfl) ⟨H2, h1⟩ (by rw [h2]; rfl) rfl
def knownG (r:Reg):List Nat→List Nm→Bool→Int
 | [],_,tw=>whenI tw 9
 | c::cs,x::xs,tw=>if (!decide (c < 97) && !decide (x ∈ namesR r ((if c < 97 then c+32 else c:Nat):Int)))=true then 10 else knownG r cs xs (tw || (decide (c < 97) && decide (x ∈ namesR r ((if c < 97 then c+32 else c:Nat):Int))))
 | _::_,[],_=>0
theorem knownG_cons (r:Reg) (c:Nat) (cs:List Nat) (x:Nm) (xs:List Nm) (tw:Bool):knownG r (c::cs) (x::xs) tw=if (!decide (c < 97) && !decide (x ∈ namesR r ((if c < 97 then c+32 else c:Nat):Int)))=true then 10 else knownG r cs xs (tw || (decide (c < 97) && decide (x ∈ namesR r ((if c < 97 then c+32 else c:Nat):Int)))):=rfl
theorem names_len {r:Reg} (c:Int) (h1:r.tracks.length≤maxRows) (h2:r.faults.length≤maxRows) (h3:r.trains.length≤maxRows) (h4:r.poss.length≤maxRows) (h5:r.machs.length≤maxRows):(namesR r c).length≤maxRows:=by
 unfold namesR
 split
 · rw [List.length_map];exact h1
 split
 · rw [List.length_map];exact h2
 split
 · rw [List.length_map];exact h3
 split
 · rw [List.length_map];exact h4
 · rw [List.length_map];exact h5
theorem en76 {P:FuncId→Option (List AV→Option AV)} (hP:P 76=none) {lo:Nat} {args:List AV} {H:Heap} {K:AV→Heap→Prop}:VO (aenter (NC.withPrims P) (R (NC.withPrims P)) lo 76 args H) K=AO (R (NC.withPrims P) (.call H.n 76 args H)) fun o=>o.val.strip.pure=true∧K o.val.strip H:=by
 refine enter_pure rfl ?_ (by kernel_rfl) (by kernel_rfl) (by kernel_rfl)
 show (match NC.prim 76 with | some p=>some p | none=>P 76)=none
 rw [hP];kernel_rfl
theorem r_known {H:Heap} {b o:Nat} {r:Reg} {V:RegV} (h:RegIs H b o r V) {nm:List Nat} {fv:Int} {f1 f2:FuncId} {l1 l2:List AV} {e:Ev} (hb:∀ c ∈ nm,c < 128) (hl:e.names.length=nm.length) (hs:nm.length≤2) (hcl:[AV.fn f1 [] l1,AV.fn f2 [] l2].map AV.strip0=[AV.fn f1 [] l1,AV.fn f2 [] l2]):∃ w H2,R PT (.call H.n 76 [.ptr b o,.agg [.str nm,i64 fv,.fn f1 [] l1,.fn f2 [] l2],.agg e.row] H)=some (.ofVal w H2)∧w=.int .i64 (knownG r nm e.names false):=by
 obtain ⟨num,kind,names,vals,text⟩:=e
 simp only at hl
 refine R_of_body (C:=PT) (f:=76) (lo:=H.n) (args:=[.ptr b o,.agg [.str nm,i64 fv,.fn f1 [] l1,.fn f2 [] l2],.agg (Pos.Ev.row ⟨num,kind,names,vals,text⟩)]) (H:=H) (fn:=Tryz.f76) (Q:=fun w _=>w=.int .i64 (knownG r nm names false)) (by kernel_rfl) Tryz.func76 rfl rfl ?_
 simp (config:={ maxDischargeDepth:=12 }) only [go_sem,reduceIte,reduceEqDiff,reduceAdd,reduceMul,reduceSub,reduceLeDiff,reduceLT,Nat.reduceBEq,reduceCtorEq,Pos.Ev.row]
 have hmr:nm.length≤maxRows:=Nat.le_trans hs (by unfold maxRows;decide)
 refine W_for (fun k T Hc M=>M=[]∧getT T 0=.ptr b o∧getT T 4=.ptr H.n 0∧getT T 5=.ptr (H.n+1) 0∧getT T 14=i64 (nm.length:Nat)∧getT T 15=i64 k∧Old H.n H Hc∧H.n+2≤Hc.n∧Hc.get H.n=.cells [.str nm,.int .i64 fv,.fn f1 [] l1,.fn f2 [] l2] 149∧Hc.get (H.n+1)=.cells [.int .i64 num,.str kind,.ps .unk (strs names),.ps .unk (ints vals),.str text] 70 ∧ ∃ tw,getT T 7=.bool tw∧knownG r nm names false=knownG r (nm.drop k) (names.drop k) tw) nm.length ?_ ?_ ?_
 · simp (config:={ maxDischargeDepth:=12 }) only [go_sem,reduceIte,reduceEqDiff,reduceAdd,reduceMul,reduceSub,reduceLeDiff,reduceLT,Nat.reduceBEq,reduceCtorEq];exact ⟨false,rfl,rfl⟩
 · rintro k T Hc M hk ⟨rfl,g0,g4,g5,g14,g15,hO,hn,b4,b5,tw,g7,hsp⟩
   obtain ⟨c,hc⟩:∃ x,nm[k]? = some x:=⟨nm[k],by simp⟩
   obtain ⟨x,hx⟩:∃ x,names[k]? = some x:=⟨names[k]'(by omega),by simp⟩
   have hw:=wrap_succ hk hmr
   have hr:=strs_at hx
   have hkn:k < names.length:=by omega
   have hcb:=hb c (List.mem_of_getElem? hc)
   have m1:=fun (cc:Int) Hc (ho:Old H.n H Hc) lo K=>e_names h cc ho (lo:=lo) (K:=K)
   have hlen:=fun cc=>names_len (r:=r) cc h.lT h.lF h.lR h.lP h.lM
   have hbn:(b < Hc.n)=True:=eq_true (Nat.lt_of_lt_of_le h.bn hO.1)
   rw [drop_at hc,drop_at hx] at hsp
   rw [knownG_cons] at hsp
   have hwu:wrapq .u8 (Int.add (c:Int) 32)=if c < 97 then ((c+32:Nat):Int) else wrapq .u8 (Int.add (c:Int) 32):=by
    split
    · have e:Int.add (c:Int) 32=((c+32:Nat):Int):=by show (c:Int)+32=_;omega
      rw [e]
      unfold wrapq inK
      have:Nat.ble (c+32) (kmax .u8)=true:=by simp [kmax];omega
      simp only [this,cond_true]
    · rfl
   have hlt97:((c:Int) < 97)=(c < 97):=by simp only [eq_iff_iff];omega
   by_cases c1:c < 97
   · rw [if_pos c1] at hwu
     simp only [c1,if_true,decide_true,Bool.not_true,Bool.false_and,Bool.false_eq_true,if_false,Bool.true_and] at hsp
     by_cases c2:x ∈ namesR r ((c+32:Nat):Int)
     · simp only [c2,decide_true,Bool.or_true] at hsp
       cases tw
       all_goals
        simp (config:={ maxDischargeDepth:=12 }) only [go_sem,reduceIte,reduceEqDiff,reduceAdd,reduceMul,reduceSub,reduceLeDiff,reduceLT,Nat.reduceBEq,reduceCtorEq,g0,g4,g5,g7,g14,g15,hk,hc,hkn,strs_len,hr,hw,b4,b5,hO,hbn,m1,hlen,hwu,hlt97,c1,c2]
        exact ⟨hn,_,rfl,hsp⟩
     · simp only [c2,decide_false,Bool.or_false] at hsp
       cases tw
       all_goals
        simp (config:={ maxDischargeDepth:=12 }) only [go_sem,reduceIte,reduceEqDiff,reduceAdd,reduceMul,reduceSub,reduceLeDiff,reduceLT,Nat.reduceBEq,reduceCtorEq,g0,g4,g5,g7,g14,g15,hk,hc,hkn,strs_len,hr,hw,b4,b5,hO,hbn,m1,hlen,hwu,hlt97,c1,c2]
        exact ⟨hn,_,rfl,hsp⟩
   · rw [if_neg c1] at hwu
     simp only [c1,if_false,decide_false,Bool.not_false,Bool.true_and,Bool.false_and,Bool.or_false] at hsp
     by_cases c2:x ∈ namesR r (c:Int)
     · simp only [c2,decide_true,Bool.not_true,Bool.false_eq_true,if_false] at hsp
       cases tw
       all_goals
        simp (config:={ maxDischargeDepth:=12 }) only [go_sem,reduceIte,reduceEqDiff,reduceAdd,reduceMul,reduceSub,reduceLeDiff,reduceLT,Nat.reduceBEq,reduceCtorEq,g0,g4,g5,g7,g14,g15,hk,hc,hkn,strs_len,hr,hw,b4,b5,hO,hbn,m1,hlen,hlt97,c1,c2]
        exact ⟨hn,_,rfl,hsp⟩
     · simp only [c2,decide_false,Bool.not_false,if_true] at hsp
       rw [hsp]
       simp (config:={ maxDischargeDepth:=12 }) only [go_sem,reduceIte,reduceEqDiff,reduceAdd,reduceMul,reduceSub,reduceLeDiff,reduceLT,Nat.reduceBEq,reduceCtorEq,g0,g4,g5,g7,g14,g15,hk,hc,hkn,strs_len,hr,hw,b4,b5,hO,hbn,m1,hlen,hlt97,c1,c2]
 · rintro T Hc M ⟨rfl,g0,g4,g5,g14,g15,hO,hn,b4,b5,tw,g7,hsp⟩
   rw [hsp,List.drop_length]
   simp (config:={ maxDischargeDepth:=12 }) only [go_sem,reduceIte,reduceEqDiff,reduceAdd,reduceMul,reduceSub,reduceLeDiff,reduceLT,Nat.reduceBEq,reduceCtorEq,g0,g4,g5,g7,g14,g15,Nat.lt_irrefl]
   rfl
theorem natOf_2 (lim:Nat) (k:IntKind):natOf lim (.int k 2)=if 2 < lim then some 2 else none:=rfl
theorem natOf_3 (lim:Nat) (k:IntKind):natOf lim (.int k 3)=if 3 < lim then some 3 else none:=rfl
attribute [go_sem] natOf_2 natOf_3
abbrev evC (num:Int) (kind:Nm) (ns:List Nm) (vs:List Int) (text:Nm):List AV:=[.int .i64 num,.str kind,.ps .unk (strs ns),.ps .unk (ints vs),.str text]
theorem eqt_arr:eqType NC.P 100 57=true:=by kernel_rfl
theorem aeq_arr (a b c d:Int):aeqT NC.P 100 57 (.agg [.int .i64 a,.int .i64 b]) (.agg [.int .i64 c,.int .i64 d])=some (decide (a=c) && decide (b=d)):=by
 have h2:aeqT NC.P 100 57 (.agg [.int .i64 a,.int .i64 b]) (.agg [.int .i64 c,.int .i64 d])=match eqI a c with
  | true=>(match eqI b d with
    | true=>some true
    | false=>some false)
  | false=>some false:=by kernel_rfl
 rw [h2,eqI_iff,eqI_iff]
 by_cases c1:a=c<;>by_cases c2:b=d<;>simp [c1,c2]
theorem ab0:abuild NC.P 57 []=some (.agg [.int .i64 0,.int .i64 0]):=by kernel_rfl
attribute [go_sem] eqt_arr aeq_arr ab0 eqt_span aeq_span
structure At {α:Type} (nm:α→Nm) (l:List α) (s:Nm) (i:Nat) (y:α):Prop where
 idx:idxW s (l.map nm)=(i:Int)
 at':l[i]? = some y
 lt:i < l.length
 nm':nm y=s
theorem At.of {α:Type} {nm:α→Nm} {l:List α} {s:Nm} {y:α} (h:(l.find? fun z=>decide (nm z=s))=some y):∃ i,At nm l s i y:=by
 obtain ⟨i,h1,h2,h3,h4⟩:=find_len h
 exact ⟨i,h1,h2,h3,h4⟩
theorem en97 {P:FuncId→Option (List AV→Option AV)} (hP:P 97=none) {lo:Nat} {args:List AV} {H:Heap} {K:AV→Heap→Prop}:VO (aenter (NC.withPrims P) (R (NC.withPrims P)) lo 97 args H) K=AO (R (NC.withPrims P) (.call H.n 97 args H)) fun o=>o.val.strip.pure=true∧K o.val.strip H:=by
 refine enter_pure rfl ?_ (by kernel_rfl) (by kernel_rfl) (by kernel_rfl)
 show (match NC.prim 97 with | some p=>some p | none=>P 97)=none
 rw [hP];kernel_rfl
theorem en99 {P:FuncId→Option (List AV→Option AV)} (hP:P 99=none) {lo:Nat} {args:List AV} {H:Heap} {K:AV→Heap→Prop}:VO (aenter (NC.withPrims P) (R (NC.withPrims P)) lo 99 args H) K=AO (R (NC.withPrims P) (.call H.n 99 args H)) fun o=>o.val.strip.pure=true∧K o.val.strip H:=by
 refine enter_pure rfl ?_ (by kernel_rfl) (by kernel_rfl) (by kernel_rfl)
 show (match NC.prim 99 with | some p=>some p | none=>P 99)=none
 rw [hP];kernel_rfl
theorem en102 {P:FuncId→Option (List AV→Option AV)} (hP:P 102=none) {lo:Nat} {args:List AV} {H:Heap} {K:AV→Heap→Prop}:VO (aenter (NC.withPrims P) (R (NC.withPrims P)) lo 102 args H) K=AO (R (NC.withPrims P) (.call H.n 102 args H)) fun o=>o.val.strip.pure=true∧K o.val.strip H:=by
 refine enter_pure rfl ?_ (by kernel_rfl) (by kernel_rfl) (by kernel_rfl)
 show (match NC.prim 102 with | some p=>some p | none=>P 102)=none
 rw [hP];kernel_rfl
theorem en105 {P:FuncId→Option (List AV→Option AV)} (hP:P 105=none) {lo:Nat} {args:List AV} {H:Heap} {K:AV→Heap→Prop}:VO (aenter (NC.withPrims P) (R (NC.withPrims P)) lo 105 args H) K=AO (R (NC.withPrims P) (.call H.n 105 args H)) fun o=>o.val.strip.pure=true∧K o.val.strip H:=by
 refine enter_pure rfl ?_ (by kernel_rfl) (by kernel_rfl) (by kernel_rfl)
 show (match NC.prim 105 with | some p=>some p | none=>P 105)=none
 rw [hP];kernel_rfl
theorem en107 {P:FuncId→Option (List AV→Option AV)} (hP:P 107=none) {lo:Nat} {args:List AV} {H:Heap} {K:AV→Heap→Prop}:VO (aenter (NC.withPrims P) (R (NC.withPrims P)) lo 107 args H) K=AO (R (NC.withPrims P) (.call H.n 107 args H)) fun o=>o.val.strip.pure=true∧K o.val.strip H:=by
 refine enter_pure rfl ?_ (by kernel_rfl) (by kernel_rfl) (by kernel_rfl)
 show (match NC.prim 107 with | some p=>some p | none=>P 107)=none
 rw [hP];kernel_rfl
theorem en109 {P:FuncId→Option (List AV→Option AV)} (hP:P 109=none) {lo:Nat} {args:List AV} {H:Heap} {K:AV→Heap→Prop}:VO (aenter (NC.withPrims P) (R (NC.withPrims P)) lo 109 args H) K=AO (R (NC.withPrims P) (.call H.n 109 args H)) fun o=>o.val.strip.pure=true∧K o.val.strip H:=by
 refine enter_pure rfl ?_ (by kernel_rfl) (by kernel_rfl) (by kernel_rfl)
 show (match NC.prim 109 with | some p=>some p | none=>P 109)=none
 rw [hP];kernel_rfl
theorem en113 {P:FuncId→Option (List AV→Option AV)} (hP:P 113=none) {lo:Nat} {args:List AV} {H:Heap} {K:AV→Heap→Prop}:VO (aenter (NC.withPrims P) (R (NC.withPrims P)) lo 113 args H) K=AO (R (NC.withPrims P) (.call H.n 113 args H)) fun o=>o.val.strip.pure=true∧K o.val.strip H:=by
 refine enter_pure rfl ?_ (by kernel_rfl) (by kernel_rfl) (by kernel_rfl)
 show (match NC.prim 113 with | some p=>some p | none=>P 113)=none
 rw [hP];kernel_rfl
theorem en143 {P:FuncId→Option (List AV→Option AV)} (hP:P 143=none) {lo:Nat} {args:List AV} {H:Heap} {K:AV→Heap→Prop}:VO (aenter (NC.withPrims P) (R (NC.withPrims P)) lo 143 args H) K=AO (R (NC.withPrims P) (.call H.n 143 args H)) fun o=>o.val.strip.pure=true∧K o.val.strip H:=by
 refine enter_pure rfl ?_ (by kernel_rfl) (by kernel_rfl) (by kernel_rfl)
 show (match NC.prim 143 with | some p=>some p | none=>P 143)=none
 rw [hP];kernel_rfl
theorem en145 {P:FuncId→Option (List AV→Option AV)} (hP:P 145=none) {lo:Nat} {args:List AV} {H:Heap} {K:AV→Heap→Prop}:VO (aenter (NC.withPrims P) (R (NC.withPrims P)) lo 145 args H) K=AO (R (NC.withPrims P) (.call H.n 145 args H)) fun o=>o.val.strip.pure=true∧K o.val.strip H:=by
 refine enter_pure rfl ?_ (by kernel_rfl) (by kernel_rfl) (by kernel_rfl)
 show (match NC.prim 145 with | some p=>some p | none=>P 145)=none
 rw [hP];kernel_rfl
theorem en116 {P:FuncId→Option (List AV→Option AV)} (hP:P 116=none) {lo:Nat} {args:List AV} {H:Heap} {K:AV→Heap→Prop}:VO (aenter (NC.withPrims P) (R (NC.withPrims P)) lo 116 args H) K=AO (R (NC.withPrims P) (.call H.n 116 args H)) fun o=>o.val.strip.pure=true∧K o.val.strip H:=by
 refine enter_pure rfl ?_ (by kernel_rfl) (by kernel_rfl) (by kernel_rfl)
 show (match NC.prim 116 with | some p=>some p | none=>P 116)=none
 rw [hP];kernel_rfl
theorem en119 {P:FuncId→Option (List AV→Option AV)} (hP:P 119=none) {lo:Nat} {args:List AV} {H:Heap} {K:AV→Heap→Prop}:VO (aenter (NC.withPrims P) (R (NC.withPrims P)) lo 119 args H) K=AO (R (NC.withPrims P) (.call H.n 119 args H)) fun o=>o.val.strip.pure=true∧K o.val.strip H:=by
 refine enter_pure rfl ?_ (by kernel_rfl) (by kernel_rfl) (by kernel_rfl)
 show (match NC.prim 119 with | some p=>some p | none=>P 119)=none
 rw [hP];kernel_rfl
theorem en122 {P:FuncId→Option (List AV→Option AV)} (hP:P 122=none) {lo:Nat} {args:List AV} {H:Heap} {K:AV→Heap→Prop}:VO (aenter (NC.withPrims P) (R (NC.withPrims P)) lo 122 args H) K=AO (R (NC.withPrims P) (.call H.n 122 args H)) fun o=>o.val.strip.pure=true∧K o.val.strip H:=by
 refine enter_pure rfl ?_ (by kernel_rfl) (by kernel_rfl) (by kernel_rfl)
 show (match NC.prim 122 with | some p=>some p | none=>P 122)=none
 rw [hP];kernel_rfl
theorem en127 {P:FuncId→Option (List AV→Option AV)} (hP:P 127=none) {lo:Nat} {args:List AV} {H:Heap} {K:AV→Heap→Prop}:VO (aenter (NC.withPrims P) (R (NC.withPrims P)) lo 127 args H) K=AO (R (NC.withPrims P) (.call H.n 127 args H)) fun o=>o.val.strip.pure=true∧K o.val.strip H:=by
 refine enter_pure rfl ?_ (by kernel_rfl) (by kernel_rfl) (by kernel_rfl)
 show (match NC.prim 127 with | some p=>some p | none=>P 127)=none
 rw [hP];kernel_rfl
theorem en129 {P:FuncId→Option (List AV→Option AV)} (hP:P 129=none) {lo:Nat} {args:List AV} {H:Heap} {K:AV→Heap→Prop}:VO (aenter (NC.withPrims P) (R (NC.withPrims P)) lo 129 args H) K=AO (R (NC.withPrims P) (.call H.n 129 args H)) fun o=>o.val.strip.pure=true∧K o.val.strip H:=by
 refine enter_pure rfl ?_ (by kernel_rfl) (by kernel_rfl) (by kernel_rfl)
 show (match NC.prim 129 with | some p=>some p | none=>P 129)=none
 rw [hP];kernel_rfl
theorem en131 {P:FuncId→Option (List AV→Option AV)} (hP:P 131=none) {lo:Nat} {args:List AV} {H:Heap} {K:AV→Heap→Prop}:VO (aenter (NC.withPrims P) (R (NC.withPrims P)) lo 131 args H) K=AO (R (NC.withPrims P) (.call H.n 131 args H)) fun o=>o.val.strip.pure=true∧K o.val.strip H:=by
 refine enter_pure rfl ?_ (by kernel_rfl) (by kernel_rfl) (by kernel_rfl)
 show (match NC.prim 131 with | some p=>some p | none=>P 131)=none
 rw [hP];kernel_rfl
theorem en133 {P:FuncId→Option (List AV→Option AV)} (hP:P 133=none) {lo:Nat} {args:List AV} {H:Heap} {K:AV→Heap→Prop}:VO (aenter (NC.withPrims P) (R (NC.withPrims P)) lo 133 args H) K=AO (R (NC.withPrims P) (.call H.n 133 args H)) fun o=>o.val.strip.pure=true∧K o.val.strip H:=by
 refine enter_pure rfl ?_ (by kernel_rfl) (by kernel_rfl) (by kernel_rfl)
 show (match NC.prim 133 with | some p=>some p | none=>P 133)=none
 rw [hP];kernel_rfl
theorem en135 {P:FuncId→Option (List AV→Option AV)} (hP:P 135=none) {lo:Nat} {args:List AV} {H:Heap} {K:AV→Heap→Prop}:VO (aenter (NC.withPrims P) (R (NC.withPrims P)) lo 135 args H) K=AO (R (NC.withPrims P) (.call H.n 135 args H)) fun o=>o.val.strip.pure=true∧K o.val.strip H:=by
 refine enter_pure rfl ?_ (by kernel_rfl) (by kernel_rfl) (by kernel_rfl)
 show (match NC.prim 135 with | some p=>some p | none=>P 135)=none
 rw [hP];kernel_rfl
theorem en138 {P:FuncId→Option (List AV→Option AV)} (hP:P 138=none) {lo:Nat} {args:List AV} {H:Heap} {K:AV→Heap→Prop}:VO (aenter (NC.withPrims P) (R (NC.withPrims P)) lo 138 args H) K=AO (R (NC.withPrims P) (.call H.n 138 args H)) fun o=>o.val.strip.pure=true∧K o.val.strip H:=by
 refine enter_pure rfl ?_ (by kernel_rfl) (by kernel_rfl) (by kernel_rfl)
 show (match NC.prim 138 with | some p=>some p | none=>P 138)=none
 rw [hP];kernel_rfl
theorem r_kTrack {H:Heap} {b o:Nat} {r:Reg} {V:RegV} (h:RegIs H b o r V) {num:Int} {kind text:Nm} {t:Nm} {tk v:Int}:∃ w H2,R PT (.call H.n 97 [.ptr b o,.agg (evC num kind [t] [tk,v] text)] H)=some (.ofVal w H2)∧w=.int .i64 (firstI [withinI v 1 400,whenI (decide ((r.tracks.length:Int)=8)) 5]):=by
 refine R_of_body (C:=PT) (f:=97) (lo:=H.n) (args:=[.ptr b o,.agg (evC num kind [t] [tk,v] text)]) (H:=H) (fn:=Tryz.f97) (Q:=fun w _=>w=.int .i64 (firstI [withinI v 1 400,whenI (decide ((r.tracks.length:Int)=8)) 5])) (by kernel_rfl) Tryz.func97 rfl rfl ?_
 have l1:=fun H'=>h.l1 (H':=H')
 have l2:=fun H'=>h.l2 (H':=H')
 have l3:=fun H'=>h.l3 (H':=H')
 have l4:=fun H'=>h.l4 (H':=H')
 have l5:=fun H'=>h.l5 (H':=H')
 have nT:=fun H'=>h.sT.len (t:=99) (by kernel_rfl) H'
 have nF:=fun H'=>h.sF.len (t:=98) (by kernel_rfl) H'
 have nR:=fun H'=>h.sR.len (t:=100) (by kernel_rfl) H'
 have nP:=fun H'=>h.sP.len (t:=101) (by kernel_rfl) H'
 have nM:=fun H'=>h.sM.len (t:=102) (by kernel_rfl) H'
 simp only [List.length_map] at nT nF nR nP nM
 have uT:=fun n (hn:H.n≤n)=>h.sT.under hn
 have uF:=fun n (hn:H.n≤n)=>h.sF.under hn
 have uR:=fun n (hn:H.n≤n)=>h.sR.under hn
 have uP:=fun n (hn:H.n≤n)=>h.sP.under hn
 have uM:=fun n (hn:H.n≤n)=>h.sM.under hn
 have hb:=eq_true h.bn
 have en:(strs [t]).length=1:=rfl
 have ei:(ints [tk,v]).length=2:=rfl
 have en0:(strs [t])[0]? = some [.str t]:=rfl
 have ei0:(ints [tk,v])[0]? = some [.int .i64 tk]:=rfl
 have ei1:(ints [tk,v])[1]? = some [.int .i64 v]:=rfl
 simp (config:={ maxDischargeDepth:=12 }) only [go_sem,reduceIte,reduceEqDiff,reduceAdd,reduceMul,reduceSub,reduceLeDiff,reduceLT,Nat.reduceBEq,reduceCtorEq,en,ei,en0,ei0,ei1,l1,l2,l3,l4,l5,nT,nF,nR,nP,nM,uT,uF,uR,uP,uM,hb]
theorem e_kTrack {H : Heap} {b o : Nat} {r : Reg} {V : RegV} (h : RegIs H b o r V) {num : Int} {kind text : Nm} {t : Nm} {tk v : Int} {lo : Nat} {K : AV → Heap → Prop} : VO (aenter PT (R PT) lo 97 [.ptr b o, .agg (evC num kind [t] [tk, v] text)] H) K = K (.int .i64 (firstI [withinI v 1 400, whenI (decide ((r.tracks.length : Int) = 8)) 5])) H := by
 obtain ⟨w, H2, h1, h2⟩ := r_kTrack h 
 exact enter_p (en97 rfl) ⟨H2, h1⟩ (by rw [h2]; rfl) rfl
theorem r_kFault {H:Heap} {b o:Nat} {r:Reg} {V:RegV} (h:RegIs H b o r V) {num:Int} {kind text:Nm} {f t:Nm} {tk x y v:Int}:∃ w H2,R PT (.call H.n 99 [.ptr b o,.agg (evC num kind [f,t] [tk,x,y,v] text)] H)=some (.ofVal w H2)∧w=.int .i64 (firstI [Pos.spanI x y,withinI v 0 400,whenI (decide ((r.faults.length:Int)=64)) 5]):=by
 refine R_of_body (C:=PT) (f:=99) (lo:=H.n) (args:=[.ptr b o,.agg (evC num kind [f,t] [tk,x,y,v] text)]) (H:=H) (fn:=Tryz.f99) (Q:=fun w _=>w=.int .i64 (firstI [Pos.spanI x y,withinI v 0 400,whenI (decide ((r.faults.length:Int)=64)) 5])) (by kernel_rfl) Tryz.func99 rfl rfl ?_
 have l1:=fun H'=>h.l1 (H':=H')
 have l2:=fun H'=>h.l2 (H':=H')
 have l3:=fun H'=>h.l3 (H':=H')
 have l4:=fun H'=>h.l4 (H':=H')
 have l5:=fun H'=>h.l5 (H':=H')
 have nT:=fun H'=>h.sT.len (t:=99) (by kernel_rfl) H'
 have nF:=fun H'=>h.sF.len (t:=98) (by kernel_rfl) H'
 have nR:=fun H'=>h.sR.len (t:=100) (by kernel_rfl) H'
 have nP:=fun H'=>h.sP.len (t:=101) (by kernel_rfl) H'
 have nM:=fun H'=>h.sM.len (t:=102) (by kernel_rfl) H'
 simp only [List.length_map] at nT nF nR nP nM
 have uT:=fun n (hn:H.n≤n)=>h.sT.under hn
 have uF:=fun n (hn:H.n≤n)=>h.sF.under hn
 have uR:=fun n (hn:H.n≤n)=>h.sR.under hn
 have uP:=fun n (hn:H.n≤n)=>h.sP.under hn
 have uM:=fun n (hn:H.n≤n)=>h.sM.under hn
 have hb:=eq_true h.bn
 have en:(strs [f,t]).length=2:=rfl
 have ei:(ints [tk,x,y,v]).length=4:=rfl
 have en0:(strs [f,t])[0]? = some [.str f]:=rfl
 have en1:(strs [f,t])[1]? = some [.str t]:=rfl
 have ei0:(ints [tk,x,y,v])[0]? = some [.int .i64 tk]:=rfl
 have ei1:(ints [tk,x,y,v])[1]? = some [.int .i64 x]:=rfl
 have ei2:(ints [tk,x,y,v])[2]? = some [.int .i64 y]:=rfl
 have ei3:(ints [tk,x,y,v])[3]? = some [.int .i64 v]:=rfl
 have hsp:=pe100 ⟨num,kind,[f,t],[tk,x,y,v],text⟩ (by show 3≤4;decide)
 simp only [Pos.Ev.row,List.getD_cons_succ,List.getD_cons_zero] at hsp
 simp (config:={ maxDischargeDepth:=12 }) only [go_sem,reduceIte,reduceEqDiff,reduceAdd,reduceMul,reduceSub,reduceLeDiff,reduceLT,Nat.reduceBEq,reduceCtorEq,en,ei,en0,en1,ei0,ei1,ei2,ei3,l1,l2,l3,l4,l5,nT,nF,nR,nP,nM,uT,uF,uR,uP,uM,hb,hsp]
theorem e_kFault {H : Heap} {b o : Nat} {r : Reg} {V : RegV} (h : RegIs H b o r V) {num : Int} {kind text : Nm} {f t : Nm} {tk x y v : Int} {lo : Nat} {K : AV → Heap → Prop} : VO (aenter PT (R PT) lo 99 [.ptr b o, .agg (evC num kind [f, t] [tk, x, y, v] text)] H) K = K (.int .i64 (firstI [Pos.spanI x y, withinI v 0 400, whenI (decide ((r.faults.length : Int) = 64)) 5])) H := by
 obtain ⟨w, H2, h1, h2⟩ := r_kFault h 
 exact enter_p (en99 rfl) ⟨H2, h1⟩ (by rw [h2]; rfl) rfl
theorem r_kAnswer {H:Heap} {b o:Nat} {r:Reg} {V:RegV} (h:RegIs H b o r V) {num:Int} {kind text:Nm} {f:Nm} {tk:Int} {i:Nat} {y:Flt} (hf:At (·.name) r.faults f i y):∃ w H2,R PT (.call H.n 102 [.ptr b o,.agg (evC num kind [f] [tk] text)] H)=some (.ofVal w H2)∧w=.int .i64 (firstI [whenI y.rep 23,whenI y.ans 9]):=by
 refine R_of_body (C:=PT) (f:=102) (lo:=H.n) (args:=[.ptr b o,.agg (evC num kind [f] [tk] text)]) (H:=H) (fn:=Tryz.f102) (Q:=fun w _=>w=.int .i64 (firstI [whenI y.rep 23,whenI y.ans 9])) (by kernel_rfl) Tryz.func102 rfl rfl ?_
 have l1:=fun H'=>h.l1 (H':=H')
 have l2:=fun H'=>h.l2 (H':=H')
 have l3:=fun H'=>h.l3 (H':=H')
 have l4:=fun H'=>h.l4 (H':=H')
 have l5:=fun H'=>h.l5 (H':=H')
 have nT:=fun H'=>h.sT.len (t:=99) (by kernel_rfl) H'
 have nF:=fun H'=>h.sF.len (t:=98) (by kernel_rfl) H'
 have nR:=fun H'=>h.sR.len (t:=100) (by kernel_rfl) H'
 have nP:=fun H'=>h.sP.len (t:=101) (by kernel_rfl) H'
 have nM:=fun H'=>h.sM.len (t:=102) (by kernel_rfl) H'
 simp only [List.length_map] at nT nF nR nP nM
 have uT:=fun n (hn:H.n≤n)=>h.sT.under hn
 have uF:=fun n (hn:H.n≤n)=>h.sF.under hn
 have uR:=fun n (hn:H.n≤n)=>h.sR.under hn
 have uP:=fun n (hn:H.n≤n)=>h.sP.under hn
 have uM:=fun n (hn:H.n≤n)=>h.sM.under hn
 have hb:=eq_true h.bn
 have en:(strs [f]).length=1:=rfl
 have ei:(ints [tk]).length=1:=rfl
 have en0:(strs [f])[0]? = some [.str f]:=rfl
 have ei0:(ints [tk])[0]? = some [.int .i64 tk]:=rfl
 obtain ⟨id,he,hP⟩:=el_F h hf.at'
 have e1:=fun Hc (ho:Old H.n H Hc) lo K=>e_fault h hf.idx hf.lt ho (lo:=lo) (K:=K)
 simp (config:={ maxDischargeDepth:=12 }) only [go_sem,reduceIte,reduceEqDiff,reduceAdd,reduceMul,reduceSub,reduceLeDiff,reduceLT,Nat.reduceBEq,reduceCtorEq,en,ei,en0,ei0,l1,l2,l3,l4,l5,nT,nF,nR,nP,nM,uT,uF,uR,uP,uM,hb,he,hP.f5,hP.f6,e1]
theorem e_kAnswer {H : Heap} {b o : Nat} {r : Reg} {V : RegV} (h : RegIs H b o r V) {num : Int} {kind text : Nm} {f : Nm} {tk : Int} {i : Nat} {y : Flt} (hf : At (·.name) r.faults f i y) {lo : Nat} {K : AV → Heap → Prop} : VO (aenter PT (R PT) lo 102 [.ptr b o, .agg (evC num kind [f] [tk] text)] H) K = K (.int .i64 (firstI [whenI y.rep 23, whenI y.ans 9])) H := by
 obtain ⟨w, H2, h1, h2⟩ := r_kAnswer h hf
 exact enter_p (en102 rfl) ⟨H2, h1⟩ (by rw [h2]; rfl) rfl
theorem r_kRaise {H:Heap} {b o:Nat} {r:Reg} {V:RegV} (h:RegIs H b o r V) {num:Int} {kind text:Nm} {p:Nm} {tk v:Int} {i:Nat} {y:Pos} (hf:At (·.name) r.poss p i y):∃ w H2,R PT (.call H.n 138 [.ptr b o,.agg (evC num kind [p] [tk,v] text)] H)=some (.ofVal w H2)∧w=.int .i64 (firstI [whenI (!y.ret) 22,withinI v 0 400,whenI (decide (v≤y.speed)) 21]):=by
 refine R_of_body (C:=PT) (f:=138) (lo:=H.n) (args:=[.ptr b o,.agg (evC num kind [p] [tk,v] text)]) (H:=H) (fn:=Tryz.f138) (Q:=fun w _=>w=.int .i64 (firstI [whenI (!y.ret) 22,withinI v 0 400,whenI (decide (v≤y.speed)) 21])) (by kernel_rfl) Tryz.func138 rfl rfl ?_
 have l1:=fun H'=>h.l1 (H':=H')
 have l2:=fun H'=>h.l2 (H':=H')
 have l3:=fun H'=>h.l3 (H':=H')
 have l4:=fun H'=>h.l4 (H':=H')
 have l5:=fun H'=>h.l5 (H':=H')
 have nT:=fun H'=>h.sT.len (t:=99) (by kernel_rfl) H'
 have nF:=fun H'=>h.sF.len (t:=98) (by kernel_rfl) H'
 have nR:=fun H'=>h.sR.len (t:=100) (by kernel_rfl) H'
 have nP:=fun H'=>h.sP.len (t:=101) (by kernel_rfl) H'
 have nM:=fun H'=>h.sM.len (t:=102) (by kernel_rfl) H'
 simp only [List.length_map] at nT nF nR nP nM
 have uT:=fun n (hn:H.n≤n)=>h.sT.under hn
 have uF:=fun n (hn:H.n≤n)=>h.sF.under hn
 have uR:=fun n (hn:H.n≤n)=>h.sR.under hn
 have uP:=fun n (hn:H.n≤n)=>h.sP.under hn
 have uM:=fun n (hn:H.n≤n)=>h.sM.under hn
 have hb:=eq_true h.bn
 have en:(strs [p]).length=1:=rfl
 have ei:(ints [tk,v]).length=2:=rfl
 have en0:(strs [p])[0]? = some [.str p]:=rfl
 have ei0:(ints [tk,v])[0]? = some [.int .i64 tk]:=rfl
 have ei1:(ints [tk,v])[1]? = some [.int .i64 v]:=rfl
 obtain ⟨id,he,hP⟩:=el_P h hf.at'
 have e1:=fun Hc (ho:Old H.n H Hc) lo K=>e_poss h hf.idx hf.lt ho (lo:=lo) (K:=K)
 have hle:(!decide (y.speed < v))=decide (v≤y.speed):=by
  by_cases hc:v≤y.speed
  · have:¬ y.speed < v:=by omega
    simp [hc,this]
  · have:y.speed < v:=by omega
    simp [hc,this]
 simp (config:={ maxDischargeDepth:=12 }) only [go_sem,reduceIte,reduceEqDiff,reduceAdd,reduceMul,reduceSub,reduceLeDiff,reduceLT,Nat.reduceBEq,reduceCtorEq,en,ei,en0,ei0,ei1,l1,l2,l3,l4,l5,nT,nF,nR,nP,nM,uT,uF,uR,uP,uM,hb,he,hP.f4,hP.f9,e1,hle]
theorem e_kRaise {H : Heap} {b o : Nat} {r : Reg} {V : RegV} (h : RegIs H b o r V) {num : Int} {kind text : Nm} {p : Nm} {tk v : Int} {i : Nat} {y : Pos} (hf : At (·.name) r.poss p i y) {lo : Nat} {K : AV → Heap → Prop} : VO (aenter PT (R PT) lo 138 [.ptr b o, .agg (evC num kind [p] [tk, v] text)] H) K = K (.int .i64 (firstI [whenI (!y.ret) 22, withinI v 0 400, whenI (decide (v ≤ y.speed)) 21])) H := by
 obtain ⟨w, H2, h1, h2⟩ := r_kRaise h hf
 exact enter_p (en138 rfl) ⟨H2, h1⟩ (by rw [h2]; rfl) rfl
theorem r_kEnter {H:Heap} {b o:Nat} {r:Reg} {V:RegV} (h:RegIs H b o r V) {num:Int} {kind text:Nm} {x t:Nm} {tk v:Int} {y:Trk} (hy:r.track? t=some y):∃ w H2,R PT (.call H.n 107 [.ptr b o,.agg (evC num kind [x,t] [tk,v] text)] H)=some (.ofVal w H2)∧w=.int .i64 (firstI [whenI (r.taken t) 31,whenI (r.silentOn t) 32,whenI (decide (v < 1) || decide (r.permitted t < v)) 20,whenI (decide ((r.trains.length:Int)=16)) 5]):=by
 refine R_of_body (C:=PT) (f:=107) (lo:=H.n) (args:=[.ptr b o,.agg (evC num kind [x,t] [tk,v] text)]) (H:=H) (fn:=Tryz.f107) (Q:=fun w _=>w=.int .i64 (firstI [whenI (r.taken t) 31,whenI (r.silentOn t) 32,whenI (decide (v < 1) || decide (r.permitted t < v)) 20,whenI (decide ((r.trains.length:Int)=16)) 5])) (by kernel_rfl) Tryz.func107 rfl rfl ?_
 have l1:=fun H'=>h.l1 (H':=H')
 have l2:=fun H'=>h.l2 (H':=H')
 have l3:=fun H'=>h.l3 (H':=H')
 have l4:=fun H'=>h.l4 (H':=H')
 have l5:=fun H'=>h.l5 (H':=H')
 have nT:=fun H'=>h.sT.len (t:=99) (by kernel_rfl) H'
 have nF:=fun H'=>h.sF.len (t:=98) (by kernel_rfl) H'
 have nR:=fun H'=>h.sR.len (t:=100) (by kernel_rfl) H'
 have nP:=fun H'=>h.sP.len (t:=101) (by kernel_rfl) H'
 have nM:=fun H'=>h.sM.len (t:=102) (by kernel_rfl) H'
 simp only [List.length_map] at nT nF nR nP nM
 have uT:=fun n (hn:H.n≤n)=>h.sT.under hn
 have uF:=fun n (hn:H.n≤n)=>h.sF.under hn
 have uR:=fun n (hn:H.n≤n)=>h.sR.under hn
 have uP:=fun n (hn:H.n≤n)=>h.sP.under hn
 have uM:=fun n (hn:H.n≤n)=>h.sM.under hn
 have hb:=eq_true h.bn
 have en:(strs [x,t]).length=2:=rfl
 have ei:(ints [tk,v]).length=2:=rfl
 have en0:(strs [x,t])[0]? = some [.str x]:=rfl
 have en1:(strs [x,t])[1]? = some [.str t]:=rfl
 have ei0:(ints [tk,v])[0]? = some [.int .i64 tk]:=rfl
 have ei1:(ints [tk,v])[1]? = some [.int .i64 v]:=rfl
 have e1:=fun Hc (ho:Old H.n H Hc) lo K=>e_taken h t ho (lo:=lo) (K:=K)
 have e2:=fun Hc (ho:Old H.n H Hc) lo K=>e_silentOn h t ho (lo:=lo) (K:=K)
 have e3:=fun Hc (ho:Old H.n H Hc) lo K=>e_permitted h hy ho (lo:=lo) (K:=K)
 rcases Classical.propComplete (v < 1) with c1 | c1
 all_goals
  simp (config:={ maxDischargeDepth:=12 }) only [go_sem,reduceIte,reduceEqDiff,reduceAdd,reduceMul,reduceSub,reduceLeDiff,reduceLT,Nat.reduceBEq,reduceCtorEq,en,ei,en0,en1,ei0,ei1,l1,l2,l3,l4,l5,nT,nF,nR,nP,nM,uT,uF,uR,uP,uM,hb,e1,e2,e3,c1,decide_true,decide_false,Bool.true_or,Bool.false_or]
theorem e_kEnter {H : Heap} {b o : Nat} {r : Reg} {V : RegV} (h : RegIs H b o r V) {num : Int} {kind text : Nm} {x t : Nm} {tk v : Int} {y : Trk} (hy : r.track? t = some y) {lo : Nat} {K : AV → Heap → Prop} : VO (aenter PT (R PT) lo 107 [.ptr b o, .agg (evC num kind [x, t] [tk, v] text)] H) K = K (.int .i64 (firstI [whenI (r.taken t) 31, whenI (r.silentOn t) 32, whenI (decide (v < 1) || decide (r.permitted t < v)) 20, whenI (decide ((r.trains.length : Int) = 16)) 5])) H := by
 obtain ⟨w, H2, h1, h2⟩ := r_kEnter h hy
 exact enter_p (en107 rfl) ⟨H2, h1⟩ (by rw [h2]; rfl) rfl
theorem r_kRepair {H:Heap} {b o:Nat} {r:Reg} {V:RegV} (h:RegIs H b o r V) {num:Int} {kind text:Nm} {f p:Nm} {tk:Int} {i j:Nat} {y:Flt} {q:Pos} (hf:At (·.name) r.faults f i y) (hq:At (·.name) r.poss p j q) (hp:r.poss? q.name=some q):∃ w H2,R PT (.call H.n 105 [.ptr b o,.agg (evC num kind [f,p] [tk] text)] H)=some (.ofVal w H2)∧w=.int .i64 (firstI [whenI y.rep 23,whenI (q.ret || !decide (q.track=y.track) || (decide (y.frm < q.frm) || decide (q.to < y.to))) 21,whenI (decide (((r.within q.name).length:Int)=0) && decide (q.pers=0)) 12]):=by
 refine R_of_body (C:=PT) (f:=105) (lo:=H.n) (args:=[.ptr b o,.agg (evC num kind [f,p] [tk] text)]) (H:=H) (fn:=Tryz.f105) (Q:=fun w _=>w=.int .i64 (firstI [whenI y.rep 23,whenI (q.ret || !decide (q.track=y.track) || (decide (y.frm < q.frm) || decide (q.to < y.to))) 21,whenI (decide (((r.within q.name).length:Int)=0) && decide (q.pers=0)) 12])) (by kernel_rfl) Tryz.func105 rfl rfl ?_
 have l1:=fun H'=>h.l1 (H':=H')
 have l2:=fun H'=>h.l2 (H':=H')
 have l3:=fun H'=>h.l3 (H':=H')
 have l4:=fun H'=>h.l4 (H':=H')
 have l5:=fun H'=>h.l5 (H':=H')
 have nT:=fun H'=>h.sT.len (t:=99) (by kernel_rfl) H'
 have nF:=fun H'=>h.sF.len (t:=98) (by kernel_rfl) H'
 have nR:=fun H'=>h.sR.len (t:=100) (by kernel_rfl) H'
 have nP:=fun H'=>h.sP.len (t:=101) (by kernel_rfl) H'
 have nM:=fun H'=>h.sM.len (t:=102) (by kernel_rfl) H'
 simp only [List.length_map] at nT nF nR nP nM
 have uT:=fun n (hn:H.n≤n)=>h.sT.under hn
 have uF:=fun n (hn:H.n≤n)=>h.sF.under hn
 have uR:=fun n (hn:H.n≤n)=>h.sR.under hn
 have uP:=fun n (hn:H.n≤n)=>h.sP.under hn
 have uM:=fun n (hn:H.n≤n)=>h.sM.under hn
 have hb:=eq_true h.bn
 have en:(strs [f,p]).length=2:=rfl
 have ei:(ints [tk]).length=1:=rfl
 have en0:(strs [f,p])[0]? = some [.str f]:=rfl
 have en1:(strs [f,p])[1]? = some [.str p]:=rfl
 have ei0:(ints [tk])[0]? = some [.int .i64 tk]:=rfl
 obtain ⟨id,he,hP⟩:=el_F h hf.at'
 obtain ⟨ip,hep,hPp⟩:=el_P h hq.at'
 have e1:=fun Hc (ho:Old H.n H Hc) lo K=>e_fault h hf.idx hf.lt ho (lo:=lo) (K:=K)
 have e2:=fun Hc (ho:Old H.n H Hc) lo K=>e_poss h hq.idx hq.lt ho (lo:=lo) (K:=K)
 have e3:=fun Hc (ho:Old H.n H Hc) lo K=>e_inside h hp ho (lo:=lo) (K:=K)
 rcases Classical.propComplete (y.frm < q.frm) with c1 | c1<;>cases c2:q.ret<;>rcases Classical.propComplete (q.track=y.track) with c3 | c3
 all_goals
  simp (config:={ maxDischargeDepth:=12 }) only [go_sem,reduceIte,reduceEqDiff,reduceAdd,reduceMul,reduceSub,reduceLeDiff,reduceLT,Nat.reduceBEq,reduceCtorEq,en,ei,en0,en1,ei0,l1,l2,l3,l4,l5,nT,nF,nR,nP,nM,uT,uF,uR,uP,uM,hb,he,hep,hP.f1,hP.f2,hP.f3,hP.f6,hPp.f0,hPp.f1,hPp.f2,hPp.f3,hPp.f4,e1,e2,e3,c1,c2,c3,beqL_dec,decide_true,decide_false,Bool.true_or,Bool.false_or,Bool.or_true,Bool.or_false]
theorem e_kRepair {H : Heap} {b o : Nat} {r : Reg} {V : RegV} (h : RegIs H b o r V) {num : Int} {kind text : Nm} {f p : Nm} {tk : Int} {i j : Nat} {y : Flt} {q : Pos} (hf : At (·.name) r.faults f i y) (hq : At (·.name) r.poss p j q) (hp : r.poss? q.name = some q) {lo : Nat} {K : AV → Heap → Prop} : VO (aenter PT (R PT) lo 105 [.ptr b o, .agg (evC num kind [f, p] [tk] text)] H) K = K (.int .i64 (firstI [whenI y.rep 23, whenI (q.ret || !decide (q.track = y.track) || (decide (y.frm < q.frm) || decide (q.to < y.to))) 21, whenI (decide (((r.within q.name).length : Int) = 0) && decide (q.pers = 0)) 12])) H := by
 obtain ⟨w, H2, h1, h2⟩ := r_kRepair h hf hq hp
 exact enter_p (en105 rfl) ⟨H2, h1⟩ (by rw [h2]; rfl) rfl
theorem e_checkTake_1 {H : Heap} {f : Trn} {id : Nat} {s : Nm} (hid : id < H.n) (hg : H.get id = .cells [.str s] 9) {lo : Nat} {K : AV → Heap → Prop} : VO (aenter PT (R PT) lo 143 [.agg [.str f.name, .str f.track, .int .i64 f.speed], .ptr id 0] H) K = K (.bool (decide (f.track = s))) H := by
 obtain ⟨w, H2, h1, h2⟩ := R_of_body (C := PT) (f := 143) (lo := H.n) (args := [.agg [.str f.name, .str f.track, .int .i64 f.speed], .ptr id 0]) (H := H) (fn := Tryz.f143) (Q := fun w _ => w = .bool (decide (f.track = s))) (by kernel_rfl) Tryz.func143 rfl rfl (by
  have hne : (id = H.n) = False := eq_false (by omega)
  simp (config := { maxDischargeDepth := 12 }) only [go_sem, reduceIte, reduceEqDiff, reduceAdd, reduceMul, reduceSub, reduceLeDiff, reduceLT, Nat.reduceBEq, reduceCtorEq, hne, hg, beqL_dec])
 exact enter_p (en143 rfl) ⟨H2, h1⟩ (by rw [h2]; rfl) rfl
theorem r_kTake {H:Heap} {b o:Nat} {r:Reg} {V:RegV} (h:RegIs H b o r V) {num:Int} {kind text:Nm} {p t:Nm} {tk x y:Int}:∃ w H2,R PT (.call H.n 113 [.ptr b o,.agg (evC num kind [p,t] [tk,x,y] text)] H)=some (.ofVal w H2)∧w=.int .i64 (firstI [Pos.spanI x y,whenI (r.manned t) 31,whenI (ovR r t x y) 15,whenI (decide ((r.poss.length:Int)=16)) 5]):=by
 refine R_of_body (C:=PT) (f:=113) (lo:=H.n) (args:=[.ptr b o,.agg (evC num kind [p,t] [tk,x,y] text)]) (H:=H) (fn:=Tryz.f113) (Q:=fun w _=>w=.int .i64 (firstI [Pos.spanI x y,whenI (r.manned t) 31,whenI (ovR r t x y) 15,whenI (decide ((r.poss.length:Int)=16)) 5])) (by kernel_rfl) Tryz.func113 rfl rfl ?_
 have l1:=fun H'=>h.l1 (H':=H')
 have l2:=fun H'=>h.l2 (H':=H')
 have l3:=fun H'=>h.l3 (H':=H')
 have l4:=fun H'=>h.l4 (H':=H')
 have l5:=fun H'=>h.l5 (H':=H')
 have nT:=fun H'=>h.sT.len (t:=99) (by kernel_rfl) H'
 have nF:=fun H'=>h.sF.len (t:=98) (by kernel_rfl) H'
 have nR:=fun H'=>h.sR.len (t:=100) (by kernel_rfl) H'
 have nP:=fun H'=>h.sP.len (t:=101) (by kernel_rfl) H'
 have nM:=fun H'=>h.sM.len (t:=102) (by kernel_rfl) H'
 simp only [List.length_map] at nT nF nR nP nM
 have uT:=fun n (hn:H.n≤n)=>h.sT.under hn
 have uF:=fun n (hn:H.n≤n)=>h.sF.under hn
 have uR:=fun n (hn:H.n≤n)=>h.sR.under hn
 have uP:=fun n (hn:H.n≤n)=>h.sP.under hn
 have uM:=fun n (hn:H.n≤n)=>h.sM.under hn
 have hb:=eq_true h.bn
 have en:(strs [p,t]).length=2:=rfl
 have ei:(ints [tk,x,y]).length=3:=rfl
 have en0:(strs [p,t])[0]? = some [.str p]:=rfl
 have en1:(strs [p,t])[1]? = some [.str t]:=rfl
 have ei0:(ints [tk,x,y])[0]? = some [.int .i64 tk]:=rfl
 have ei1:(ints [tk,x,y])[1]? = some [.int .i64 x]:=rfl
 have ei2:(ints [tk,x,y])[2]? = some [.int .i64 y]:=rfl
 have hsp:=pe100 ⟨num,kind,[p,t],[tk,x,y],text⟩ (by show 3≤3;decide)
 simp only [Pos.Ev.row,List.getD_cons_succ,List.getD_cons_zero] at hsp
 have e1:=fun Hc (ho:Old H.n H Hc) lo K=>e_overlaps h t x y ho (lo:=lo) (K:=K)
 have e2:∀ Hc,Old H.n H Hc→H.n+1+1 < Hc.n→Hc.get (H.n+1+1)=.cells [.str t] 9 → ∀ lo K,VO (aenter PT (R PT) lo 142 [strp V.vR,.fn 143 [] [.ptr (H.n+1+1) 0]] Hc) K=K (.bool (r.manned t)) Hc:=fun Hc ho hlt hg lo K =>
  e_hasR (h.sR.old ho) h.lR rfl (fun x _ H2 ho2 lo K=>e_checkTake_1 (Nat.lt_of_lt_of_le hlt ho2.1) (by rw [ho2.2 _ hlt,hg]))
 simp (config:={ maxDischargeDepth:=12 }) only [go_sem,reduceIte,reduceEqDiff,reduceAdd,reduceMul,reduceSub,reduceLeDiff,reduceLT,Nat.reduceBEq,reduceCtorEq,en,ei,en0,en1,ei0,ei1,ei2,l1,l2,l3,l4,l5,nT,nF,nR,nP,nM,uT,uF,uR,uP,uM,hb,hsp,e1,e2]
theorem e_kTake {H : Heap} {b o : Nat} {r : Reg} {V : RegV} (h : RegIs H b o r V) {num : Int} {kind text : Nm} {p t : Nm} {tk x y : Int} {lo : Nat} {K : AV → Heap → Prop} : VO (aenter PT (R PT) lo 113 [.ptr b o, .agg (evC num kind [p, t] [tk, x, y] text)] H) K = K (.int .i64 (firstI [Pos.spanI x y, whenI (r.manned t) 31, whenI (ovR r t x y) 15, whenI (decide ((r.poss.length : Int) = 16)) 5])) H := by
 obtain ⟨w, H2, h1, h2⟩ := r_kTake h 
 exact enter_p (en113 rfl) ⟨H2, h1⟩ (by rw [h2]; rfl) rfl
theorem e_free {H : Heap} {b o : Nat} {r : Reg} {V : RegV} (h : RegIs H b o r V) {num : Int} {kind text : Nm} {ns : List Nm} {vs : List Int} {lo : Nat} {K : AV → Heap → Prop} : VO (aenter PT (R PT) lo 109 [.ptr b o, .agg (evC num kind ns vs text)] H) K = K (.int .i64 0) H := by
 obtain ⟨w, H2, h1, h2⟩ := R_of_body (C := PT) (f := 109) (lo := H.n) (args := [.ptr b o, .agg (evC num kind ns vs text)]) (H := H) (fn := Tryz.f109) (Q := fun w _ => w = .int .i64 0) (by kernel_rfl) Tryz.func109 rfl rfl (by simp (config := { maxDischargeDepth := 12 }) only [go_sem, reduceIte, reduceEqDiff, reduceAdd, reduceMul, reduceSub, reduceLeDiff, reduceLT, Nat.reduceBEq, reduceCtorEq])
 exact enter_p (en109 rfl) ⟨H2, h1⟩ (by rw [h2]; rfl) rfl
theorem r_iProt {H:Heap} {b o:Nat} {r:Reg} {V:RegV} (h:RegIs H b o r V) {num:Int} {kind text:Nm} {id off:Nat} {y:Pos} (hP:PtP H id off y) {p:Nm} {tk:Int}:∃ w H2,R PT (.call H.n 116 [.ptr b o,.ptr id off,.agg (evC num kind [p] [tk] text)] H)=some (.ofVal w H2)∧w=.int .i64 (whenI y.prot 9):=by
 refine R_of_body (C:=PT) (f:=116) (lo:=H.n) (args:=[.ptr b o,.ptr id off,.agg (evC num kind [p] [tk] text)]) (H:=H) (fn:=Tryz.f116) (Q:=fun w _=>w=.int .i64 (whenI y.prot 9)) (by kernel_rfl) Tryz.func116 rfl rfl ?_
 have l1:=fun H'=>h.l1 (H':=H')
 have l2:=fun H'=>h.l2 (H':=H')
 have l3:=fun H'=>h.l3 (H':=H')
 have l4:=fun H'=>h.l4 (H':=H')
 have l5:=fun H'=>h.l5 (H':=H')
 have nT:=fun H'=>h.sT.len (t:=99) (by kernel_rfl) H'
 have nF:=fun H'=>h.sF.len (t:=98) (by kernel_rfl) H'
 have nR:=fun H'=>h.sR.len (t:=100) (by kernel_rfl) H'
 have nP:=fun H'=>h.sP.len (t:=101) (by kernel_rfl) H'
 have nM:=fun H'=>h.sM.len (t:=102) (by kernel_rfl) H'
 simp only [List.length_map] at nT nF nR nP nM
 have uT:=fun n (hn:H.n≤n)=>h.sT.under hn
 have uF:=fun n (hn:H.n≤n)=>h.sF.under hn
 have uR:=fun n (hn:H.n≤n)=>h.sR.under hn
 have uP:=fun n (hn:H.n≤n)=>h.sP.under hn
 have uM:=fun n (hn:H.n≤n)=>h.sM.under hn
 have hb:=eq_true h.bn
 have en:(strs [p]).length=1:=rfl
 have ei:(ints [tk]).length=1:=rfl
 have en0:(strs [p])[0]? = some [.str p]:=rfl
 have ei0:(ints [tk])[0]? = some [.int .i64 tk]:=rfl
 simp (config:={ maxDischargeDepth:=12 }) only [go_sem,reduceIte,reduceEqDiff,reduceAdd,reduceMul,reduceSub,reduceLeDiff,reduceLT,Nat.reduceBEq,reduceCtorEq,en,ei,en0,ei0,l1,l2,l3,l4,l5,nT,nF,nR,nP,nM,uT,uF,uR,uP,uM,hb,hP.f0,hP.f1,hP.f2,hP.f3,hP.f4,hP.f5,hP.f6,hP.f7,hP.f8,hP.f9]
theorem e_iProt {H : Heap} {b o : Nat} {r : Reg} {V : RegV} (h : RegIs H b o r V) {num : Int} {kind text : Nm} {id off : Nat} {y : Pos} (hP : PtP H id off y) {p : Nm} {tk : Int} {lo : Nat} {K : AV → Heap → Prop} : VO (aenter PT (R PT) lo 116 [.ptr b o, .ptr id off, .agg (evC num kind [p] [tk] text)] H) K = K (.int .i64 (whenI y.prot 9)) H := by
 obtain ⟨w, H2, h1, h2⟩ := r_iProt h hP
 exact enter_p (en116 rfl) ⟨H2, h1⟩ (by rw [h2]; rfl) rfl
theorem r_iClear {H:Heap} {b o:Nat} {r:Reg} {V:RegV} (h:RegIs H b o r V) {num:Int} {kind text:Nm} {id off:Nat} {y:Pos} (hP:PtP H id off y) {p:Nm} {tk:Int} (hp:r.poss? y.name=some y):∃ w H2,R PT (.call H.n 119 [.ptr b o,.ptr id off,.agg (evC num kind [p] [tk] text)] H)=some (.ofVal w H2)∧w=.int .i64 (firstI [whenI (!y.prot) 22,whenI (!(decide (((r.within y.name).length:Int)=0) && decide (y.pers=0))) 32]):=by
 refine R_of_body (C:=PT) (f:=119) (lo:=H.n) (args:=[.ptr b o,.ptr id off,.agg (evC num kind [p] [tk] text)]) (H:=H) (fn:=Tryz.f119) (Q:=fun w _=>w=.int .i64 (firstI [whenI (!y.prot) 22,whenI (!(decide (((r.within y.name).length:Int)=0) && decide (y.pers=0))) 32])) (by kernel_rfl) Tryz.func119 rfl rfl ?_
 have l1:=fun H'=>h.l1 (H':=H')
 have l2:=fun H'=>h.l2 (H':=H')
 have l3:=fun H'=>h.l3 (H':=H')
 have l4:=fun H'=>h.l4 (H':=H')
 have l5:=fun H'=>h.l5 (H':=H')
 have nT:=fun H'=>h.sT.len (t:=99) (by kernel_rfl) H'
 have nF:=fun H'=>h.sF.len (t:=98) (by kernel_rfl) H'
 have nR:=fun H'=>h.sR.len (t:=100) (by kernel_rfl) H'
 have nP:=fun H'=>h.sP.len (t:=101) (by kernel_rfl) H'
 have nM:=fun H'=>h.sM.len (t:=102) (by kernel_rfl) H'
 simp only [List.length_map] at nT nF nR nP nM
 have uT:=fun n (hn:H.n≤n)=>h.sT.under hn
 have uF:=fun n (hn:H.n≤n)=>h.sF.under hn
 have uR:=fun n (hn:H.n≤n)=>h.sR.under hn
 have uP:=fun n (hn:H.n≤n)=>h.sP.under hn
 have uM:=fun n (hn:H.n≤n)=>h.sM.under hn
 have hb:=eq_true h.bn
 have en:(strs [p]).length=1:=rfl
 have ei:(ints [tk]).length=1:=rfl
 have en0:(strs [p])[0]? = some [.str p]:=rfl
 have ei0:(ints [tk])[0]? = some [.int .i64 tk]:=rfl
 have e3:=fun Hc (ho:Old H.n H Hc) lo K=>e_inside h hp ho (lo:=lo) (K:=K)
 have hi:=eq_true hP.lt
 simp (config:={ maxDischargeDepth:=12 }) only [go_sem,reduceIte,reduceEqDiff,reduceAdd,reduceMul,reduceSub,reduceLeDiff,reduceLT,Nat.reduceBEq,reduceCtorEq,en,ei,en0,ei0,l1,l2,l3,l4,l5,nT,nF,nR,nP,nM,uT,uF,uR,uP,uM,hb,hP.f0,hP.f1,hP.f2,hP.f3,hP.f4,hP.f5,hP.f6,hP.f7,hP.f8,hP.f9,e3,hi]
theorem e_iClear {H : Heap} {b o : Nat} {r : Reg} {V : RegV} (h : RegIs H b o r V) {num : Int} {kind text : Nm} {id off : Nat} {y : Pos} (hP : PtP H id off y) {p : Nm} {tk : Int} (hp : r.poss? y.name = some y) {lo : Nat} {K : AV → Heap → Prop} : VO (aenter PT (R PT) lo 119 [.ptr b o, .ptr id off, .agg (evC num kind [p] [tk] text)] H) K = K (.int .i64 (firstI [whenI (!y.prot) 22, whenI (!(decide (((r.within y.name).length : Int) = 0) && decide (y.pers = 0))) 32])) H := by
 obtain ⟨w, H2, h1, h2⟩ := r_iClear h hP hp
 exact enter_p (en119 rfl) ⟨H2, h1⟩ (by rw [h2]; rfl) rfl
theorem r_iIn {H:Heap} {b o:Nat} {r:Reg} {V:RegV} (h:RegIs H b o r V) {num:Int} {kind text:Nm} {id off:Nat} {y:Pos} (hP:PtP H id off y) {m p:Nm} {tk:Int}:∃ w H2,R PT (.call H.n 122 [.ptr b o,.ptr id off,.agg (evC num kind [m,p] [tk] text)] H)=some (.ofVal w H2)∧w=.int .i64 (firstI [whenI (!y.prot) 21,whenI (decide ((r.machs.length:Int)=16)) 5]):=by
 refine R_of_body (C:=PT) (f:=122) (lo:=H.n) (args:=[.ptr b o,.ptr id off,.agg (evC num kind [m,p] [tk] text)]) (H:=H) (fn:=Tryz.f122) (Q:=fun w _=>w=.int .i64 (firstI [whenI (!y.prot) 21,whenI (decide ((r.machs.length:Int)=16)) 5])) (by kernel_rfl) Tryz.func122 rfl rfl ?_
 have l1:=fun H'=>h.l1 (H':=H')
 have l2:=fun H'=>h.l2 (H':=H')
 have l3:=fun H'=>h.l3 (H':=H')
 have l4:=fun H'=>h.l4 (H':=H')
 have l5:=fun H'=>h.l5 (H':=H')
 have nT:=fun H'=>h.sT.len (t:=99) (by kernel_rfl) H'
 have nF:=fun H'=>h.sF.len (t:=98) (by kernel_rfl) H'
 have nR:=fun H'=>h.sR.len (t:=100) (by kernel_rfl) H'
 have nP:=fun H'=>h.sP.len (t:=101) (by kernel_rfl) H'
 have nM:=fun H'=>h.sM.len (t:=102) (by kernel_rfl) H'
 simp only [List.length_map] at nT nF nR nP nM
 have uT:=fun n (hn:H.n≤n)=>h.sT.under hn
 have uF:=fun n (hn:H.n≤n)=>h.sF.under hn
 have uR:=fun n (hn:H.n≤n)=>h.sR.under hn
 have uP:=fun n (hn:H.n≤n)=>h.sP.under hn
 have uM:=fun n (hn:H.n≤n)=>h.sM.under hn
 have hb:=eq_true h.bn
 have en:(strs [m,p]).length=2:=rfl
 have ei:(ints [tk]).length=1:=rfl
 have en0:(strs [m,p])[0]? = some [.str m]:=rfl
 have en1:(strs [m,p])[1]? = some [.str p]:=rfl
 have ei0:(ints [tk])[0]? = some [.int .i64 tk]:=rfl
 simp (config:={ maxDischargeDepth:=12 }) only [go_sem,reduceIte,reduceEqDiff,reduceAdd,reduceMul,reduceSub,reduceLeDiff,reduceLT,Nat.reduceBEq,reduceCtorEq,en,ei,en0,en1,ei0,l1,l2,l3,l4,l5,nT,nF,nR,nP,nM,uT,uF,uR,uP,uM,hb,hP.f0,hP.f1,hP.f2,hP.f3,hP.f4,hP.f5,hP.f6,hP.f7,hP.f8,hP.f9]
theorem e_iIn {H : Heap} {b o : Nat} {r : Reg} {V : RegV} (h : RegIs H b o r V) {num : Int} {kind text : Nm} {id off : Nat} {y : Pos} (hP : PtP H id off y) {m p : Nm} {tk : Int} {lo : Nat} {K : AV → Heap → Prop} : VO (aenter PT (R PT) lo 122 [.ptr b o, .ptr id off, .agg (evC num kind [m, p] [tk] text)] H) K = K (.int .i64 (firstI [whenI (!y.prot) 21, whenI (decide ((r.machs.length : Int) = 16)) 5])) H := by
 obtain ⟨w, H2, h1, h2⟩ := r_iIn h hP
 exact enter_p (en122 rfl) ⟨H2, h1⟩ (by rw [h2]; rfl) rfl
theorem r_iStaff {H:Heap} {b o:Nat} {r:Reg} {V:RegV} (h:RegIs H b o r V) {num:Int} {kind text:Nm} {id off:Nat} {y:Pos} (hP:PtP H id off y) {p:Nm} {tk v:Int} (hw:wrapq .i64 (Int.add y.pers v)=y.pers+v):∃ w H2,R PT (.call H.n 127 [.ptr b o,.ptr id off,.agg (evC num kind [p] [tk,v] text)] H)=some (.ofVal w H2)∧w=.int .i64 (firstI [withinI v 1 100,whenI (!y.prot) 21,whenI (decide (100 < y.pers+v)) 4]):=by
 refine R_of_body (C:=PT) (f:=127) (lo:=H.n) (args:=[.ptr b o,.ptr id off,.agg (evC num kind [p] [tk,v] text)]) (H:=H) (fn:=Tryz.f127) (Q:=fun w _=>w=.int .i64 (firstI [withinI v 1 100,whenI (!y.prot) 21,whenI (decide (100 < y.pers+v)) 4])) (by kernel_rfl) Tryz.func127 rfl rfl ?_
 have l1:=fun H'=>h.l1 (H':=H')
 have l2:=fun H'=>h.l2 (H':=H')
 have l3:=fun H'=>h.l3 (H':=H')
 have l4:=fun H'=>h.l4 (H':=H')
 have l5:=fun H'=>h.l5 (H':=H')
 have nT:=fun H'=>h.sT.len (t:=99) (by kernel_rfl) H'
 have nF:=fun H'=>h.sF.len (t:=98) (by kernel_rfl) H'
 have nR:=fun H'=>h.sR.len (t:=100) (by kernel_rfl) H'
 have nP:=fun H'=>h.sP.len (t:=101) (by kernel_rfl) H'
 have nM:=fun H'=>h.sM.len (t:=102) (by kernel_rfl) H'
 simp only [List.length_map] at nT nF nR nP nM
 have uT:=fun n (hn:H.n≤n)=>h.sT.under hn
 have uF:=fun n (hn:H.n≤n)=>h.sF.under hn
 have uR:=fun n (hn:H.n≤n)=>h.sR.under hn
 have uP:=fun n (hn:H.n≤n)=>h.sP.under hn
 have uM:=fun n (hn:H.n≤n)=>h.sM.under hn
 have hb:=eq_true h.bn
 have en:(strs [p]).length=1:=rfl
 have ei:(ints [tk,v]).length=2:=rfl
 have en0:(strs [p])[0]? = some [.str p]:=rfl
 have ei0:(ints [tk,v])[0]? = some [.int .i64 tk]:=rfl
 have ei1:(ints [tk,v])[1]? = some [.int .i64 v]:=rfl
 simp (config:={ maxDischargeDepth:=12 }) only [go_sem,reduceIte,reduceEqDiff,reduceAdd,reduceMul,reduceSub,reduceLeDiff,reduceLT,Nat.reduceBEq,reduceCtorEq,en,ei,en0,ei0,ei1,l1,l2,l3,l4,l5,nT,nF,nR,nP,nM,uT,uF,uR,uP,uM,hb,hP.f0,hP.f1,hP.f2,hP.f3,hP.f4,hP.f5,hP.f6,hP.f7,hP.f8,hP.f9,hw]
theorem e_iStaff {H : Heap} {b o : Nat} {r : Reg} {V : RegV} (h : RegIs H b o r V) {num : Int} {kind text : Nm} {id off : Nat} {y : Pos} (hP : PtP H id off y) {p : Nm} {tk v : Int} (hw : wrapq .i64 (Int.add y.pers v) = y.pers + v) {lo : Nat} {K : AV → Heap → Prop} : VO (aenter PT (R PT) lo 127 [.ptr b o, .ptr id off, .agg (evC num kind [p] [tk, v] text)] H) K = K (.int .i64 (firstI [withinI v 1 100, whenI (!y.prot) 21, whenI (decide (100 < y.pers + v)) 4])) H := by
 obtain ⟨w, H2, h1, h2⟩ := r_iStaff h hP hw
 exact enter_p (en127 rfl) ⟨H2, h1⟩ (by rw [h2]; rfl) rfl
theorem r_iOff {H:Heap} {b o:Nat} {r:Reg} {V:RegV} (h:RegIs H b o r V) {num:Int} {kind text:Nm} {id off:Nat} {y:Pos} (hP:PtP H id off y) {p:Nm} {tk v:Int}:∃ w H2,R PT (.call H.n 129 [.ptr b o,.ptr id off,.agg (evC num kind [p] [tk,v] text)] H)=some (.ofVal w H2)∧w=.int .i64 (firstI [withinI v 1 100,whenI (decide (y.pers < v)) 16]):=by
 refine R_of_body (C:=PT) (f:=129) (lo:=H.n) (args:=[.ptr b o,.ptr id off,.agg (evC num kind [p] [tk,v] text)]) (H:=H) (fn:=Tryz.f129) (Q:=fun w _=>w=.int .i64 (firstI [withinI v 1 100,whenI (decide (y.pers < v)) 16])) (by kernel_rfl) Tryz.func129 rfl rfl ?_
 have l1:=fun H'=>h.l1 (H':=H')
 have l2:=fun H'=>h.l2 (H':=H')
 have l3:=fun H'=>h.l3 (H':=H')
 have l4:=fun H'=>h.l4 (H':=H')
 have l5:=fun H'=>h.l5 (H':=H')
 have nT:=fun H'=>h.sT.len (t:=99) (by kernel_rfl) H'
 have nF:=fun H'=>h.sF.len (t:=98) (by kernel_rfl) H'
 have nR:=fun H'=>h.sR.len (t:=100) (by kernel_rfl) H'
 have nP:=fun H'=>h.sP.len (t:=101) (by kernel_rfl) H'
 have nM:=fun H'=>h.sM.len (t:=102) (by kernel_rfl) H'
 simp only [List.length_map] at nT nF nR nP nM
 have uT:=fun n (hn:H.n≤n)=>h.sT.under hn
 have uF:=fun n (hn:H.n≤n)=>h.sF.under hn
 have uR:=fun n (hn:H.n≤n)=>h.sR.under hn
 have uP:=fun n (hn:H.n≤n)=>h.sP.under hn
 have uM:=fun n (hn:H.n≤n)=>h.sM.under hn
 have hb:=eq_true h.bn
 have en:(strs [p]).length=1:=rfl
 have ei:(ints [tk,v]).length=2:=rfl
 have en0:(strs [p])[0]? = some [.str p]:=rfl
 have ei0:(ints [tk,v])[0]? = some [.int .i64 tk]:=rfl
 have ei1:(ints [tk,v])[1]? = some [.int .i64 v]:=rfl
 simp (config:={ maxDischargeDepth:=12 }) only [go_sem,reduceIte,reduceEqDiff,reduceAdd,reduceMul,reduceSub,reduceLeDiff,reduceLT,Nat.reduceBEq,reduceCtorEq,en,ei,en0,ei0,ei1,l1,l2,l3,l4,l5,nT,nF,nR,nP,nM,uT,uF,uR,uP,uM,hb,hP.f0,hP.f1,hP.f2,hP.f3,hP.f4,hP.f5,hP.f6,hP.f7,hP.f8,hP.f9]
theorem e_iOff {H : Heap} {b o : Nat} {r : Reg} {V : RegV} (h : RegIs H b o r V) {num : Int} {kind text : Nm} {id off : Nat} {y : Pos} (hP : PtP H id off y) {p : Nm} {tk v : Int} {lo : Nat} {K : AV → Heap → Prop} : VO (aenter PT (R PT) lo 129 [.ptr b o, .ptr id off, .agg (evC num kind [p] [tk, v] text)] H) K = K (.int .i64 (firstI [withinI v 1 100, whenI (decide (y.pers < v)) 16])) H := by
 obtain ⟨w, H2, h1, h2⟩ := r_iOff h hP
 exact enter_p (en129 rfl) ⟨H2, h1⟩ (by rw [h2]; rfl) rfl
theorem r_iOpen {H:Heap} {b o:Nat} {r:Reg} {V:RegV} (h:RegIs H b o r V) {num:Int} {kind text:Nm} {id off:Nat} {y:Pos} (hP:PtP H id off y) {p:Nm} {tk:Int}:∃ w H2,R PT (.call H.n 131 [.ptr b o,.ptr id off,.agg (evC num kind [p] [tk] text)] H)=some (.ofVal w H2)∧w=.int .i64 (firstI [whenI y.opn 9,whenI (decide (y.closed=8)) 5]):=by
 refine R_of_body (C:=PT) (f:=131) (lo:=H.n) (args:=[.ptr b o,.ptr id off,.agg (evC num kind [p] [tk] text)]) (H:=H) (fn:=Tryz.f131) (Q:=fun w _=>w=.int .i64 (firstI [whenI y.opn 9,whenI (decide (y.closed=8)) 5])) (by kernel_rfl) Tryz.func131 rfl rfl ?_
 have l1:=fun H'=>h.l1 (H':=H')
 have l2:=fun H'=>h.l2 (H':=H')
 have l3:=fun H'=>h.l3 (H':=H')
 have l4:=fun H'=>h.l4 (H':=H')
 have l5:=fun H'=>h.l5 (H':=H')
 have nT:=fun H'=>h.sT.len (t:=99) (by kernel_rfl) H'
 have nF:=fun H'=>h.sF.len (t:=98) (by kernel_rfl) H'
 have nR:=fun H'=>h.sR.len (t:=100) (by kernel_rfl) H'
 have nP:=fun H'=>h.sP.len (t:=101) (by kernel_rfl) H'
 have nM:=fun H'=>h.sM.len (t:=102) (by kernel_rfl) H'
 simp only [List.length_map] at nT nF nR nP nM
 have uT:=fun n (hn:H.n≤n)=>h.sT.under hn
 have uF:=fun n (hn:H.n≤n)=>h.sF.under hn
 have uR:=fun n (hn:H.n≤n)=>h.sR.under hn
 have uP:=fun n (hn:H.n≤n)=>h.sP.under hn
 have uM:=fun n (hn:H.n≤n)=>h.sM.under hn
 have hb:=eq_true h.bn
 have en:(strs [p]).length=1:=rfl
 have ei:(ints [tk]).length=1:=rfl
 have en0:(strs [p])[0]? = some [.str p]:=rfl
 have ei0:(ints [tk])[0]? = some [.int .i64 tk]:=rfl
 simp (config:={ maxDischargeDepth:=12 }) only [go_sem,reduceIte,reduceEqDiff,reduceAdd,reduceMul,reduceSub,reduceLeDiff,reduceLT,Nat.reduceBEq,reduceCtorEq,en,ei,en0,ei0,l1,l2,l3,l4,l5,nT,nF,nR,nP,nM,uT,uF,uR,uP,uM,hb,hP.f0,hP.f1,hP.f2,hP.f3,hP.f4,hP.f5,hP.f6,hP.f7,hP.f8,hP.f9]
theorem e_iOpen {H : Heap} {b o : Nat} {r : Reg} {V : RegV} (h : RegIs H b o r V) {num : Int} {kind text : Nm} {id off : Nat} {y : Pos} (hP : PtP H id off y) {p : Nm} {tk : Int} {lo : Nat} {K : AV → Heap → Prop} : VO (aenter PT (R PT) lo 131 [.ptr b o, .ptr id off, .agg (evC num kind [p] [tk] text)] H) K = K (.int .i64 (firstI [whenI y.opn 9, whenI (decide (y.closed = 8)) 5])) H := by
 obtain ⟨w, H2, h1, h2⟩ := r_iOpen h hP
 exact enter_p (en131 rfl) ⟨H2, h1⟩ (by rw [h2]; rfl) rfl
theorem r_iClose {H:Heap} {b o:Nat} {r:Reg} {V:RegV} (h:RegIs H b o r V) {num:Int} {kind text:Nm} {id off:Nat} {y:Pos} (hP:PtP H id off y) {p:Nm} {tk v:Int}:∃ w H2,R PT (.call H.n 133 [.ptr b o,.ptr id off,.agg (evC num kind [p] [tk,v] text)] H)=some (.ofVal w H2)∧w=.int .i64 (firstI [withinI v 1 400,whenI (!y.opn) 22]):=by
 refine R_of_body (C:=PT) (f:=133) (lo:=H.n) (args:=[.ptr b o,.ptr id off,.agg (evC num kind [p] [tk,v] text)]) (H:=H) (fn:=Tryz.f133) (Q:=fun w _=>w=.int .i64 (firstI [withinI v 1 400,whenI (!y.opn) 22])) (by kernel_rfl) Tryz.func133 rfl rfl ?_
 have l1:=fun H'=>h.l1 (H':=H')
 have l2:=fun H'=>h.l2 (H':=H')
 have l3:=fun H'=>h.l3 (H':=H')
 have l4:=fun H'=>h.l4 (H':=H')
 have l5:=fun H'=>h.l5 (H':=H')
 have nT:=fun H'=>h.sT.len (t:=99) (by kernel_rfl) H'
 have nF:=fun H'=>h.sF.len (t:=98) (by kernel_rfl) H'
 have nR:=fun H'=>h.sR.len (t:=100) (by kernel_rfl) H'
 have nP:=fun H'=>h.sP.len (t:=101) (by kernel_rfl) H'
 have nM:=fun H'=>h.sM.len (t:=102) (by kernel_rfl) H'
 simp only [List.length_map] at nT nF nR nP nM
 have uT:=fun n (hn:H.n≤n)=>h.sT.under hn
 have uF:=fun n (hn:H.n≤n)=>h.sF.under hn
 have uR:=fun n (hn:H.n≤n)=>h.sR.under hn
 have uP:=fun n (hn:H.n≤n)=>h.sP.under hn
 have uM:=fun n (hn:H.n≤n)=>h.sM.under hn
 have hb:=eq_true h.bn
 have en:(strs [p]).length=1:=rfl
 have ei:(ints [tk,v]).length=2:=rfl
 have en0:(strs [p])[0]? = some [.str p]:=rfl
 have ei0:(ints [tk,v])[0]? = some [.int .i64 tk]:=rfl
 have ei1:(ints [tk,v])[1]? = some [.int .i64 v]:=rfl
 simp (config:={ maxDischargeDepth:=12 }) only [go_sem,reduceIte,reduceEqDiff,reduceAdd,reduceMul,reduceSub,reduceLeDiff,reduceLT,Nat.reduceBEq,reduceCtorEq,en,ei,en0,ei0,ei1,l1,l2,l3,l4,l5,nT,nF,nR,nP,nM,uT,uF,uR,uP,uM,hb,hP.f0,hP.f1,hP.f2,hP.f3,hP.f4,hP.f5,hP.f6,hP.f7,hP.f8,hP.f9]
theorem e_iClose {H : Heap} {b o : Nat} {r : Reg} {V : RegV} (h : RegIs H b o r V) {num : Int} {kind text : Nm} {id off : Nat} {y : Pos} (hP : PtP H id off y) {p : Nm} {tk v : Int} {lo : Nat} {K : AV → Heap → Prop} : VO (aenter PT (R PT) lo 133 [.ptr b o, .ptr id off, .agg (evC num kind [p] [tk, v] text)] H) K = K (.int .i64 (firstI [withinI v 1 400, whenI (!y.opn) 22])) H := by
 obtain ⟨w, H2, h1, h2⟩ := r_iClose h hP
 exact enter_p (en133 rfl) ⟨H2, h1⟩ (by rw [h2]; rfl) rfl
theorem r_iReturn {H:Heap} {b o:Nat} {r:Reg} {V:RegV} (h:RegIs H b o r V) {num:Int} {kind text:Nm} {id off:Nat} {y:Pos} (hP:PtP H id off y) {p:Nm} {tk:Int} (hp:r.poss? y.name=some y) (hM:r.machs.length+3≤maxRows):∃ w H2,R PT (.call H.n 135 [.ptr b o,.ptr id off,.agg (evC num kind [p] [tk] text)] H)=some (.ofVal w H2)∧w=.int .i64 (firstI [whenI (decide ((0:Int) < ((holdsR r y.name y).length:Nat))) 32,whenI (decide (y.closed=0)) 7]):=by
 refine R_of_body (C:=PT) (f:=135) (lo:=H.n) (args:=[.ptr b o,.ptr id off,.agg (evC num kind [p] [tk] text)]) (H:=H) (fn:=Tryz.f135) (Q:=fun w _=>w=.int .i64 (firstI [whenI (decide ((0:Int) < ((holdsR r y.name y).length:Nat))) 32,whenI (decide (y.closed=0)) 7])) (by kernel_rfl) Tryz.func135 rfl rfl ?_
 have l1:=fun H'=>h.l1 (H':=H')
 have l2:=fun H'=>h.l2 (H':=H')
 have l3:=fun H'=>h.l3 (H':=H')
 have l4:=fun H'=>h.l4 (H':=H')
 have l5:=fun H'=>h.l5 (H':=H')
 have nT:=fun H'=>h.sT.len (t:=99) (by kernel_rfl) H'
 have nF:=fun H'=>h.sF.len (t:=98) (by kernel_rfl) H'
 have nR:=fun H'=>h.sR.len (t:=100) (by kernel_rfl) H'
 have nP:=fun H'=>h.sP.len (t:=101) (by kernel_rfl) H'
 have nM:=fun H'=>h.sM.len (t:=102) (by kernel_rfl) H'
 simp only [List.length_map] at nT nF nR nP nM
 have uT:=fun n (hn:H.n≤n)=>h.sT.under hn
 have uF:=fun n (hn:H.n≤n)=>h.sF.under hn
 have uR:=fun n (hn:H.n≤n)=>h.sR.under hn
 have uP:=fun n (hn:H.n≤n)=>h.sP.under hn
 have uM:=fun n (hn:H.n≤n)=>h.sM.under hn
 have hb:=eq_true h.bn
 have en:(strs [p]).length=1:=rfl
 have ei:(ints [tk]).length=1:=rfl
 have en0:(strs [p])[0]? = some [.str p]:=rfl
 have ei0:(ints [tk])[0]? = some [.int .i64 tk]:=rfl
 have e3:=fun Hc (ho:Old H.n H Hc) lo K=>e_holds h hp hM ho (lo:=lo) (K:=K)
 simp (config:={ maxDischargeDepth:=12 }) only [go_sem,reduceIte,reduceEqDiff,reduceAdd,reduceMul,reduceSub,reduceLeDiff,reduceLT,Nat.reduceBEq,reduceCtorEq,en,ei,en0,ei0,l1,l2,l3,l4,l5,nT,nF,nR,nP,nM,uT,uF,uR,uP,uM,hb,hP.f0,hP.f1,hP.f2,hP.f3,hP.f4,hP.f5,hP.f6,hP.f7,hP.f8,hP.f9,e3,strs_len]
theorem e_iReturn {H : Heap} {b o : Nat} {r : Reg} {V : RegV} (h : RegIs H b o r V) {num : Int} {kind text : Nm} {id off : Nat} {y : Pos} (hP : PtP H id off y) {p : Nm} {tk : Int} (hp : r.poss? y.name = some y) (hM : r.machs.length + 3 ≤ maxRows) {lo : Nat} {K : AV → Heap → Prop} : VO (aenter PT (R PT) lo 135 [.ptr b o, .ptr id off, .agg (evC num kind [p] [tk] text)] H) K = K (.int .i64 (firstI [whenI (decide ((0 : Int) < ((holdsR r y.name y).length : Nat))) 32, whenI (decide (y.closed = 0)) 7])) H := by
 obtain ⟨w, H2, h1, h2⟩ := r_iReturn h hP hp hM
 exact enter_p (en135 rfl) ⟨H2, h1⟩ (by rw [h2]; rfl) rfl
theorem r_inOpen1 {H:Heap} {b o:Nat} {r:Reg} {V:RegV} (h:RegIs H b o r V) {num:Int} {kind text:Nm} {m p:Nm} {vs:List Int} {i:Nat} {y:Pos} (hf:At (·.name) r.poss p i y) {id bx:Nat} (he:elA V.vP 10 i=.ptr id (i * 10)) (hP:PtP H id (i * 10) y) {g:FuncId} {c:Int} (hbx:bx < H.n) (hg:H.get bx=.cells [.fn g [] []] 184) (hc:y.ret=false → ∀ Hc,Old H.n H Hc → ∀ lo K,VO (aenter PT (R PT) lo g [.ptr b o,.ptr id (i * 10),.agg (evC num kind [p] vs text)] Hc) K=K (.int .i64 c) Hc):∃ w H2,R PT (.call H.n 145 [.ptr b o,.agg (evC num kind [p] vs text),.ptr bx 0] H)=some (.ofVal w H2)∧w=.int .i64 (if y.ret then 23 else c):=by
 refine R_of_body (C:=PT) (f:=145) (lo:=H.n) (args:=[.ptr b o,.agg (evC num kind [p] vs text),.ptr bx 0]) (H:=H) (fn:=Tryz.f145) (Q:=fun w _=>w=.int .i64 (if y.ret then 23 else c)) (by kernel_rfl) Tryz.func145 rfl rfl ?_
 have en:(strs [p]).length=1:=rfl
 have enl:(strs [p])[0]? = some [.str p]:=rfl
 have hw:wrapq .i64 (Int.sub (1:Nat) 1)=((0:Nat):Int):=rfl
 have hne:(bx=H.n)=False:=eq_false (by omega)
 have e1:=fun Hc (ho:Old H.n H Hc) lo K=>e_poss h hf.idx hf.lt ho (lo:=lo) (K:=K)
 cases hr:y.ret with
 | true =>
   have hr4:=fun (H':Heap) (ho:Old H.n H H')=>hP.f4 ho
   rw [hr] at hr4
   simp (config:={ maxDischargeDepth:=12 }) only [go_sem,reduceIte,reduceEqDiff,reduceAdd,reduceMul,reduceSub,reduceLeDiff,reduceLT,Nat.reduceBEq,reduceCtorEq,en,enl,hw,e1,he,hr4,hne,hg]
 | false =>
   have hr4:=fun (H':Heap) (ho:Old H.n H H')=>hP.f4 ho
   rw [hr] at hr4
   have hc:=hc hr
   simp (config:={ maxDischargeDepth:=12 }) only [go_sem,reduceIte,reduceEqDiff,reduceAdd,reduceMul,reduceSub,reduceLeDiff,reduceLT,Nat.reduceBEq,reduceCtorEq,en,enl,hw,e1,he,hr4,hne,hg,hc]
theorem e_inOpen1 {H : Heap} {b o : Nat} {r : Reg} {V : RegV} (h : RegIs H b o r V) {num : Int} {kind text : Nm} {m p : Nm} {vs : List Int} {i : Nat} {y : Pos} (hf : At (·.name) r.poss p i y) {id bx : Nat} (he : elA V.vP 10 i = .ptr id (i * 10)) (hP : PtP H id (i * 10) y) {g : FuncId} {c : Int} (hbx : bx < H.n) (hg : H.get bx = .cells [.fn g [] []] 184) (hc : y.ret = false → ∀ Hc, Old H.n H Hc → ∀ lo K, VO (aenter PT (R PT) lo g [.ptr b o, .ptr id (i * 10), .agg (evC num kind [p] vs text)] Hc) K = K (.int .i64 c) Hc) {lo : Nat} {K : AV → Heap → Prop} : VO (aenter PT (R PT) lo 145 [.ptr b o, .agg (evC num kind [p] vs text), .ptr bx 0] H) K = K (.int .i64 (if y.ret then 23 else c)) H := by
 obtain ⟨w, H2, h1, h2⟩ := r_inOpen1 (m := m) h hf he hP hbx hg hc
 exact enter_p (en145 rfl) ⟨H2, h1⟩ (by rw [h2]; rfl) rfl
theorem r_inOpen2 {H:Heap} {b o:Nat} {r:Reg} {V:RegV} (h:RegIs H b o r V) {num:Int} {kind text:Nm} {m p:Nm} {vs:List Int} {i:Nat} {y:Pos} (hf:At (·.name) r.poss p i y) {id bx:Nat} (he:elA V.vP 10 i=.ptr id (i * 10)) (hP:PtP H id (i * 10) y) {g:FuncId} {c:Int} (hbx:bx < H.n) (hg:H.get bx=.cells [.fn g [] []] 184) (hc:y.ret=false → ∀ Hc,Old H.n H Hc → ∀ lo K,VO (aenter PT (R PT) lo g [.ptr b o,.ptr id (i * 10),.agg (evC num kind [m,p] vs text)] Hc) K=K (.int .i64 c) Hc):∃ w H2,R PT (.call H.n 145 [.ptr b o,.agg (evC num kind [m,p] vs text),.ptr bx 0] H)=some (.ofVal w H2)∧w=.int .i64 (if y.ret then 23 else c):=by
 refine R_of_body (C:=PT) (f:=145) (lo:=H.n) (args:=[.ptr b o,.agg (evC num kind [m,p] vs text),.ptr bx 0]) (H:=H) (fn:=Tryz.f145) (Q:=fun w _=>w=.int .i64 (if y.ret then 23 else c)) (by kernel_rfl) Tryz.func145 rfl rfl ?_
 have en:(strs [m,p]).length=2:=rfl
 have enl:(strs [m,p])[1]? = some [.str p]:=rfl
 have hw:wrapq .i64 (Int.sub (2:Nat) 1)=((1:Nat):Int):=rfl
 have hne:(bx=H.n)=False:=eq_false (by omega)
 have e1:=fun Hc (ho:Old H.n H Hc) lo K=>e_poss h hf.idx hf.lt ho (lo:=lo) (K:=K)
 cases hr:y.ret with
 | true =>
   have hr4:=fun (H':Heap) (ho:Old H.n H H')=>hP.f4 ho
   rw [hr] at hr4
   simp (config:={ maxDischargeDepth:=12 }) only [go_sem,reduceIte,reduceEqDiff,reduceAdd,reduceMul,reduceSub,reduceLeDiff,reduceLT,Nat.reduceBEq,reduceCtorEq,en,enl,hw,e1,he,hr4,hne,hg]
 | false =>
   have hr4:=fun (H':Heap) (ho:Old H.n H H')=>hP.f4 ho
   rw [hr] at hr4
   have hc:=hc hr
   simp (config:={ maxDischargeDepth:=12 }) only [go_sem,reduceIte,reduceEqDiff,reduceAdd,reduceMul,reduceSub,reduceLeDiff,reduceLT,Nat.reduceBEq,reduceCtorEq,en,enl,hw,e1,he,hr4,hne,hg,hc]
theorem e_inOpen2 {H : Heap} {b o : Nat} {r : Reg} {V : RegV} (h : RegIs H b o r V) {num : Int} {kind text : Nm} {m p : Nm} {vs : List Int} {i : Nat} {y : Pos} (hf : At (·.name) r.poss p i y) {id bx : Nat} (he : elA V.vP 10 i = .ptr id (i * 10)) (hP : PtP H id (i * 10) y) {g : FuncId} {c : Int} (hbx : bx < H.n) (hg : H.get bx = .cells [.fn g [] []] 184) (hc : y.ret = false → ∀ Hc, Old H.n H Hc → ∀ lo K, VO (aenter PT (R PT) lo g [.ptr b o, .ptr id (i * 10), .agg (evC num kind [m, p] vs text)] Hc) K = K (.int .i64 c) Hc) {lo : Nat} {K : AV → Heap → Prop} : VO (aenter PT (R PT) lo 145 [.ptr b o, .agg (evC num kind [m, p] vs text), .ptr bx 0] H) K = K (.int .i64 (if y.ret then 23 else c)) H := by
 obtain ⟨w, H2, h1, h2⟩ := r_inOpen2 (m := m) h hf he hP hbx hg hc
 exact enter_p (en145 rfl) ⟨H2, h1⟩ (by rw [h2]; rfl) rfl
structure HisIs (H:Heap) (hb:Nat) (es cs:List Ev) (r:Reg) (V:RegV) (vE vC:AV):Prop where
 blk:H.get hb=.cells (vE::vC::regC r V) 106
 reg:RegIs H hb 2 r V
 aE:Pos.SV 5 70 H vE (es.map Pos.Ev.row)
 aC:Pos.SV 5 70 H vC (cs.map Pos.Ev.row)
 dis:∀ i j a b c d a' b' c' d',vE=.rs i a b c d→vC=.rs j a' b' c' d'→i ≠ j
 lE:es.length≤1000
 lC:cs.length≤1000
section
variable {H H':Heap} {hb:Nat} {es cs:List Ev} {r:Reg} {V:RegV} {vE vC:AV}
theorem HisIs.old (h:HisIs H hb es cs r V vE vC) (ho:Old H.n H H'):HisIs H' hb es cs r V vE vC :=
 ⟨by rw [ho.2 hb h.reg.bn];exact h.blk,h.reg.old ho,sv_old h.aE ho,sv_old h.aC ho,h.dis,h.lE,h.lC⟩
theorem HisIs.ld (h:HisIs H hb es cs r V vE vC) {i:Nat} {v:AV} (hi:(vE::vC::regC r V)[i]? = some v) {t:TypeId} (hs:(szOf NC.P t).isSome=true) (hg:aggOf NC.P t=some false) (ho:Old H.n H H'):sld H' t (.ptr hb i)=some v:=by
 have hlt:i < (vE::vC::regC r V).length:=(List.getElem?_eq_some_iff.1 hi).1
 obtain ⟨n,hn⟩:=Option.isSome_iff_exists.1 hs
 have hsub:sub? (vE::vC::regC r V) i 1=some [v]:=by
  unfold sub?
  rw [if_pos (by omega),List.drop_eq_getElem_cons hlt,(List.getElem?_eq_some_iff.1 hi).2]
  rfl
 show aload NC.P H' t (.ptr hb i)=some v
 unfold aload
 simp only [hn,hg,readCells,ho.2 hb h.reg.bn,h.blk,blkCells,if_false,hsub,loadV,Bool.false_eq_true]
theorem HisIs.h0 (h:HisIs H hb es cs r V vE vC) (ho:Old H.n H H'):sld H' 25 (.ptr hb 0)=some vE:=h.ld (i:=0) rfl (by kernel_rfl) (by kernel_rfl) ho
theorem HisIs.h1 (h:HisIs H hb es cs r V vE vC) (ho:Old H.n H H'):sld H' 25 (.ptr hb 1)=some vC:=h.ld (i:=1) rfl (by kernel_rfl) (by kernel_rfl) ho
theorem HisIs.h2 (h:HisIs H hb es cs r V vE vC) (ho:Old H.n H H'):sld H' 3 (.ptr hb 2)=some (.int .i64 r.tick):=h.ld (i:=2) rfl (by kernel_rfl) (by kernel_rfl) ho
end
theorem e_known {H : Heap} {b o : Nat} {r : Reg} {V : RegV} (h : RegIs H b o r V) {nm : List Nat} {fv : Int} {f1 f2 : FuncId} {l1 l2 : List AV} {num : Int} {kind text : Nm} {names : List Nm} {vals : List Int} (hb : ∀ c ∈ nm, c < 128) (hl : names.length = nm.length) (hs : nm.length ≤ 2) {Hc : Heap} (ho : Old H.n H Hc) {lo : Nat} {K : AV → Heap → Prop} : VO (aenter PT (R PT) lo 76 [.ptr b o, .agg [.str nm, .int .i64 fv, .fn f1 [] l1, .fn f2 [] l2], .agg (evC num kind names vals text)] Hc) K = K (.int .i64 (knownG r nm names false)) Hc := by
 obtain ⟨w, H2, h1, h2⟩ := r_known (h.old ho) (fv := fv) (f1 := f1) (f2 := f2) (l1 := l1) (l2 := l2) (e := ⟨num, kind, names, vals, text⟩) hb hl hs rfl
 exact enter_p (en76 rfl) ⟨H2, h1⟩ (by rw [h2]; rfl) rfl
theorem en46 {P:FuncId→Option (List AV→Option AV)} (hP:P 46=none) {lo:Nat} {args:List AV} {H:Heap} {K:AV→Heap→Prop}:VO (aenter (NC.withPrims P) (R (NC.withPrims P)) lo 46 args H) K=AO (R (NC.withPrims P) (.call H.n 46 args H)) fun o=>o.val.strip.pure=true∧K o.val.strip H:=by
 refine enter_pure rfl ?_ (by kernel_rfl) (by kernel_rfl) (by kernel_rfl)
 show (match NC.prim 46 with | some p=>some p | none=>P 46)=none
 rw [hP];kernel_rfl
theorem r_accepts {H:Heap} {hb:Nat} {es cs:List Ev} {r:Reg} {V:RegV} {vE vC:AV} (h:HisIs H hb es cs r V vE vC) {num tk:Int} {kind text:Nm} {names:List Nm} {vs:List Int} (hk:kind ≠ Pos.kUndo)
 {nm:List Nat} {fv c:Int} {f1 f2:FuncId} {l1 l2:Nat→List AV} (hlk:∀ n,lkS kind (formsM n)=some (.agg [.str nm,.int .i64 fv,.fn f1 [] (l1 n),.fn f2 [] (l2 n)])) (hst:∀ n,(l1 n).map strp=l1 n) (hu1:∀ n m,n+17≤m→underAll m (l1 n)=true) (hu2:∀ n m,n+17≤m→underAll m (l2 n)=true)
 (hb1:∀ x ∈ nm,x < 128) (hl:names.length=nm.length) (hs:nm.length≤2)
 (hchk:knownG r nm names false=0 → ∀ n Hc,FormsAt n Hc→n+17≤Hc.n→Old H.n H Hc → ∀ lo K,VO (aenter PT (R PT) lo f1 (.ptr hb 2 :: .agg (evC num kind names (tk::vs) text)::l1 n) Hc) K=K (.int .i64 c) Hc) :
 ∃ w H2,R PT (.call H.n 46 [.ptr hb 0,.agg (evC num kind names (tk::vs) text)] H)=some (.ofVal w H2)∧w=.int .i64 (if num ≠ (es.length:Int)+1 then 11 else if tk < r.tick then 22 else if knownG r nm names false ≠ 0 then knownG r nm names false else c):=by
 refine R_of_body (C:=PT) (f:=46) (lo:=H.n) (args:=[.ptr hb 0,.agg (evC num kind names (tk::vs) text)]) (H:=H) (fn:=Tryz.f46) (Q:=fun w _=>w=.int .i64 (if num ≠ (es.length:Int)+1 then 11 else if tk < r.tick then 22 else if knownG r nm names false ≠ 0 then knownG r nm names false else c)) (by kernel_rfl) Tryz.func46 rfl rfl ?_
 have hh0:=fun H'=>h.h0 (H':=H')
 have hh2:=fun H'=>h.h2 (H':=H')
 have nE:=fun H'=>(sv_sl h.aE).len (t:=25) (by kernel_rfl) H'
 simp only [List.length_map] at nE
 have uE:=fun n (hn:H.n≤n)=>(sv_sl h.aE).under hn
 have hbn:=eq_true h.reg.bn
 have hw:wrapq .i64 (Int.add (es.length:Int) 1)=(es.length:Int)+1:=by
  have:=h.lE
  exact wrap_nat (n:=es.length+1) (by omega)
 have hku:beqL kind [117,110,100,111]=false:=by rw [beqL_dec];exact decide_eq_false hk
 have ei:(0 < (ints (tk::vs)).length)=True:=eq_true (by rw [ints_len];exact Nat.succ_pos _)
 have ei0:(ints (tk::vs))[0]? = some [.int .i64 tk]:=rfl
 by_cases c1:¬ num=(es.length:Int)+1
 · rw [if_pos c1]
   simp (config:={ maxDischargeDepth:=12 }) only [go_sem,reduceIte,reduceEqDiff,reduceAdd,reduceMul,reduceSub,reduceLeDiff,reduceLT,Nat.reduceBEq,reduceCtorEq,hh0,nE,uE,hbn,hw,c1]
 rw [if_neg c1]
 have c1:=Decidable.not_not.1 c1
 by_cases c2:tk < r.tick
 · rw [if_pos c2]
   simp (config:={ maxDischargeDepth:=12 }) only [go_sem,reduceIte,reduceEqDiff,reduceAdd,reduceMul,reduceSub,reduceLeDiff,reduceLT,Nat.reduceBEq,reduceCtorEq,hh0,hh2,nE,uE,hbn,hw,eq_true c1,eq_true c2,hku,ei,ei0]
 rw [if_neg c2]
 have hO1:Old H.n H (H.push (.cells (evC num kind names (tk::vs) text) 70)):=(Old.refl H).push _
 obtain ⟨H',hr,hn',hk',hF⟩:=r_forms (P:=PPT) (by rfl) (by rfl) (H.n+1) (H.push (.cells (evC num kind names (tk::vs) text) 70)) (Nat.le_refl _)
 have hlk2:=(look_S hF.map (keys_forms _) kind).2
 have hn1:(H.push (.cells (evC num kind names (tk::vs) text) 70)).n=H.n+1:=rfl
 rw [hn1] at hr hn' hlk2 hF
 rw [hlk] at hlk2
 have hO2:Old H.n H H':=⟨by omega,fun i hi=>by rw [hk' i (by rw [hn1];omega),hO1.2 i hi]⟩
 have hev:H'.get H.n=.cells (evC num kind names (tk::vs) text) 70:=by rw [hk' _ (by rw [hn1];omega),get_p]
 have hHc:Old H.n H ((H'.push (.cells [.str [],.int .i64 0,.nilf,.nilf] 149)).set H'.n (.cells [.str nm,.int .i64 fv,.fn f1 [] (l1 (H.n+1)),.fn f2 [] (l2 (H.n+1))] 149)):=hO2.new _ _
 have hkn:=fun lo K=>e_known h.reg (fv:=fv) (f1:=f1) (f2:=f2) (l1:=l1 (H.n+1)) (l2:=l2 (H.n+1)) (num:=num) (kind:=kind) (text:=text) (vals:=tk::vs) hb1 hl hs hHc (lo:=lo) (K:=K)
 have u1:=hu1 (H.n+1) (H'.n+1) (by omega)
 have u2:=hu2 (H.n+1) (H'.n+1) (by omega)
 have hbn':(hb < H'.n+1)=True:=eq_true (by have:=h.reg.bn;omega)
 have hne:(H.n=H'.n)=False:=eq_false (by omega)
 have hle:(H.n≤H'.n)=True:=eq_true (by omega)
 have hst1:=hst (H.n+1)
 have hlt1:(H.n+1 < H'.n)=True:=eq_true (by omega)
 by_cases c3:knownG r nm names false=0
 · rw [if_neg (by simpa using c3)]
   have hck:=fun lo K=>hchk c3 (H.n+1) _ ⟨by rw [Heap.get_set,if_neg (by omega),Heap.get_push,if_neg (by omega)];exact hF.map,fun j j1 j2=>by rw [Heap.get_set,if_neg (by omega),Heap.get_push,if_neg (by omega)];exact hF.box j j1 j2⟩ (by simp;omega) hHc lo K
   simp (config:={ maxDischargeDepth:=12 }) only [go_sem,reduceIte,reduceEqDiff,reduceAdd,reduceMul,reduceSub,reduceLeDiff,reduceLT,Nat.reduceBEq,reduceCtorEq,hh0,hh2,nE,uE,hbn,hw,eq_true c1,c2,hku,ei,ei0,en70 (P:=PPT) rfl,hr,hev,hlk2,hkn,hck,u1,u2,hbn',hne,hle,hlt1,hst1,hHc,eq_true c3]
 · rw [if_pos c3]
   simp (config:={ maxDischargeDepth:=12 }) only [go_sem,reduceIte,reduceEqDiff,reduceAdd,reduceMul,reduceSub,reduceLeDiff,reduceLT,Nat.reduceBEq,reduceCtorEq,hh0,hh2,nE,uE,hbn,hw,eq_true c1,c2,hku,ei,ei0,en70 (P:=PPT) rfl,hr,hev,hlk2,hkn,u1,u2,hbn',hne,hle,hlt1,hst1,hHc,c3]
end Go.Sim

namespace Go.Sim.Pos
open Go.Sim
def evOf (num tk:Int):Act→Ev
 | .track t v=>⟨num,kTrack,[t],[tk,v],[]⟩
 | .fault f t a b v=>⟨num,kFault,[f,t],[tk,a,b,v],[]⟩
 | .answer f=>⟨num,kAnswer,[f],[tk],[]⟩
 | .repair f p=>⟨num,kRepair,[f,p],[tk],[]⟩
 | .enter x t v=>⟨num,kEnter,[x,t],[tk,v],[]⟩
 | .leave x=>⟨num,kLeave,[x],[tk],[]⟩
 | .take p t a b=>⟨num,kTake,[p,t],[tk,a,b],[]⟩
 | .prot p=>⟨num,kProtect,[p],[tk],[]⟩
 | .clear p=>⟨num,kClear,[p],[tk],[]⟩
 | .into m p=>⟨num,kIn,[m,p],[tk],[]⟩
 | .out m=>⟨num,kOut,[m],[tk],[]⟩
 | .staff p v=>⟨num,kStaff,[p],[tk,v],[]⟩
 | .off p v=>⟨num,kOff,[p],[tk,v],[]⟩
 | .opn p=>⟨num,kOpen,[p],[tk],[]⟩
 | .close p v=>⟨num,kClose,[p],[tk,v],[]⟩
 | .ret p=>⟨num,kReturn,[p],[tk],[]⟩
 | .raise p v=>⟨num,kRaise,[p],[tk,v],[]⟩
theorem ev_of {e:Ev} {tk:Int} {a:Act} (ht:e.text=[]) (ha:actE e=some (tk,a)):e=evOf e.num tk a:=by
 obtain ⟨num,kind,names,vals,text⟩:=e
 simp only at ht
 subst ht
 have go:∀ {p:Prop} [Decidable p] {u v:Option TA},(if p then u else v)=some (tk,a)→(p∧u=some (tk,a))∨v=some (tk,a):=fun {p} _ {u v} h=>by
  split at h
  · exact .inl ⟨‹_›,h⟩
  · exact .inr h
 unfold actE at ha
 simp only at ha
 iterate 17
  rcases go ha with ⟨hk,hu⟩ | ha
  · split at hu
    · cases hu
      rw [hk]
      rfl
    · cases hu
 cases ha
theorem chk_ev (nm:Nm→Bool) {e:Ev} (h:chkE nm e=0) (hu:e.kind ≠ kUndo):∃ tk a,actE e=some (tk,a)∧e=evOf e.num tk a∧0≤tk∧tk≤999999999:=by
 obtain ⟨a,ha⟩:=good_act nm h hu
 obtain ⟨_,_,_,_,_,_,_,ht,_⟩:=chk_form nm h
 obtain ⟨h1,h2,_⟩:=chk_more nm h ha
 exact ⟨_,a,ha,ev_of ht ha,h1,h2⟩
theorem chk_undo (nm:Nm→Bool) {e:Ev} (h:chkE nm e=0) (hu:e.kind=kUndo):e=⟨e.num,kUndo,[],[],[]⟩:=by
 obtain ⟨_,_,_,_,_,_,_,ht,_⟩:=chk_form nm h
 rcases chk_act nm h with ⟨h1,h2,h3⟩ | ⟨h1,_⟩
 · obtain ⟨num,kind,names,vals,text⟩:=e
   simp only at h1 h2 h3 ht
   rw [h1,h2,h3,ht]
 · exact absurd hu h1
theorem mem_find {α:Type} {nm:α→Nm} {x:Nm} {l:List α}:x ∈ l.map nm ↔ (l.find? fun y=>decide (nm y=x)).isSome=true:=by
 constructor
 · intro h
   obtain ⟨y,hy,rfl⟩:=List.mem_map.1 h
   cases hf:l.find? fun z=>decide (nm z=nm y) with
   | some z=>rfl
   | none =>
     rw [List.find?_eq_none] at hf
     have:=hf y hy
     simp at this
 · intro h
   obtain ⟨y,hy⟩:=Option.isSome_iff_exists.1 h
   have h1:=List.mem_of_find?_eq_some hy
   have h2:=List.find?_some hy
   simp only [decide_eq_true_eq] at h2
   rw [← h2]
   exact List.mem_map_of_mem h1
theorem in_track (r:Reg) (x:Nm):(x ∈ namesR r 116)=((r.track? x).isSome=true):=propext (mem_find (nm:=Trk.name))
theorem in_fault (r:Reg) (x:Nm):(x ∈ namesR r 102)=((r.fault? x).isSome=true):=propext (mem_find (nm:=Flt.name))
theorem in_train (r:Reg) (x:Nm):(x ∈ namesR r 114)=((r.train? x).isSome=true):=propext (mem_find (nm:=Trn.name))
theorem in_poss (r:Reg) (x:Nm):(x ∈ namesR r 112)=((r.poss? x).isSome=true):=propext (mem_find (nm:=Pos.name))
theorem in_mach (r:Reg) (x:Nm):(x ∈ namesR r 109)=((r.mach? x).isSome=true):=propext (mem_find (nm:=Mch.name))
theorem kn_new1 (r:Reg) (c:Nat) (h:c < 97) (x:Nm):knownG r [c] [x] false=if x ∈ namesR r ((c+32:Nat):Int) then 9 else 0:=by
 rw [knownG_cons]
 simp only [h,decide_true,Bool.not_true,Bool.false_and,Bool.false_eq_true,if_false,if_true,Bool.true_and,Bool.false_or]
 show whenI _ 9=_
 unfold whenI
 by_cases hm:x ∈ namesR r ((c+32:Nat):Int)<;>simp [hm]
theorem kn_old1 (r:Reg) (c:Nat) (h:¬ c < 97) (x:Nm):knownG r [c] [x] false=if x ∈ namesR r (c:Int) then 0 else 10:=by
 rw [knownG_cons]
 simp only [h,decide_false,Bool.not_false,Bool.true_and,if_false,Bool.false_and,Bool.or_false]
 by_cases hm:x ∈ namesR r (c:Int)
 · simp only [hm,decide_true,Bool.not_true,Bool.false_eq_true,if_false,if_true];rfl
 · simp only [hm,decide_false,Bool.not_false,if_true,if_false]
theorem kn_new2 (r:Reg) (c d:Nat) (h:c < 97) (h':¬ d < 97) (x y:Nm):knownG r [c,d] [x,y] false=if y ∈ namesR r (d:Int) then (if x ∈ namesR r ((c+32:Nat):Int) then 9 else 0) else 10:=by
 rw [knownG_cons]
 simp only [h,decide_true,Bool.not_true,Bool.false_and,Bool.false_eq_true,if_false,if_true,Bool.true_and,Bool.false_or]
 rw [knownG_cons]
 simp only [h',decide_false,Bool.not_false,Bool.true_and,if_false,Bool.false_and,Bool.or_false]
 by_cases hm:y ∈ namesR r (d:Int)
 · simp only [hm,decide_true,Bool.not_true,Bool.false_eq_true,if_false,if_true]
   show whenI _ 9=_
   unfold whenI
   by_cases hx:x ∈ namesR r ((c+32:Nat):Int)<;>simp [hx]
 · simp only [hm,decide_false,Bool.not_false,if_true,if_false]
theorem kn_old2 (r:Reg) (c d:Nat) (h:¬ c < 97) (h':¬ d < 97) (x y:Nm):knownG r [c,d] [x,y] false=if x ∈ namesR r (c:Int) then (if y ∈ namesR r (d:Int) then 0 else 10) else 10:=by
 rw [knownG_cons]
 simp only [h,decide_false,Bool.not_false,Bool.true_and,if_false,Bool.false_and,Bool.or_false]
 by_cases hm:x ∈ namesR r (c:Int)
 · simp only [hm,decide_true,Bool.not_true,Bool.false_eq_true,if_false,if_true]
   exact kn_old1 r d h' y
 · simp only [hm,decide_false,Bool.not_false,if_true,if_false]
end Go.Sim.Pos

namespace Go.Sim.Pos
open Go.Sim
theorem fst_when (b:Bool) (e:Int) (l:List Int) (he:e ≠ 0):firstI (whenI b e::l)=if b=true then e else firstI l:=by
 cases b
 · simp [firstI,whenI]
 · simp [firstI,whenI,he]
theorem fst_nil:firstI []=0:=rfl
theorem fst_within (n a b:Int) (l:List Int):firstI (withinI n a b::l)=if n < a∨b < n then 3 else firstI l:=by
 unfold withinI
 rw [fst_when _ _ _ (by decide)]
 simp only [Bool.or_eq_true,decide_eq_true_eq]
theorem fst_span (a b:Int) (l:List Int):firstI (spanI a b::l)=if b≤a∨100000000 < b then 14 else firstI l:=by
 unfold spanI
 rw [fst_when _ _ _ (by decide)]
 simp only [Bool.or_eq_true,decide_eq_true_eq,Bool.not_eq_true',decide_eq_false_iff_not,Int.not_lt]
theorem ok_now {r:Reg} {tk:Int} {a:Act} (h:¬ tk < r.tick):okA r tk a=okA r r.tick a:=by
 unfold okA
 rw [if_neg h,if_neg (Int.lt_irrefl _)]
section
variable {r:Reg} (I:Inv r) (S:Safe r)
theorem k_track {t:Nm} {v:Int} (S:Safe r):(knownG r [84] [t] false ≠ 0∧okA r r.tick (.track t v)=knownG r [84] [t] false)∨(knownG r [84] [t] false=0∧okA r r.tick (.track t v)=firstI [withinI v 1 400,whenI (decide ((r.tracks.length:Int)=8)) 5]):=by
 rw [kn_new1 r 84 (by decide),show ((84+32:Nat):Int)=116 from rfl]
 simp only [in_track]
 unfold okA
 rw [if_neg (Int.lt_irrefl _),fst_within,fst_when _ _ _ (by decide),fst_nil]
 have h8:((decide ((r.tracks.length:Int)=8))=true)=(8≤r.tracks.length):=by
  have:=S.nT
  simp only [decide_eq_true_eq,eq_iff_iff];omega
 simp only [h8]
 cases r.track? t with
 | none=>exact .inr ⟨rfl,rfl⟩
 | some y=>exact .inl ⟨by simp,rfl⟩
theorem k_fault {f t:Nm} {a b v:Int} (S:Safe r) (hv:0≤v):(knownG r [70,116] [f,t] false ≠ 0∧okA r r.tick (.fault f t a b v)=knownG r [70,116] [f,t] false)∨(knownG r [70,116] [f,t] false=0∧okA r r.tick (.fault f t a b v)=firstI [spanI a b,withinI v 0 400,whenI (decide ((r.faults.length:Int)=64)) 5]):=by
 rw [kn_new2 r 70 116 (by decide) (by decide),show ((70+32:Nat):Int)=102 from rfl,show ((116:Nat):Int)=116 from rfl]
 simp only [in_track,in_fault]
 unfold okA
 rw [if_neg (Int.lt_irrefl _),fst_span,fst_within,fst_when _ _ _ (by decide),fst_nil]
 have h8:((decide ((r.faults.length:Int)=64))=true)=(64≤r.faults.length):=by
  have:=S.nF
  simp only [decide_eq_true_eq,eq_iff_iff];omega
 have h9:(v < 0∨400 < v)=(400 < v):=by
  simp only [eq_iff_iff];omega
 simp only [h8,h9]
 cases r.track? t with
 | none=>exact .inl ⟨by simp,rfl⟩
 | some y =>
   cases r.fault? f with
   | none=>exact .inr ⟨rfl,rfl⟩
   | some z=>exact .inl ⟨by simp,rfl⟩
theorem k_answer {f:Nm}:(knownG r [102] [f] false ≠ 0∧okA r r.tick (.answer f)=knownG r [102] [f] false)∨(knownG r [102] [f] false=0 ∧ ∃ y,r.fault? f=some y∧okA r r.tick (.answer f)=firstI [whenI y.rep 23,whenI y.ans 9]):=by
 rw [kn_old1 r 102 (by decide),show ((102:Nat):Int)=102 from rfl]
 simp only [in_fault]
 unfold okA
 rw [if_neg (Int.lt_irrefl _)]
 simp only
 cases r.fault? f with
 | none=>exact .inl ⟨by simp,rfl⟩
 | some y=>exact .inr ⟨rfl,y,rfl,by rw [fst_when _ _ _ (by decide),fst_when _ _ _ (by decide),fst_nil]⟩
theorem k_repair {f p:Nm} (S:Safe r):(knownG r [102,112] [f,p] false ≠ 0∧okA r r.tick (.repair f p)=knownG r [102,112] [f,p] false)∨(knownG r [102,112] [f,p] false=0 ∧ ∃ y q,r.fault? f=some y∧r.poss? p=some q∧okA r r.tick (.repair f p)=firstI [whenI y.rep 23,whenI (q.ret || !decide (q.track=y.track) || (decide (y.frm < q.frm) || decide (q.to < y.to))) 21,whenI (decide (((r.within q.name).length:Int)=0) && decide (q.pers=0)) 12]):=by
 rw [kn_old2 r 102 112 (by decide) (by decide),show ((102:Nat):Int)=102 from rfl,show ((112:Nat):Int)=112 from rfl]
 simp only [in_fault,in_poss]
 unfold okA
 rw [if_neg (Int.lt_irrefl _)]
 simp only
 cases hf:r.fault? f with
 | none=>exact .inl ⟨by simp,rfl⟩
 | some y =>
   cases hp:r.poss? p with
   | none=>exact .inl ⟨by simp,rfl⟩
   | some q =>
     have hq:q.name=p:=by have:=(find_mem hp).2;simpa using this
     refine .inr ⟨rfl,y,q,rfl,rfl, ?_⟩
     rw [fst_when _ _ _ (by decide),fst_when _ _ _ (by decide),fst_when _ _ _ (by decide),fst_nil,hq]
     simp only [Bool.or_eq_true,Bool.and_eq_true,decide_eq_true_eq,Bool.not_eq_true',decide_eq_false_iff_not,or_assoc]
     have e1:(((r.within p).length:Int)=0∧q.pers=0)=(q.pers=0∧r.within p=[]):=by
      simp only [eq_iff_iff,← List.length_eq_zero_iff];omega
     simp only [e1,ne_eq]
theorem k_enter {x t:Nm} {v:Int} (S:Safe r):(knownG r [82,116] [x,t] false ≠ 0∧okA r r.tick (.enter x t v)=knownG r [82,116] [x,t] false)∨(knownG r [82,116] [x,t] false=0 ∧ ∃ y,r.track? t=some y∧okA r r.tick (.enter x t v)=firstI [whenI (r.taken t) 31,whenI (r.silentOn t) 32,whenI (decide (v < 1) || decide (r.permitted t < v)) 20,whenI (decide ((r.trains.length:Int)=16)) 5]):=by
 rw [kn_new2 r 82 116 (by decide) (by decide),show ((82+32:Nat):Int)=114 from rfl,show ((116:Nat):Int)=116 from rfl]
 simp only [in_track,in_train]
 unfold okA
 rw [if_neg (Int.lt_irrefl _),fst_when _ _ _ (by decide),fst_when _ _ _ (by decide),fst_when _ _ _ (by decide),fst_when _ _ _ (by decide),fst_nil]
 have h8:((decide ((r.trains.length:Int)=16))=true)=(16≤r.trains.length):=by
  have:=S.nN
  simp only [decide_eq_true_eq,eq_iff_iff];omega
 simp only [h8,Bool.or_eq_true,decide_eq_true_eq]
 cases r.track? t with
 | none=>exact .inl ⟨by simp,rfl⟩
 | some y =>
   cases r.train? x with
   | none=>exact .inr ⟨rfl,y,rfl,rfl⟩
   | some z=>exact .inl ⟨by simp,rfl⟩
theorem k_leave {x:Nm}:(knownG r [114] [x] false ≠ 0∧okA r r.tick (.leave x)=knownG r [114] [x] false)∨(knownG r [114] [x] false=0∧okA r r.tick (.leave x)=0):=by
 rw [kn_old1 r 114 (by decide),show ((114:Nat):Int)=114 from rfl]
 simp only [in_train]
 unfold okA
 rw [if_neg (Int.lt_irrefl _)]
 simp only
 cases r.train? x with
 | none=>exact .inl ⟨by simp,rfl⟩
 | some y=>exact .inr ⟨rfl,rfl⟩
theorem k_out {x:Nm}:(knownG r [109] [x] false ≠ 0∧okA r r.tick (.out x)=knownG r [109] [x] false)∨(knownG r [109] [x] false=0∧okA r r.tick (.out x)=0):=by
 rw [kn_old1 r 109 (by decide),show ((109:Nat):Int)=109 from rfl]
 simp only [in_mach]
 unfold okA
 rw [if_neg (Int.lt_irrefl _)]
 simp only
 cases r.mach? x with
 | none=>exact .inl ⟨by simp,rfl⟩
 | some y=>exact .inr ⟨rfl,rfl⟩
theorem ov_eq {t:Nm} {a b:Int} (S:Safe r) (h:a < b):ovR r t a b=r.overlaps t a b:=by
 unfold ovR Reg.overlaps
 rw [Bool.eq_iff_iff,List.any_eq_true,List.any_eq_true]
 refine exists_congr fun p=>and_congr_right fun hp => ?_
 have:=S.span p hp
 unfold openB ovP over maxI Go.Sim.minI
 simp only [Bool.and_eq_true,Bool.or_eq_true,decide_eq_true_eq,Bool.not_eq_true']
 refine and_congr_right fun _ => ?_
 split<;>split<;>omega
theorem k_take {p t:Nm} {a b:Int} (S:Safe r):(knownG r [80,116] [p,t] false ≠ 0∧okA r r.tick (.take p t a b)=knownG r [80,116] [p,t] false)∨(knownG r [80,116] [p,t] false=0∧okA r r.tick (.take p t a b)=firstI [spanI a b,whenI (r.manned t) 31,whenI (ovR r t a b) 15,whenI (decide ((r.poss.length:Int)=16)) 5]):=by
 rw [kn_new2 r 80 116 (by decide) (by decide),show ((80+32:Nat):Int)=112 from rfl,show ((116:Nat):Int)=116 from rfl]
 simp only [in_track,in_poss]
 unfold okA
 rw [if_neg (Int.lt_irrefl _),fst_span,fst_when _ _ _ (by decide),fst_when _ _ _ (by decide),fst_when _ _ _ (by decide),fst_nil]
 have h8:((decide ((r.poss.length:Int)=16))=true)=(16≤r.poss.length):=by
  have:=S.nP
  simp only [decide_eq_true_eq,eq_iff_iff];omega
 simp only [h8]
 cases r.track? t with
 | none=>exact .inl ⟨by simp,rfl⟩
 | some y =>
   cases r.poss? p with
   | none =>
     refine .inr ⟨rfl, ?_⟩
     by_cases hs:b≤a∨100000000 < b
     · simp [hs]
     · rw [ov_eq S (by omega)]
       rfl
   | some z=>exact .inl ⟨by simp,rfl⟩
theorem poss_mem {p:Nm} {y:Pos} (h:r.poss? p=some y):y ∈ r.poss∧y.name=p:=⟨(find_mem h).1,by have:=(find_mem h).2;simpa using this⟩
theorem within_0 {p:Nm}:((r.within p).length:Int)=0 ↔ r.within p=[]:=by
 rw [← List.length_eq_zero_iff];omega
theorem k_prot {p:Nm}:(knownG r [112] [p] false ≠ 0∧okA r r.tick (.prot p)=knownG r [112] [p] false)∨(knownG r [112] [p] false=0 ∧ ∃ y,r.poss? p=some y∧okA r r.tick (.prot p)=if y.ret then 23 else whenI y.prot 9):=by
 rw [kn_old1 r 112 (by decide),show ((112:Nat):Int)=112 from rfl]
 simp only [in_poss]
 unfold okA inOpen
 rw [if_neg (Int.lt_irrefl _)]
 simp only
 cases r.poss? p with
 | none=>exact .inl ⟨by simp,rfl⟩
 | some y=>exact .inr ⟨rfl,y,rfl,rfl⟩
theorem k_clear {p:Nm} (S:Safe r):(knownG r [112] [p] false ≠ 0∧okA r r.tick (.clear p)=knownG r [112] [p] false)∨(knownG r [112] [p] false=0 ∧ ∃ y,r.poss? p=some y∧okA r r.tick (.clear p)=if y.ret then 23 else firstI [whenI (!y.prot) 22,whenI (!(decide (((r.within y.name).length:Int)=0) && decide (y.pers=0))) 32]):=by
 rw [kn_old1 r 112 (by decide),show ((112:Nat):Int)=112 from rfl]
 simp only [in_poss]
 unfold okA inOpen
 rw [if_neg (Int.lt_irrefl _)]
 simp only
 cases hp:r.poss? p with
 | none=>exact .inl ⟨by simp,rfl⟩
 | some y =>
   refine .inr ⟨rfl,y,rfl, ?_⟩
   obtain ⟨hy,hn⟩:=poss_mem hp
   have:=S.pers y hy
   rw [fst_when _ _ _ (by decide),fst_when _ _ _ (by decide),fst_nil,hn]
   have e1:((!(decide (((r.within p).length:Int)=0) && decide (y.pers=0)))=true)=(0 < y.pers∨r.within p ≠ []):=by
    rw [eq_iff_iff]
    simp only [Bool.not_eq_true',Bool.and_eq_false_iff,decide_eq_false_iff_not,within_0]
    constructor
    · rintro (h | h)
      · exact .inr h
      · exact .inl (by omega)
    · rintro (h | h)
      · exact .inr (by omega)
      · exact .inl h
   simp only [e1]
theorem k_in {m p:Nm} (S:Safe r):(knownG r [77,112] [m,p] false ≠ 0∧okA r r.tick (.into m p)=knownG r [77,112] [m,p] false)∨(knownG r [77,112] [m,p] false=0 ∧ ∃ y,r.poss? p=some y∧okA r r.tick (.into m p)=if y.ret then 23 else firstI [whenI (!y.prot) 21,whenI (decide ((r.machs.length:Int)=16)) 5]):=by
 rw [kn_new2 r 77 112 (by decide) (by decide),show ((77+32:Nat):Int)=109 from rfl,show ((112:Nat):Int)=112 from rfl]
 simp only [in_mach,in_poss]
 unfold okA
 rw [if_neg (Int.lt_irrefl _)]
 simp only
 have h8:((decide ((r.machs.length:Int)=16))=true)=(16≤r.machs.length):=by
  have:=S.nM
  simp only [decide_eq_true_eq,eq_iff_iff];omega
 cases r.poss? p with
 | none=>exact .inl ⟨by simp,rfl⟩
 | some y =>
   cases r.mach? m with
   | none=>exact .inr ⟨rfl,y,rfl,by rw [fst_when _ _ _ (by decide),fst_when _ _ _ (by decide),fst_nil];simp only [h8];rfl⟩
   | some z=>exact .inl ⟨by simp,rfl⟩
theorem k_staff {p:Nm} {v:Int}:(knownG r [112] [p] false ≠ 0∧okA r r.tick (.staff p v)=knownG r [112] [p] false)∨(knownG r [112] [p] false=0 ∧ ∃ y,r.poss? p=some y∧okA r r.tick (.staff p v)=if y.ret then 23 else firstI [withinI v 1 100,whenI (!y.prot) 21,whenI (decide (100 < y.pers+v)) 4]):=by
 rw [kn_old1 r 112 (by decide),show ((112:Nat):Int)=112 from rfl]
 simp only [in_poss]
 unfold okA inOpen
 rw [if_neg (Int.lt_irrefl _)]
 simp only
 cases r.poss? p with
 | none=>exact .inl ⟨by simp,rfl⟩
 | some y=>exact .inr ⟨rfl,y,rfl,by rw [fst_within,fst_when _ _ _ (by decide),fst_when _ _ _ (by decide),fst_nil];simp only [decide_eq_true_eq]⟩
theorem k_off {p:Nm} {v:Int}:(knownG r [112] [p] false ≠ 0∧okA r r.tick (.off p v)=knownG r [112] [p] false)∨(knownG r [112] [p] false=0 ∧ ∃ y,r.poss? p=some y∧okA r r.tick (.off p v)=if y.ret then 23 else firstI [withinI v 1 100,whenI (decide (y.pers < v)) 16]):=by
 rw [kn_old1 r 112 (by decide),show ((112:Nat):Int)=112 from rfl]
 simp only [in_poss]
 unfold okA inOpen
 rw [if_neg (Int.lt_irrefl _)]
 simp only
 cases r.poss? p with
 | none=>exact .inl ⟨by simp,rfl⟩
 | some y=>exact .inr ⟨rfl,y,rfl,by rw [fst_within,fst_when _ _ _ (by decide),fst_nil];simp only [decide_eq_true_eq]⟩
theorem k_open {p:Nm} (S:Safe r):(knownG r [112] [p] false ≠ 0∧okA r r.tick (.opn p)=knownG r [112] [p] false)∨(knownG r [112] [p] false=0 ∧ ∃ y,r.poss? p=some y∧okA r r.tick (.opn p)=if y.ret then 23 else firstI [whenI y.opn 9,whenI (decide (y.closed=8)) 5]):=by
 rw [kn_old1 r 112 (by decide),show ((112:Nat):Int)=112 from rfl]
 simp only [in_poss]
 unfold okA inOpen
 rw [if_neg (Int.lt_irrefl _)]
 simp only
 cases hp:r.poss? p with
 | none=>exact .inl ⟨by simp,rfl⟩
 | some y =>
   have:=S.closed y (poss_mem hp).1
   have h8:((decide (y.closed=8))=true)=(8≤y.closed):=by
    simp only [decide_eq_true_eq,eq_iff_iff];omega
   exact .inr ⟨rfl,y,rfl,by rw [fst_when _ _ _ (by decide),fst_when _ _ _ (by decide),fst_nil];simp only [h8]⟩
theorem k_close {p:Nm} {v:Int}:(knownG r [112] [p] false ≠ 0∧okA r r.tick (.close p v)=knownG r [112] [p] false)∨(knownG r [112] [p] false=0 ∧ ∃ y,r.poss? p=some y∧okA r r.tick (.close p v)=if y.ret then 23 else firstI [withinI v 1 400,whenI (!y.opn) 22]):=by
 rw [kn_old1 r 112 (by decide),show ((112:Nat):Int)=112 from rfl]
 simp only [in_poss]
 unfold okA inOpen
 rw [if_neg (Int.lt_irrefl _)]
 simp only
 cases r.poss? p with
 | none=>exact .inl ⟨by simp,rfl⟩
 | some y=>exact .inr ⟨rfl,y,rfl,by rw [fst_within,fst_when _ _ _ (by decide),fst_nil]⟩
theorem k_ret {p:Nm}:(knownG r [112] [p] false ≠ 0∧okA r r.tick (.ret p)=knownG r [112] [p] false)∨(knownG r [112] [p] false=0 ∧ ∃ y,r.poss? p=some y∧okA r r.tick (.ret p)=if y.ret then 23 else firstI [whenI (decide ((0:Int) < ((holdsR r y.name y).length:Nat))) 32,whenI (decide (y.closed=0)) 7]):=by
 rw [kn_old1 r 112 (by decide),show ((112:Nat):Int)=112 from rfl]
 simp only [in_poss]
 unfold okA inOpen
 rw [if_neg (Int.lt_irrefl _)]
 simp only
 cases hp:r.poss? p with
 | none=>exact .inl ⟨by simp,rfl⟩
 | some y =>
   obtain ⟨hy,hn⟩:=poss_mem hp
   have h8:((decide ((0:Int) < ((holdsR r p y).length:Nat)))=true)=(r.within p ≠ []∨0 < y.pers∨y.opn=true∨y.prot=true):=by
    simp only [decide_eq_true_eq,eq_iff_iff]
    unfold holdsR
    simp only [List.length_append,List.length_map]
    have h0:r.within p ≠ [] ↔ 0 < (r.within p).length:=by rw [List.length_pos_iff]
    rw [h0]
    by_cases c1:0 < y.pers<;>by_cases c2:y.opn=true<;>by_cases c3:y.prot=true<;>simp [c1,c2,c3]<;>omega
   exact .inr ⟨rfl,y,rfl,by rw [fst_when _ _ _ (by decide),fst_when _ _ _ (by decide),fst_nil,hn];simp only [h8,decide_eq_true_eq]⟩
theorem k_raise {p:Nm} {v:Int} (hv:0≤v):(knownG r [112] [p] false ≠ 0∧okA r r.tick (.raise p v)=knownG r [112] [p] false)∨(knownG r [112] [p] false=0 ∧ ∃ y,r.poss? p=some y∧okA r r.tick (.raise p v)=firstI [whenI (!y.ret) 22,withinI v 0 400,whenI (decide (v≤y.speed)) 21]):=by
 rw [kn_old1 r 112 (by decide),show ((112:Nat):Int)=112 from rfl]
 simp only [in_poss]
 unfold okA
 rw [if_neg (Int.lt_irrefl _)]
 simp only
 have h9:(v < 0∨400 < v)=(400 < v):=by
  simp only [eq_iff_iff];omega
 cases r.poss? p with
 | none=>exact .inl ⟨by simp,rfl⟩
 | some y=>exact .inr ⟨rfl,y,rfl,by rw [fst_when _ _ _ (by decide),fst_within,fst_when _ _ _ (by decide),fst_nil];simp only [h9,decide_eq_true_eq]⟩
end
end Go.Sim.Pos

namespace Go.Sim
open Go Go.Proofs
open Go.Sim.Pos (Nm Trk Flt Trn Pos Mch Reg Ev Len flat_len flat_take flat_drop flat_at)
set_option maxRecDepth 100000
set_option maxHeartbeats 4000000
theorem acc_fin {r:Reg} {tk num k:Int} {n:Nat} {a:Pos.Act} (hk:(k ≠ 0∧Pos.okA r r.tick a=k)∨k=0):(if num ≠ (n:Int)+1 then 11 else if tk < r.tick then 22 else if k ≠ 0 then k else Pos.okA r r.tick a)=if num ≠ (n:Int)+1 then 11 else Pos.okA r tk a:=by
 by_cases h1:num ≠ (n:Int)+1
 · rw [if_pos h1,if_pos h1]
 rw [if_neg h1,if_neg h1]
 by_cases h2:tk < r.tick
 · rw [if_pos h2];unfold Pos.okA;rw [if_pos h2]
 rw [if_neg h2,Pos.ok_now h2]
 rcases hk with ⟨h3,h4⟩ | h3
 · rw [if_pos h3,h4]
 · rw [if_neg (by simpa using h3)]
theorem PtP.old {H H':Heap} {id off:Nat} {x:Pos} (h:PtP H id off x) (ho:Old H.n H H'):PtP H' id off x :=
 ⟨Nat.lt_of_lt_of_le h.lt ho.1,fun o=>h.f0 (ho.to o),fun o=>h.f1 (ho.to o),fun o=>h.f2 (ho.to o),fun o=>h.f3 (ho.to o),fun o=>h.f4 (ho.to o),fun o=>h.f5 (ho.to o),fun o=>h.f6 (ho.to o),fun o=>h.f7 (ho.to o),fun o=>h.f8 (ho.to o),fun o=>h.f9 (ho.to o),fun o=>h.sp (ho.to o)⟩
theorem r_acc {H:Heap} {hb:Nat} {es cs:List Ev} {r:Reg} {V:RegV} {vE vC:AV} (h:HisIs H hb es cs r V vE vC) {num tk:Int} {kind text:Nm} {names:List Nm} {vs:List Int} {a:Pos.Act} (hk:kind ≠ Pos.kUndo)
 {nm:List Nat} {fv:Int} {f1 f2:FuncId} {l1 l2:Nat→List AV} (hlk:∀ n,lkS kind (formsM n)=some (.agg [.str nm,.int .i64 fv,.fn f1 [] (l1 n),.fn f2 [] (l2 n)])) (hst:∀ n,(l1 n).map strp=l1 n) (hu1:∀ n m,n+17≤m→underAll m (l1 n)=true) (hu2:∀ n m,n+17≤m→underAll m (l2 n)=true)
 (hb1:∀ x ∈ nm,x < 128) (hl:names.length=nm.length) (hs:nm.length≤2)
 (hK:(knownG r nm names false ≠ 0∧Pos.okA r r.tick a=knownG r nm names false)∨(knownG r nm names false=0 ∧ ∀ n Hc,FormsAt n Hc→n+17≤Hc.n→Old H.n H Hc → ∀ lo K,VO (aenter PT (R PT) lo f1 (.ptr hb 2 :: .agg (evC num kind names (tk::vs) text)::l1 n) Hc) K=K (.int .i64 (Pos.okA r r.tick a)) Hc)) :
 ∃ w H2,R PT (.call H.n 46 [.ptr hb 0,.agg (evC num kind names (tk::vs) text)] H)=some (.ofVal w H2)∧w=.int .i64 (if num ≠ (es.length:Int)+1 then 11 else Pos.okA r tk a):=by
 obtain ⟨w,H2,h1,h2⟩:=r_accepts h (num:=num) (tk:=tk) (text:=text) (vs:=vs) hk (c:=Pos.okA r r.tick a) hlk hst hu1 hu2 hb1 hl hs (fun k0=>by
  rcases hK with ⟨h3,_⟩ | ⟨_,h3⟩
  · exact absurd k0 h3
  · exact h3)
 exact ⟨w,H2,h1,h2.trans (congrArg _ (acc_fin (hK.imp id (·.1))))⟩
theorem under_1 {m k:Nat} (h:k < m):underAll m [.ptr k 0]=true:=by
 show (Nat.blt k m && true)=true
 rw [Bool.and_true]
 exact Nat.ble_eq.symm ▸ h
section
variable {H:Heap} {hb:Nat} {es cs:List Ev} {r:Reg} {V:RegV} {vE vC:AV}
theorem a_Track (h:HisIs H hb es cs r V vE vC) (S:Pos.Safe r) {num tk:Int} {t:Nm} {v:Int}:∃ w H2,R PT (.call H.n 46 [.ptr hb 0,.agg (evC num Pos.kTrack [t] [tk,v] [])] H)=some (.ofVal w H2)∧w=.int .i64 (if num ≠ (es.length:Int)+1 then 11 else Pos.okA r tk (.track t v)):=by
 refine r_acc h (kind:=Pos.kTrack) (names:=[t]) (vs:=[v]) (a:=.track t v) (by decide) (nm:=[84]) (fv:=2) (f1:=97) (f2:=98) (l1:=fun _=>[]) (l2:=fun _=>[]) (fun _=>rfl) (fun _=>rfl) (fun _ _ _=>rfl) (fun _ _ _=>rfl) (by decide) rfl (by decide) ?_
 rcases Pos.k_track (r:=r) (t:=t) (v:=v) S with hl | ⟨h0,hc⟩
 · exact .inl hl
 refine .inr ⟨h0,fun n Hc hF hn ho lo K => ?_⟩
 rw [hc]
 exact e_kTrack (h.reg.old ho)
theorem a_Fault (h:HisIs H hb es cs r V vE vC) (S:Pos.Safe r) {num tk:Int} {f t:Nm} {x y v:Int} (hv:0≤v):∃ w H2,R PT (.call H.n 46 [.ptr hb 0,.agg (evC num Pos.kFault [f,t] [tk,x,y,v] [])] H)=some (.ofVal w H2)∧w=.int .i64 (if num ≠ (es.length:Int)+1 then 11 else Pos.okA r tk (.fault f t x y v)):=by
 refine r_acc h (kind:=Pos.kFault) (names:=[f,t]) (vs:=[x,y,v]) (a:=.fault f t x y v) (by decide) (nm:=[70,116]) (fv:=4) (f1:=99) (f2:=101) (l1:=fun _=>[]) (l2:=fun _=>[]) (fun _=>rfl) (fun _=>rfl) (fun _ _ _=>rfl) (fun _ _ _=>rfl) (by decide) rfl (by decide) ?_
 rcases Pos.k_fault (r:=r) (f:=f) (t:=t) (a:=x) (b:=y) (v:=v) S hv with hl | ⟨h0,hc⟩
 · exact .inl hl
 refine .inr ⟨h0,fun n Hc hF hn ho lo K => ?_⟩
 rw [hc]
 exact e_kFault (h.reg.old ho)
theorem a_Answer (h:HisIs H hb es cs r V vE vC) (S:Pos.Safe r) {num tk:Int} {f:Nm}:∃ w H2,R PT (.call H.n 46 [.ptr hb 0,.agg (evC num Pos.kAnswer [f] [tk] [])] H)=some (.ofVal w H2)∧w=.int .i64 (if num ≠ (es.length:Int)+1 then 11 else Pos.okA r tk (.answer f)):=by
 refine r_acc h (kind:=Pos.kAnswer) (names:=[f]) (vs:=[]) (a:=.answer f) (by decide) (nm:=[102]) (fv:=1) (f1:=102) (f2:=104) (l1:=fun _=>[]) (l2:=fun _=>[]) (fun _=>rfl) (fun _=>rfl) (fun _ _ _=>rfl) (fun _ _ _=>rfl) (by decide) rfl (by decide) ?_
 rcases Pos.k_answer (r:=r) (f:=f)  with hl | ⟨h0,y,hy,hc⟩
 · exact .inl hl
 refine .inr ⟨h0,fun n Hc hF hn ho lo K => ?_⟩
 rw [hc]
 obtain ⟨i,hi⟩:=At.of (nm:=Flt.name) hy
 exact e_kAnswer (h.reg.old ho) hi
theorem a_Repair (h:HisIs H hb es cs r V vE vC) (S:Pos.Safe r) {num tk:Int} {f p:Nm}:∃ w H2,R PT (.call H.n 46 [.ptr hb 0,.agg (evC num Pos.kRepair [f,p] [tk] [])] H)=some (.ofVal w H2)∧w=.int .i64 (if num ≠ (es.length:Int)+1 then 11 else Pos.okA r tk (.repair f p)):=by
 refine r_acc h (kind:=Pos.kRepair) (names:=[f,p]) (vs:=[]) (a:=.repair f p) (by decide) (nm:=[102,112]) (fv:=1) (f1:=105) (f2:=106) (l1:=fun _=>[]) (l2:=fun _=>[]) (fun _=>rfl) (fun _=>rfl) (fun _ _ _=>rfl) (fun _ _ _=>rfl) (by decide) rfl (by decide) ?_
 rcases Pos.k_repair (r:=r) (f:=f) (p:=p) S with hl | ⟨h0,y,q,hy,hq,hc⟩
 · exact .inl hl
 refine .inr ⟨h0,fun n Hc hF hn ho lo K => ?_⟩
 rw [hc]
 obtain ⟨i,hi⟩:=At.of (nm:=Flt.name) hy
 obtain ⟨j,hj⟩:=At.of (nm:=Pos.name) hq
 exact e_kRepair (h.reg.old ho) hi hj (by rw [(Pos.poss_mem hq).2];exact hq)
theorem a_Enter (h:HisIs H hb es cs r V vE vC) (S:Pos.Safe r) {num tk:Int} {x t:Nm} {v:Int}:∃ w H2,R PT (.call H.n 46 [.ptr hb 0,.agg (evC num Pos.kEnter [x,t] [tk,v] [])] H)=some (.ofVal w H2)∧w=.int .i64 (if num ≠ (es.length:Int)+1 then 11 else Pos.okA r tk (.enter x t v)):=by
 refine r_acc h (kind:=Pos.kEnter) (names:=[x,t]) (vs:=[v]) (a:=.enter x t v) (by decide) (nm:=[82,116]) (fv:=2) (f1:=107) (f2:=108) (l1:=fun _=>[]) (l2:=fun _=>[]) (fun _=>rfl) (fun _=>rfl) (fun _ _ _=>rfl) (fun _ _ _=>rfl) (by decide) rfl (by decide) ?_
 rcases Pos.k_enter (r:=r) (x:=x) (t:=t) (v:=v) S with hl | ⟨h0,y,hy,hc⟩
 · exact .inl hl
 refine .inr ⟨h0,fun n Hc hF hn ho lo K => ?_⟩
 rw [hc]
 exact e_kEnter (h.reg.old ho) hy
theorem a_Leave (h:HisIs H hb es cs r V vE vC) (S:Pos.Safe r) {num tk:Int} {x:Nm}:∃ w H2,R PT (.call H.n 46 [.ptr hb 0,.agg (evC num Pos.kLeave [x] [tk] [])] H)=some (.ofVal w H2)∧w=.int .i64 (if num ≠ (es.length:Int)+1 then 11 else Pos.okA r tk (.leave x)):=by
 refine r_acc h (kind:=Pos.kLeave) (names:=[x]) (vs:=[]) (a:=.leave x) (by decide) (nm:=[114]) (fv:=1) (f1:=109) (f2:=110) (l1:=fun _=>[]) (l2:=fun _=>[]) (fun _=>rfl) (fun _=>rfl) (fun _ _ _=>rfl) (fun _ _ _=>rfl) (by decide) rfl (by decide) ?_
 rcases Pos.k_leave (r:=r) (x:=x)  with hl | ⟨h0,hc⟩
 · exact .inl hl
 refine .inr ⟨h0,fun n Hc hF hn ho lo K => ?_⟩
 rw [hc]
 exact e_free (h.reg.old ho)
theorem a_Take (h:HisIs H hb es cs r V vE vC) (S:Pos.Safe r) {num tk:Int} {p t:Nm} {x y:Int}:∃ w H2,R PT (.call H.n 46 [.ptr hb 0,.agg (evC num Pos.kTake [p,t] [tk,x,y] [])] H)=some (.ofVal w H2)∧w=.int .i64 (if num ≠ (es.length:Int)+1 then 11 else Pos.okA r tk (.take p t x y)):=by
 refine r_acc h (kind:=Pos.kTake) (names:=[p,t]) (vs:=[x,y]) (a:=.take p t x y) (by decide) (nm:=[80,116]) (fv:=3) (f1:=113) (f2:=114) (l1:=fun _=>[]) (l2:=fun _=>[]) (fun _=>rfl) (fun _=>rfl) (fun _ _ _=>rfl) (fun _ _ _=>rfl) (by decide) rfl (by decide) ?_
 rcases Pos.k_take (r:=r) (p:=p) (t:=t) (a:=x) (b:=y) S with hl | ⟨h0,hc⟩
 · exact .inl hl
 refine .inr ⟨h0,fun n Hc hF hn ho lo K => ?_⟩
 rw [hc]
 exact e_kTake (h.reg.old ho)
theorem a_Prot (h:HisIs H hb es cs r V vE vC) (S:Pos.Safe r) {num tk:Int} {p:Nm}:∃ w H2,R PT (.call H.n 46 [.ptr hb 0,.agg (evC num Pos.kProtect [p] [tk] [])] H)=some (.ofVal w H2)∧w=.int .i64 (if num ≠ (es.length:Int)+1 then 11 else Pos.okA r tk (.prot p)):=by
 refine r_acc h (kind:=Pos.kProtect) (names:=[p]) (vs:=[]) (a:=.prot p) (by decide) (nm:=[112]) (fv:=1) (f1:=145) (f2:=146) (l1:=fun n=>[.ptr (n+1) 0]) (l2:=fun n=>[.ptr (n+2) 0]) (fun _=>rfl) (fun _=>rfl) (fun n m hm=>under_1 (by omega)) (fun n m hm=>under_1 (by omega)) (by decide) rfl (by decide) ?_
 rcases Pos.k_prot (r:=r) (p:=p)  with hl | ⟨h0,y,hy,hc⟩
 · exact .inl hl
 refine .inr ⟨h0,fun n Hc hF hn ho lo K => ?_⟩
 rw [hc]
 obtain ⟨i,hi⟩:=At.of (nm:=Pos.name) hy
 obtain ⟨id,he,hP⟩:=el_P (h.reg.old ho) hi.at'
 exact e_inOpen1 (m:=[]) (h.reg.old ho) hi he hP (bx:=n+1) (by omega) (hF.box 1 (by omega) (by omega)) (fun _ Hc2 ho2 lo K=>e_iProt ((h.reg.old ho).old ho2) (hP.old ho2))
theorem a_Clear (h:HisIs H hb es cs r V vE vC) (S:Pos.Safe r) {num tk:Int} {p:Nm}:∃ w H2,R PT (.call H.n 46 [.ptr hb 0,.agg (evC num Pos.kClear [p] [tk] [])] H)=some (.ofVal w H2)∧w=.int .i64 (if num ≠ (es.length:Int)+1 then 11 else Pos.okA r tk (.clear p)):=by
 refine r_acc h (kind:=Pos.kClear) (names:=[p]) (vs:=[]) (a:=.clear p) (by decide) (nm:=[112]) (fv:=1) (f1:=145) (f2:=146) (l1:=fun n=>[.ptr (n+3) 0]) (l2:=fun n=>[.ptr (n+4) 0]) (fun _=>rfl) (fun _=>rfl) (fun n m hm=>under_1 (by omega)) (fun n m hm=>under_1 (by omega)) (by decide) rfl (by decide) ?_
 rcases Pos.k_clear (r:=r) (p:=p) S with hl | ⟨h0,y,hy,hc⟩
 · exact .inl hl
 refine .inr ⟨h0,fun n Hc hF hn ho lo K => ?_⟩
 rw [hc]
 obtain ⟨i,hi⟩:=At.of (nm:=Pos.name) hy
 obtain ⟨id,he,hP⟩:=el_P (h.reg.old ho) hi.at'
 have hp:r.poss? y.name=some y:=by rw [(Pos.poss_mem hy).2];exact hy
 exact e_inOpen1 (m:=[]) (h.reg.old ho) hi he hP (bx:=n+3) (by omega) (hF.box 3 (by omega) (by omega)) (fun _ Hc2 ho2 lo K=>e_iClear ((h.reg.old ho).old ho2) (hP.old ho2) hp)
theorem a_In (h:HisIs H hb es cs r V vE vC) (S:Pos.Safe r) {num tk:Int} {m p:Nm}:∃ w H2,R PT (.call H.n 46 [.ptr hb 0,.agg (evC num Pos.kIn [m,p] [tk] [])] H)=some (.ofVal w H2)∧w=.int .i64 (if num ≠ (es.length:Int)+1 then 11 else Pos.okA r tk (.into m p)):=by
 refine r_acc h (kind:=Pos.kIn) (names:=[m,p]) (vs:=[]) (a:=.into m p) (by decide) (nm:=[77,112]) (fv:=1) (f1:=145) (f2:=123) (l1:=fun n=>[.ptr (n+5) 0]) (l2:=fun _=>[]) (fun _=>rfl) (fun _=>rfl) (fun n m hm=>under_1 (by omega)) (fun _ _ _=>rfl) (by decide) rfl (by decide) ?_
 rcases Pos.k_in (r:=r) (m:=m) (p:=p) S with hl | ⟨h0,y,hy,hc⟩
 · exact .inl hl
 refine .inr ⟨h0,fun n Hc hF hn ho lo K => ?_⟩
 rw [hc]
 obtain ⟨i,hi⟩:=At.of (nm:=Pos.name) hy
 obtain ⟨id,he,hP⟩:=el_P (h.reg.old ho) hi.at'
 exact e_inOpen2 (m:=m) (h.reg.old ho) hi he hP (bx:=n+5) (by omega) (hF.box 5 (by omega) (by omega)) (fun _ Hc2 ho2 lo K=>e_iIn ((h.reg.old ho).old ho2) (hP.old ho2))
theorem a_Out (h:HisIs H hb es cs r V vE vC) (S:Pos.Safe r) {num tk:Int} {x:Nm}:∃ w H2,R PT (.call H.n 46 [.ptr hb 0,.agg (evC num Pos.kOut [x] [tk] [])] H)=some (.ofVal w H2)∧w=.int .i64 (if num ≠ (es.length:Int)+1 then 11 else Pos.okA r tk (.out x)):=by
 refine r_acc h (kind:=Pos.kOut) (names:=[x]) (vs:=[]) (a:=.out x) (by decide) (nm:=[109]) (fv:=1) (f1:=109) (f2:=124) (l1:=fun _=>[]) (l2:=fun _=>[]) (fun _=>rfl) (fun _=>rfl) (fun _ _ _=>rfl) (fun _ _ _=>rfl) (by decide) rfl (by decide) ?_
 rcases Pos.k_out (r:=r) (x:=x)  with hl | ⟨h0,hc⟩
 · exact .inl hl
 refine .inr ⟨h0,fun n Hc hF hn ho lo K => ?_⟩
 rw [hc]
 exact e_free (h.reg.old ho)
theorem a_Staff (h:HisIs H hb es cs r V vE vC) (S:Pos.Safe r) {num tk:Int} {p:Nm} {v:Int} (hv:0≤v∧v≤999999999):∃ w H2,R PT (.call H.n 46 [.ptr hb 0,.agg (evC num Pos.kStaff [p] [tk,v] [])] H)=some (.ofVal w H2)∧w=.int .i64 (if num ≠ (es.length:Int)+1 then 11 else Pos.okA r tk (.staff p v)):=by
 refine r_acc h (kind:=Pos.kStaff) (names:=[p]) (vs:=[v]) (a:=.staff p v) (by decide) (nm:=[112]) (fv:=2) (f1:=145) (f2:=146) (l1:=fun n=>[.ptr (n+6) 0]) (l2:=fun n=>[.ptr (n+7) 0]) (fun _=>rfl) (fun _=>rfl) (fun n m hm=>under_1 (by omega)) (fun n m hm=>under_1 (by omega)) (by decide) rfl (by decide) ?_
 rcases Pos.k_staff (r:=r) (p:=p) (v:=v)  with hl | ⟨h0,y,hy,hc⟩
 · exact .inl hl
 refine .inr ⟨h0,fun n Hc hF hn ho lo K => ?_⟩
 rw [hc]
 obtain ⟨i,hi⟩:=At.of (nm:=Pos.name) hy
 obtain ⟨id,he,hP⟩:=el_P (h.reg.old ho) hi.at'
 have hw:wrapq .i64 (Int.add y.pers v)=y.pers+v:=by
  have:=S.pers y (Pos.poss_mem hy).1
  show wrapq .i64 (y.pers+v)=_
  exact wrapq_i64 (by omega) (by omega)
 exact e_inOpen1 (m:=[]) (h.reg.old ho) hi he hP (bx:=n+6) (by omega) (hF.box 6 (by omega) (by omega)) (fun _ Hc2 ho2 lo K=>e_iStaff ((h.reg.old ho).old ho2) (hP.old ho2) hw)
theorem a_Off (h:HisIs H hb es cs r V vE vC) (S:Pos.Safe r) {num tk:Int} {p:Nm} {v:Int}:∃ w H2,R PT (.call H.n 46 [.ptr hb 0,.agg (evC num Pos.kOff [p] [tk,v] [])] H)=some (.ofVal w H2)∧w=.int .i64 (if num ≠ (es.length:Int)+1 then 11 else Pos.okA r tk (.off p v)):=by
 refine r_acc h (kind:=Pos.kOff) (names:=[p]) (vs:=[v]) (a:=.off p v) (by decide) (nm:=[112]) (fv:=2) (f1:=145) (f2:=146) (l1:=fun n=>[.ptr (n+8) 0]) (l2:=fun n=>[.ptr (n+9) 0]) (fun _=>rfl) (fun _=>rfl) (fun n m hm=>under_1 (by omega)) (fun n m hm=>under_1 (by omega)) (by decide) rfl (by decide) ?_
 rcases Pos.k_off (r:=r) (p:=p) (v:=v)  with hl | ⟨h0,y,hy,hc⟩
 · exact .inl hl
 refine .inr ⟨h0,fun n Hc hF hn ho lo K => ?_⟩
 rw [hc]
 obtain ⟨i,hi⟩:=At.of (nm:=Pos.name) hy
 obtain ⟨id,he,hP⟩:=el_P (h.reg.old ho) hi.at'
 exact e_inOpen1 (m:=[]) (h.reg.old ho) hi he hP (bx:=n+8) (by omega) (hF.box 8 (by omega) (by omega)) (fun _ Hc2 ho2 lo K=>e_iOff ((h.reg.old ho).old ho2) (hP.old ho2))
theorem a_Open (h:HisIs H hb es cs r V vE vC) (S:Pos.Safe r) {num tk:Int} {p:Nm}:∃ w H2,R PT (.call H.n 46 [.ptr hb 0,.agg (evC num Pos.kOpen [p] [tk] [])] H)=some (.ofVal w H2)∧w=.int .i64 (if num ≠ (es.length:Int)+1 then 11 else Pos.okA r tk (.opn p)):=by
 refine r_acc h (kind:=Pos.kOpen) (names:=[p]) (vs:=[]) (a:=.opn p) (by decide) (nm:=[112]) (fv:=1) (f1:=145) (f2:=146) (l1:=fun n=>[.ptr (n+10) 0]) (l2:=fun n=>[.ptr (n+11) 0]) (fun _=>rfl) (fun _=>rfl) (fun n m hm=>under_1 (by omega)) (fun n m hm=>under_1 (by omega)) (by decide) rfl (by decide) ?_
 rcases Pos.k_open (r:=r) (p:=p) S with hl | ⟨h0,y,hy,hc⟩
 · exact .inl hl
 refine .inr ⟨h0,fun n Hc hF hn ho lo K => ?_⟩
 rw [hc]
 obtain ⟨i,hi⟩:=At.of (nm:=Pos.name) hy
 obtain ⟨id,he,hP⟩:=el_P (h.reg.old ho) hi.at'
 exact e_inOpen1 (m:=[]) (h.reg.old ho) hi he hP (bx:=n+10) (by omega) (hF.box 10 (by omega) (by omega)) (fun _ Hc2 ho2 lo K=>e_iOpen ((h.reg.old ho).old ho2) (hP.old ho2))
theorem a_Close (h:HisIs H hb es cs r V vE vC) (S:Pos.Safe r) {num tk:Int} {p:Nm} {v:Int}:∃ w H2,R PT (.call H.n 46 [.ptr hb 0,.agg (evC num Pos.kClose [p] [tk,v] [])] H)=some (.ofVal w H2)∧w=.int .i64 (if num ≠ (es.length:Int)+1 then 11 else Pos.okA r tk (.close p v)):=by
 refine r_acc h (kind:=Pos.kClose) (names:=[p]) (vs:=[v]) (a:=.close p v) (by decide) (nm:=[112]) (fv:=2) (f1:=145) (f2:=146) (l1:=fun n=>[.ptr (n+12) 0]) (l2:=fun n=>[.ptr (n+13) 0]) (fun _=>rfl) (fun _=>rfl) (fun n m hm=>under_1 (by omega)) (fun n m hm=>under_1 (by omega)) (by decide) rfl (by decide) ?_
 rcases Pos.k_close (r:=r) (p:=p) (v:=v)  with hl | ⟨h0,y,hy,hc⟩
 · exact .inl hl
 refine .inr ⟨h0,fun n Hc hF hn ho lo K => ?_⟩
 rw [hc]
 obtain ⟨i,hi⟩:=At.of (nm:=Pos.name) hy
 obtain ⟨id,he,hP⟩:=el_P (h.reg.old ho) hi.at'
 exact e_inOpen1 (m:=[]) (h.reg.old ho) hi he hP (bx:=n+12) (by omega) (hF.box 12 (by omega) (by omega)) (fun _ Hc2 ho2 lo K=>e_iClose ((h.reg.old ho).old ho2) (hP.old ho2))
theorem a_Return (h:HisIs H hb es cs r V vE vC) (S:Pos.Safe r) {num tk:Int} {p:Nm}:∃ w H2,R PT (.call H.n 46 [.ptr hb 0,.agg (evC num Pos.kReturn [p] [tk] [])] H)=some (.ofVal w H2)∧w=.int .i64 (if num ≠ (es.length:Int)+1 then 11 else Pos.okA r tk (.ret p)):=by
 refine r_acc h (kind:=Pos.kReturn) (names:=[p]) (vs:=[]) (a:=.ret p) (by decide) (nm:=[112]) (fv:=1) (f1:=145) (f2:=146) (l1:=fun n=>[.ptr (n+14) 0]) (l2:=fun n=>[.ptr (n+15) 0]) (fun _=>rfl) (fun _=>rfl) (fun n m hm=>under_1 (by omega)) (fun n m hm=>under_1 (by omega)) (by decide) rfl (by decide) ?_
 rcases Pos.k_ret (r:=r) (p:=p)  with hl | ⟨h0,y,hy,hc⟩
 · exact .inl hl
 refine .inr ⟨h0,fun n Hc hF hn ho lo K => ?_⟩
 rw [hc]
 obtain ⟨i,hi⟩:=At.of (nm:=Pos.name) hy
 obtain ⟨id,he,hP⟩:=el_P (h.reg.old ho) hi.at'
 have hp:r.poss? y.name=some y:=by rw [(Pos.poss_mem hy).2];exact hy
 have hm:r.machs.length+3≤maxRows:=by have:=S.nM;unfold maxRows;omega
 exact e_inOpen1 (m:=[]) (h.reg.old ho) hi he hP (bx:=n+14) (by omega) (hF.box 14 (by omega) (by omega)) (fun _ Hc2 ho2 lo K=>e_iReturn ((h.reg.old ho).old ho2) (hP.old ho2) hp hm)
theorem a_Raise (h:HisIs H hb es cs r V vE vC) (S:Pos.Safe r) {num tk:Int} {p:Nm} {v:Int} (hv:0≤v):∃ w H2,R PT (.call H.n 46 [.ptr hb 0,.agg (evC num Pos.kRaise [p] [tk,v] [])] H)=some (.ofVal w H2)∧w=.int .i64 (if num ≠ (es.length:Int)+1 then 11 else Pos.okA r tk (.raise p v)):=by
 refine r_acc h (kind:=Pos.kRaise) (names:=[p]) (vs:=[v]) (a:=.raise p v) (by decide) (nm:=[112]) (fv:=2) (f1:=138) (f2:=146) (l1:=fun _=>[]) (l2:=fun n=>[.ptr (n+16) 0]) (fun _=>rfl) (fun _=>rfl) (fun _ _ _=>rfl) (fun n m hm=>under_1 (by omega)) (by decide) rfl (by decide) ?_
 rcases Pos.k_raise (r:=r) (p:=p) (v:=v) hv with hl | ⟨h0,y,hy,hc⟩
 · exact .inl hl
 refine .inr ⟨h0,fun n Hc hF hn ho lo K => ?_⟩
 rw [hc]
 obtain ⟨i,hi⟩:=At.of (nm:=Pos.name) hy
 exact e_kRaise (h.reg.old ho) hi
end
end Go.Sim
