/-
The parts Fk5, Fk9 of one proof, joined: each begins with a remark that says what it shows.
-/
import Derived.Test.YtklnellnfbmokaaGreatT15
set_option linter.unusedSimpArgs false
set_option linter.unusedVariables false
open Nat (reduceEqDiff reduceAdd reduceMul reduceSub reduceLeDiff reduceLT)

namespace Go.Sim
open Go Go.Proofs
open Go.Sim.Pos (Nm Trk Flt Trn Pos Mch Reg Ev Rst Msg Pst Rnd Len flat_len flat_take flat_drop flat_at)
set_option maxRecDepth 100000
set_option maxHeartbeats 4000000
noncomputable def PPV:FuncId→Option (List AV→Option AV):=addPrim 5 p5 (addPrim 11 p11 (addPrim 8 p8 (addPrim 7 p7 (addPrim 14 p14 (addPrim 15 p15 (addPrim 13 p13 (addPrim 10 p10 (addPrim 9 p9 (addPrim 16 p16 (addPrim 12 p12 (addPrim 19 p19 (fun _=>none))))))))))))
theorem primsV:PrimsOk NC PPV:=primsOk_add (primsOk_add (primsOk_add (primsOk_add (primsOk_add (primsOk_add (primsOk_add (primsOk_add (primsOk_add (primsOk_add (primsOk_add (primsOk_add (primsOk_none) (by kernel_rfl) (by kernel_rfl) pok19) (by kernel_rfl) (by kernel_rfl) pok12) (by kernel_rfl) (by kernel_rfl) pok16) (by kernel_rfl) (by kernel_rfl) pok9) (by kernel_rfl) (by kernel_rfl) pok10) (by kernel_rfl) (by kernel_rfl) pok13) (by kernel_rfl) (by kernel_rfl) pok15) (by kernel_rfl) (by kernel_rfl) pok14) (by kernel_rfl) (by kernel_rfl) pok7) (by kernel_rfl) (by kernel_rfl) pok8) (by kernel_rfl) (by kernel_rfl) pok11) (by kernel_rfl) (by kernel_rfl) pok5
theorem enV_19:En PPV 19 p19:=enter_prim (by rfl) (by kernel_rfl)
theorem enV_12:En PPV 12 p12:=enter_prim (by rfl) (by kernel_rfl)
theorem enV_16:En PPV 16 p16:=enter_prim (by rfl) (by kernel_rfl)
theorem enV_9:En PPV 9 p9:=enter_prim (by rfl) (by kernel_rfl)
theorem enV_10:En PPV 10 p10:=enter_prim (by rfl) (by kernel_rfl)
theorem enV_13:En PPV 13 p13:=enter_prim (by rfl) (by kernel_rfl)
theorem enV_15:En PPV 15 p15:=enter_prim (by rfl) (by kernel_rfl)
theorem enV_14:En PPV 14 p14:=enter_prim (by rfl) (by kernel_rfl)
theorem enV_7:En PPV 7 p7:=enter_prim (by rfl) (by kernel_rfl)
theorem enV_8:En PPV 8 p8:=enter_prim (by rfl) (by kernel_rfl)
theorem enV_11:En PPV 11 p11:=enter_prim (by rfl) (by kernel_rfl)
theorem enV_5:En PPV 5 p5:=enter_prim (by rfl) (by kernel_rfl)
attribute [go_sem ↓] enV_19 enV_12 enV_16 enV_9 enV_10 enV_13 enV_15 enV_14 enV_7 enV_8 enV_11 enV_5
noncomputable abbrev PV:Cfg:=NC.withPrims PPV
theorem app_one {lo:Nat} {H:Heap} {t:Tok} {l:List Ev} (hA:AppB lo H t (l.map Pos.Ev.row) 5 70) (hlo:lo≤H.n) (e:Ev) (hl:l.length+1≤maxRows):∃ t' H',appP lo H 5 70 (.ps t (l.map Pos.Ev.row)) [e.row]=some (.ps t' ((l++[e]).map Pos.Ev.row),H')∧AppB lo H' t' ((l++[e]).map Pos.Ev.row) 5 70∧H.n≤H'.n∧Old lo H H'∧(∀ i c u,i < H.n→H.get i=.cells c u→H'.get i=.cells c u):=by
 obtain ⟨t',H',h1,h2,h3,h4,h5⟩:=app_b hA hlo (Nat.le_refl _) (r:=e.row) (by rw [List.length_map];exact hl) rfl (by decide) (ev_all l)
 have e1:l.map Pos.Ev.row++[e.row.map AV.strip0]=(l++[e]).map Pos.Ev.row:=by rw [List.map_append];rfl
 rw [e1] at h1 h2
 exact ⟨t',H',h1,h2,h3,h4,h5⟩
theorem r_forkEvent {lo b : Nat} {H : Heap} {t : Tok} {l : List Ev} (hg : H.get b = .cells [.ps t (l.map Pos.Ev.row)] 25) (hlb : lo ≤ b) (hb : b < H.n) (hA : AppB lo H t (l.map Pos.Ev.row) 5 70) (hu : (AV.ps t (l.map Pos.Ev.row)).under H.n = true) (k : Nm) (vs : List Int) (ns : List Nm) (hl : l.length + 1 ≤ 1000) (hz : ∀ z ∈ l, EvS z) (hn : ns.length ≤ maxRows) (hv : vs.length ≤ maxRows) :
 ∃ w H', R PV (.call lo 6 [.ptr b 0, .str k, .ps .unk (ints vs), .ps .unk (strs ns)] H) = some (.ofVal w H') ∧ w = .bool (decide (acceptsL l ⟨(l.length : Int) + 1, k, ns, vs, []⟩ = 0)) ∧
   (acceptsL l ⟨(l.length : Int) + 1, k, ns, vs, []⟩ = 0 → ∃ t', H'.get b = .cells [.ps t' ((l ++ [(⟨(l.length : Int) + 1, k, ns, vs, []⟩ : Ev)]).map Pos.Ev.row)] 25 ∧ AppB lo H' t' ((l ++ [(⟨(l.length : Int) + 1, k, ns, vs, []⟩ : Ev)]).map Pos.Ev.row) 5 70) ∧ H.n ≤ H'.n ∧ (∀ i c u, i < H.n → i ≠ b → H.get i = .cells c u → H'.get i = .cells c u) := by
 have hac := pe19 l ⟨(l.length : Int) + 1, k, ns, vs, []⟩ ⟨by omega, hz, hn, hv⟩
 simp only [Pos.Ev.row] at hac
 have hac' : p19 [.ps .unk (l.map Pos.Ev.row), .agg [.int .i64 ((l.length : Int) + 1), .str k, .ps .unk (strs ns), .ps .unk (ints vs), .str []]] = _ := hac
 generalize hE : acceptsL l ⟨(l.length : Int) + 1, k, ns, vs, []⟩ = E at hac' ⊢
 refine R_of_body (C := PV) (f := 6) (lo := lo) (args := [.ptr b 0, .str k, .ps .unk (ints vs), .ps .unk (strs ns)]) (H := H) (fn := Tryz.f6) (Q := fun w H' => w = .bool (decide (E = 0)) ∧ (E = 0 → ∃ t', H'.get b = .cells [.ps t' ((l ++ [(⟨(l.length : Int) + 1, k, ns, vs, []⟩ : Ev)]).map Pos.Ev.row)] 25 ∧ AppB lo H' t' ((l ++ [(⟨(l.length : Int) + 1, k, ns, vs, []⟩ : Ev)]).map Pos.Ev.row) 5 70) ∧ H.n ≤ H'.n ∧ (∀ i c u, i < H.n → i ≠ b → H.get i = .cells c u → H'.get i = .cells c u)) (by kernel_rfl) Tryz.func6 rfl rfl ?_
 have hlH : lo ≤ H.n := by omega
 have hw : wrapq .i64 (Int.add (l.length : Int) 1) = (l.length : Int) + 1 := wrap_nat (n := l.length + 1) (by omega)
 obtain ⟨H1, hH1⟩ : ∃ H1, H1 = (H.push (.cells [.int .i64 0, .str [], .ps .nil [], .ps .nil [], .str []] 70)).set H.n (.cells [.int .i64 ((l.length : Int) + 1), .str k, .ps .unk (strs ns), .ps .unk (ints vs), .str []] 70) := ⟨_, rfl⟩
 have hn1 : H1.n = H.n + 1 := by rw [hH1]; simp
 have hO1 : Old H.n H H1 := by rw [hH1]; exact (Old.refl H).new _ _
 have hg1 : H1.get b = .cells [.ps t (l.map Pos.Ev.row)] 25 := by rw [hO1.2 b hb]; exact hg
 have hp1 : H1.get H.n = .cells [.int .i64 ((l.length : Int) + 1), .str k, .ps .unk (strs ns), .ps .unk (ints vs), .str []] 70 := by rw [hH1, Heap.get_set, if_pos rfl]
 obtain ⟨t2, H2, ha2, hO2, hu2⟩ := app_evs (l := l) (by unfold maxRows; omega) lo H1
 have hg2 : H2.get b = .cells [.ps t (l.map Pos.Ev.row)] 25 := by rw [hO2.2 b (by omega)]; exact hg1
 have hp2 : H2.get H.n = .cells [.int .i64 ((l.length : Int) + 1), .str k, .ps .unk (strs ns), .ps .unk (ints vs), .str []] 70 := by rw [hO2.2 _ (by omega)]; exact hp1
 have hall := ev_all l
 have hlo' := eq_true hlH
 have hb1 : (b < H.n) = True := eq_true hb
 have hb2 : (b = H.n) = False := eq_false (by omega)
 have hu2' := hu2 H2.n (Nat.le_refl _)
 have hn2 := hO2.1
 have hA2 : AppB lo H2 t (l.map Pos.Ev.row) 5 70 := by
  rcases hA with h | ⟨j, h1, h2, h3, h4, h5⟩
  · exact .inl h
  · exact .inr ⟨j, h1, h2, h3, by omega, by rw [hO2.2 j (by omega), hO1.2 j h4]; exact h5⟩
 obtain ⟨t3, H3, ha3, hA3, hn3, hO3, hk3⟩ := app_one hA2 (by omega) ⟨(l.length : Int) + 1, k, ns, vs, []⟩ (by unfold maxRows; omega)
 simp only [Pos.Ev.row] at ha3
 have hg3 := hk3 b _ _ (by omega) hg2
 have hb3 : (b < H2.n) = True := eq_true (by omega)
 have hb4 : (H.n < H2.n) = True := eq_true (by omega)
 have hb5 : (H.n = b) = False := eq_false (by omega)
 have hlb' := eq_true hlb
 by_cases hE0 : E = 0
 · have hd : decide (E = 0) = true := decide_eq_true hE0
   subst hE0
   have hkeep : ∀ i c u, i < H.n → i ≠ b → H.get i = .cells c u → H3.get i = .cells c u := fun i c u hi hne hgi => hk3 i c u (by omega) (by rw [hO2.2 i (by omega), hO1.2 i hi]; exact hgi)
   rcases hA with ⟨rfl, hr⟩ | ⟨j, rfl, hr, hj, hjn, hjr⟩
   · simp (config := { maxDischargeDepth := 12 }) only [go_sem, reduceIte, reduceEqDiff, reduceAdd, reduceMul, reduceSub, reduceLeDiff, reduceLT, Nat.reduceBEq, reduceCtorEq, appO, hg, hb1, hb2, hb3, hb4, hb5, hlo', hlb', hw, ← hH1, hg1, hp1, hall, ha2, hg2, hp2, hu2', hac', ha3, hg3]
     exact ⟨fun _ => ⟨t3, rfl, hA3.set _ (fun h => by rw [hg3] at h; cases h)⟩, by omega, fun i c u hi hne hgi => by rw [if_neg hne]; exact hkeep i c u hi hne hgi⟩
   · have hjb : (j = b) = False := eq_false (fun he => by rw [he, hg] at hjr; cases hjr)
     have hjb2 : (b = j) = False := eq_false (fun he => by rw [← he, hg] at hjr; cases hjr)
     have hjh : (j = H.n) = False := eq_false (by omega)
     have hjh2 : (H.n = j) = False := eq_false (by omega)
     simp (config := { maxDischargeDepth := 12 }) only [go_sem, reduceIte, reduceEqDiff, reduceAdd, reduceMul, reduceSub, reduceLeDiff, reduceLT, Nat.reduceBEq, reduceCtorEq, appO, hg, hb1, hb2, hb3, hb4, hb5, hlo', hlb', hw, ← hH1, hg1, hp1, hall, ha2, hg2, hp2, hu2', hac', ha3, hg3, hjb, hjb2, hjh, hjh2]
     exact ⟨fun _ => ⟨t3, rfl, hA3.set _ (fun h => by rw [hg3] at h; cases h)⟩, by omega, fun i c u hi hne hgi => by rw [if_neg hne]; exact hkeep i c u hi hne hgi⟩
 · have hd : decide (E = 0) = false := decide_eq_false hE0
   simp (config := { maxDischargeDepth := 12 }) only [go_sem, reduceIte, reduceEqDiff, reduceAdd, reduceMul, reduceSub, reduceLeDiff, reduceLT, Nat.reduceBEq, reduceCtorEq, appO, hg, hb1, hb2, hb3, hb4, hb5, hlo', hlb', hw, ← hH1, hg1, hp1, hall, ha2, hg2, hp2, hu2', hac', hE0, hd]
   exact ⟨fun h => h.elim, by omega, fun i c u hi hne hgi => by rw [hO2.2 i (by omega), hO1.2 i hi]; exact hgi⟩
theorem enter_fV {f lo:Nat} {args:List AV} {H H2:Heap} {v:AV} {K:AV→Heap→Prop} (hen:VO (aenter PV (R PV) lo f args H) K=AO (R PV (.call lo f args H)) fun o=>K o.val o.s.H) (hR:R PV (.call lo f args H)=some (.ofVal v H2)):VO (aenter PV (R PV) lo f args H) K=K v H2:=by
 rw [hen,hR];rfl
theorem ev_step {H:Heap} {b:Nat} {L:List Ev} (E:EvB H b L) (hl:L.length≤900) (hz:∀ z ∈ L,EvS z) {k:Nm} {vs:List Int} {ns:List Nm} (hn:ns.length≤maxRows) (hv:vs.length≤maxRows) (h0:acceptsL L (mkE L k vs ns)=0) :
 ∃ H',(∀ K,VO (aenter PV (R PV) 0 6 [.ptr b 0,.str k,.ps .unk (ints vs),.ps .unk (strs ns)] H) K=K (.bool true) H')∧EvB H' b (L++[mkE L k vs ns])∧H.n≤H'.n∧(∀ i c u,i < H.n→i ≠ b→H.get i=.cells c u→H'.get i=.cells c u):=by
 obtain ⟨hb,t,hg,hA⟩:=E
 have hu:(AV.ps t (L.map Pos.Ev.row)).under H.n=true:=by
  rcases hA with ⟨rfl,h⟩ | ⟨j,rfl,h2,h3,h4,h5⟩
  · rfl
  · simp only [AV.under,Nat.blt_eq];omega
 obtain ⟨w,H',h1,h2,h3,h4,h5⟩:=r_forkEvent (lo:=0) hg (Nat.zero_le _) hb hA hu k vs ns (by omega) hz hn hv
 have h0':acceptsL L ⟨(L.length:Int)+1,k,ns,vs,[]⟩=0:=h0
 obtain ⟨t',g1,g2⟩:=h3 h0'
 rw [h0'] at h2
 subst h2
 exact ⟨H',fun K=>enter_fV (en6 rfl) h1,⟨by omega,t',g1,g2⟩,h4,h5⟩
end Go.Sim

namespace Go.Sim
open Go Go.Proofs
open Go.Sim.Pos (Nm Reg Ev Rst Msg Pst Rnd Off FF nf kUp flts regF)
set_option maxRecDepth 100000
set_option maxHeartbeats 8000000
def ffOf (x:Nat × Nat):FF:=((x.1:Int),((x.1+1+x.2 % 20:Nat):Int),((10+x.2 / 2:Nat):Int))
theorem ff_good {x:Nat × Nat} (h:x.1≤255∧x.2≤255):goodFF (ffOf x):=by
 obtain ⟨a,b⟩:=x
 obtain ⟨h1,h2⟩:=h
 simp only at h1 h2
 show 0≤(a:Int)∧(a:Int) < ((a+1+b % 20:Nat):Int)∧((a+1+b % 20:Nat):Int)≤100000000∧10≤((10+b / 2:Nat):Int)∧((10+b / 2:Nat):Int)≤400
 omega
def OfB (H:Heap) (b:Nat) (ms:List Msg) (a:Int):Prop:=b ≠ 0∧b < H.n ∧ ∃ t,(∀ n rows,(AV.ps t rows).under n=true)∧H.get b=.cells [.ps t (ms.map Pos.Msg.row),.int .i64 a] 31
def PsB (H:Heap) (b:Nat) (f:List Rst) (a:Int):Prop:=b ≠ 0∧b < H.n ∧ ∃ t,(∀ n rows,(AV.ps t rows).under n=true)∧H.get b=.cells [.int .i64 a,.ps t (f.map Pos.Rst.row)] 46
theorem OfB.keep {H H':Heap} {b:Nat} {ms:List Msg} {a:Int} (h:OfB H b ms a) (hn:H.n≤H'.n) (hk:∀ c u,H.get b=.cells c u→H'.get b=.cells c u):OfB H' b ms a:=by
 obtain ⟨h1,h2,t,hu,h3⟩:=h
 exact ⟨h1,by omega,t,hu,hk _ _ h3⟩
theorem PsB.keep {H H':Heap} {b:Nat} {ms:List Rst} {a:Int} (h:PsB H b ms a) (hn:H.n≤H'.n) (hk:∀ c u,H.get b=.cells c u→H'.get b=.cells c u):PsB H' b ms a:=by
 obtain ⟨h1,h2,t,hu,h3⟩:=h
 exact ⟨h1,by omega,t,hu,hk _ _ h3⟩
def S0 (l:List (Nat × Nat)) (rs:List Nat) (T:TT AV):Prop:=getT T 0=.ps .unk (l.map byRow)∧getT T 1=.ps .unk (rs.map u16Row)∧getT T 5=.ptr 0 0
theorem text_at {k : Nat} (hk : k < 9) : p8 [.int .i64 ((k + 1 : Nat) : Int)] = some (.str [49 + k]) := by
 have := pe8 ((k + 1 : Nat) : Int) ⟨by omega, by omega⟩
 have e : (48 + ((k + 1 : Nat) : Int)).toNat = 49 + k := by omega
 rw [e] at this
 exact this
theorem take_ff {l:List (Nat × Nat)} {k:Nat} {x:Nat × Nat} (h:l[k]? = some x):(l.map ffOf).take (k+1)=(l.map ffOf).take k++[ffOf x]:=by
 rw [Pos.take_snoc (x:=ffOf x) (by simp [h])]
theorem ab_two (x y:Int):abuild NC.P 57 [(0,.int .i64 x),(1,.int .i64 y)]=some (.agg [.int .i64 x,.int .i64 y]):=by kernel_rfl
theorem sl_ff {l:List (Nat × Nat)} {n:Nat} (hn:n≤l.length):∃ t,(∀ (k:Nat) (rows:List (List AV)),(AV.ps t rows).under k=true)∧aslice NC.P 32 (.ps .unk (l.map fkRow)) none (some (.int .i64 (n:Nat))) none=some (.ps t ((l.take n).map fkRow)):=by
 have hu:NC.P.underlying 32=some (.slice 37):=by kernel_rfl
 have hz:szOf NC.P 37=some 3:=by kernel_rfl
 have hb:boundOf l.length l.length (some (.int .i64 (n:Nat)))=some n:=by
  have hn':natOf (l.length+1) (.int .i64 (n:Nat))=some n:=by rw [natOf_cast,if_pos (by omega)]
  unfold boundOf
  simp only [hn']
 have h0:∀ k,boundOf 0 k none=some 0:=fun k=>rfl
 unfold aslice
 simp only [hu,hz,all_mrows (u:=fkRow) (n:=3) (fun _=>rfl) l,if_true,asliceRows,List.length_map,hb,h0,List.map_take,List.drop_zero]
 exact ⟨.unk,fun _ _=>rfl,rfl⟩
theorem c3 (l : List (Nat × Nat)) (rs : List Nat) (hlm : l.length ≤ 9223372036854775807) (hrm : rs.length ≤ 9223372036854775807) (hz : ∀ z ∈ l, z.1 ≤ 255 ∧ z.2 ≤ 255) (hr : ∀ z ∈ rs, z < 65536) : ∀ lo H, CallOk NC lo 3 [.ps .unk (l.map byRow), .ps .unk (rs.map u16Row)] H (.bool true) H := by
 refine contract saneNC primsV (fn := Tryz.f3) (by kernel_rfl) Tryz.func3 rfl rfl (by rfl) (by rfl) ?_
 by_cases c1 : l.length < 1
 · have d1 : ((l.length : Int) < 1) = True := eq_true (by omega)
   simp (config := { maxDischargeDepth := 12 }) only [go_sem, reduceIte, reduceEqDiff, reduceAdd, reduceMul, reduceSub, reduceLeDiff, reduceLT, Nat.reduceBEq, reduceCtorEq, d1]
 have d1 : ((l.length : Int) < 1) = False := eq_false (by omega)
 by_cases c2 : 6 < l.length
 · have d2 : ((6 : Int) < (l.length : Int)) = True := eq_true (by omega)
   simp (config := { maxDischargeDepth := 12 }) only [go_sem, reduceIte, reduceEqDiff, reduceAdd, reduceMul, reduceSub, reduceLeDiff, reduceLT, Nat.reduceBEq, reduceCtorEq, d1, d2]
 have d2 : ((6 : Int) < (l.length : Int)) = False := eq_false (by omega)
 by_cases c3 : 5 < rs.length
 · have d3 : ((5 : Int) < (rs.length : Int)) = True := eq_true (by omega)
   simp (config := { maxDischargeDepth := 12 }) only [go_sem, reduceIte, reduceEqDiff, reduceAdd, reduceMul, reduceSub, reduceLeDiff, reduceLT, Nat.reduceBEq, reduceCtorEq, d1, d2, d3]
 have d3 : ((5 : Int) < (rs.length : Int)) = False := eq_false (by omega)
 rw [W_assoc, W_assoc]
 refine W_cut (fun T H M => M = [] ∧ S0 l rs T ∧ EvB H 0 []) ?_ ?_
 · simp (config := { maxDischargeDepth := 12 }) only [go_sem, reduceIte, reduceEqDiff, reduceAdd, reduceMul, reduceSub, reduceLeDiff, reduceLT, Nat.reduceBEq, reduceCtorEq, S0, d1, d2, d3]
   exact ⟨by simp, .nil, by rw [Heap.get_push]; rfl, .inl ⟨rfl, rfl⟩⟩
 rintro T H M ⟨rfl, ⟨g0, g1, g5⟩, E⟩
 obtain ⟨J1, J2⟩ := j_track
 obtain ⟨H1, e1, E1, n1, k1⟩ := ev_step E (by decide) xs1 (by decide) (by decide) J1
 simp only [Pos.kTrack, ints, strs, List.map_cons, List.map_nil, i64, kUp] at e1
 refine W_cut (fun T H M => M = [] ∧ S0 l rs T ∧ EvB H 0 ([] ++ [mkE [] Pos.kTrack [0, 400] [kUp]])) ?_ ?_
 · simp (config := { maxDischargeDepth := 12 }) only [go_sem, reduceIte, reduceEqDiff, reduceAdd, reduceMul, reduceSub, reduceLeDiff, reduceLT, Nat.reduceBEq, reduceCtorEq, S0, g0, g1, g5, e1]
   exact E1
 clear E E1 e1 n1 k1 g0 g1 g5 J1
 rintro T H M ⟨rfl, ⟨g0, g1, g5⟩, E⟩
 have hE0 := E.1
 refine W_cut (fun T H M => M = [] ∧ S0 l rs T ∧ EvB H 0 ([] ++ [mkE [] Pos.kTrack [0, 400] [kUp]]) ∧ ∃ b, getT T 6 = .ptr b 0 ∧ getT T 7 = .int .i64 400 ∧ OfB H b [] 0) ?_ ?_
 · have hne : (H.n = 0) = False := eq_false (by omega)
   simp (config := { maxDischargeDepth := 12 }) only [go_sem, reduceIte, reduceEqDiff, reduceAdd, reduceMul, reduceSub, reduceLeDiff, reduceLT, Nat.reduceBEq, reduceCtorEq, S0, g0, g1, g5]
   refine ⟨(E.push _).setN (i := H.n) (by omega) (by rw [Heap.get_push, if_pos rfl]) _, H.n, rfl, by omega, by simp, .nil, fun _ _ => rfl, ?_⟩
   rw [Heap.get_set, if_pos rfl]; rfl
 clear E g0 g1 g5 hE0
 rintro T H M ⟨rfl, ⟨g0, g1, g5⟩, E, b6, g6, g7, O⟩
 have hln : l.length ≤ 6 := by omega
 have hgd : ∀ x ∈ l.map ffOf, goodFF x := fun x hx => by
  obtain ⟨y, hy, rfl⟩ := List.mem_map.1 hx
  exact ff_good (hz y hy)
 have hfl : (l.map ffOf).length = l.length := List.length_map ..
 have hff := pe7 l ⟨by unfold maxRows; omega, hz⟩
 refine W_cut (fun T H M => M = [] ∧ S0 l rs T ∧ getT T 6 = .ptr b6 0 ∧ getT T 7 = .int .i64 (leastF (l.map ffOf)) ∧ OfB H b6 (msgsF 0 (l.map ffOf)) 0 ∧ ∃ L, JF L 7 0 0 (l.map ffOf) ∧ EvB H 0 L) ?_ ?_
 · simp (config := { maxDischargeDepth := 12 }) only [go_sem, reduceIte, reduceEqDiff, reduceAdd, reduceMul, reduceSub, reduceLeDiff, reduceLT, Nat.reduceBEq, reduceCtorEq, g0, hff]
   refine W_for (fun k T H M => M = [] ∧ S0 l rs T ∧ getT T 6 = .ptr b6 0 ∧ getT T 7 = .int .i64 (leastF ((l.map ffOf).take k)) ∧ getT T 60 = .ps .unk (l.map fkRow) ∧ getT T 61 = i64 (l.length : Nat) ∧ getT T 62 = i64 k ∧ OfB H b6 (msgsF 0 ((l.map ffOf).take k)) 0 ∧ ∃ L, JF L (1 + k) 0 0 ((l.map ffOf).take k) ∧ EvB H 0 L) l.length ?_ ?_ ?_
   · simp (config := { maxDischargeDepth := 12 }) only [go_sem, reduceIte, reduceEqDiff, reduceAdd, reduceMul, reduceSub, reduceLeDiff, reduceLT, Nat.reduceBEq, reduceCtorEq, S0, g0, g1, g5, g6, g7]
     exact ⟨rfl, O, _, J2, E⟩
   · clear E O g0 g1 g5 g6 g7
     rintro k T H M hk ⟨rfl, ⟨g0, g1, g5⟩, g6, g7, g60, g61, g62, O, L, J, E⟩
     obtain ⟨x, hx⟩ : ∃ x, l[k]? = some x := ⟨l[k], by simp⟩
     have hr : (l.map fkRow)[k]? = some (fkRow x) := map_at hx
     have hw := wrap_succ hk (show l.length ≤ maxRows by unfold maxRows; omega)
     have hT := text_at (k := k) (by omega)
     have hxg := ff_good (hz x (List.mem_of_getElem? hx))
     have htl : ((l.map ffOf).take k).length = k := by rw [List.length_take]; omega
     have hgt : ∀ y ∈ (l.map ffOf).take k, goodFF y := fun y hy => hgd y (List.mem_of_mem_take hy)
     have himp := pe9 (msgsF 0 ((l.map ffOf).take k)) 0 ⟨nf k, (ffOf x).1, (ffOf x).2.1, (ffOf x).2.2⟩ ⟨by rw [msgsF_len, htl]; unfold maxRows; omega, msgsF_wd _ _⟩
     have hiF := imp_F (l := (l.map ffOf).take k) (by omega) hgt hxg
     rw [htl] at hiF
     rw [hiF] at himp
     have hsn := take_ff hx
     rw [← hsn] at himp
     have hnf := nf_small k (by omega)
     rw [W_assoc]
     refine W_cut (fun T' H' M' => M' = [] ∧ H = H' ∧ S0 l rs T' ∧ getT T' 6 = .ptr b6 0 ∧ getT T' 7 = .int .i64 (leastF ((l.map ffOf).take k)) ∧ getT T' 60 = .ps .unk (l.map fkRow) ∧ getT T' 61 = i64 (l.length : Nat) ∧ getT T' 62 = i64 k) ?_ ?_
     · simp (config := { maxDischargeDepth := 12 }) only [go_sem, reduceIte, reduceEqDiff, reduceAdd, reduceMul, reduceSub, reduceLeDiff, reduceLT, Nat.reduceBEq, reduceCtorEq, S0, g0, g1, g5, g6, g7, g60, g61, g62, hk]
     clear g0 g1 g5 g6 g7 g60 g61 g62
     rintro T H' M ⟨rfl, rfl, ⟨g0, g1, g5⟩, g6, g7, g60, g61, g62⟩
     refine W_cut (fun T H M => M = [] ∧ S0 l rs T ∧ getT T 6 = .ptr b6 0 ∧ getT T 7 = .int .i64 (leastF ((l.map ffOf).take (k + 1))) ∧ getT T 60 = .ps .unk (l.map fkRow) ∧ getT T 61 = i64 (l.length : Nat) ∧ getT T 62 = i64 k ∧ OfB H b6 (msgsF 0 ((l.map ffOf).take (k + 1))) 0 ∧ ∃ L, JF L (1 + (k + 1)) 0 0 ((l.map ffOf).take (k + 1)) ∧ EvB H 0 L) ?_ ?_
     · rw [W_block, W_assoc, W_assoc]
       refine W_cut (fun T H M => M = [] ∧ S0 l rs T ∧ getT T 6 = .ptr b6 0 ∧ getT T 7 = .int .i64 (leastF ((l.map ffOf).take k)) ∧ getT T 60 = .ps .unk (l.map fkRow) ∧ getT T 61 = i64 (l.length : Nat) ∧ getT T 62 = i64 k ∧ OfB H b6 (msgsF 0 ((l.map ffOf).take k)) 0 ∧ EvB H 0 L ∧ getT T 10 = .str [102, 49 + k] ∧ getT T 12 = .int .i64 0 ∧ ∃ u v, getT T 9 = .ptr u 0 ∧ getT T 11 = .ptr v 0 ∧ u ≠ 0 ∧ v ≠ 0 ∧ u ≠ b6 ∧ v ≠ b6 ∧ u < H.n ∧ v < H.n ∧ H.get u = .cells (fkRow x) 37 ∧ H.get v = .cells [.ps .unk ((msgsF 0 ((l.map ffOf).take (k + 1))).map Pos.Msg.row), .int .i64 0] 31) ?_ ?_
       · have O' := O
         obtain ⟨o1, o2, t, ou, o3⟩ := O
         have q1 : (b6 = H.n) = False := eq_false (by omega)
         have q2 : (b6 = H.n + 1) = False := eq_false (by omega)
         simp only [fkRow] at hr
         rw [hnf] at himp
         simp only [Pos.Rst.row, ffOf, i64] at himp
         simp (config := { maxDischargeDepth := 12 }) only [go_sem, reduceIte, reduceEqDiff, reduceAdd, reduceMul, reduceSub, reduceLeDiff, reduceLT, Nat.reduceBEq, reduceCtorEq, S0, g0, g1, g5, g6, g7, g60, g61, g62, hk, hr, hw, hT, o3, q1, q2, himp]
         have hE0 := E.1
         refine ⟨O'.keep (by simp; omega) fun c u h => ?_, (((E.push _).setN (i := H.n) (by omega) (by rw [Heap.get_push, if_pos rfl]) _).push _).setN (i := H.n + 1) (by omega) (by rw [Heap.get_push, if_pos (by simp)]) _, H.n, H.n + 1, rfl, rfl, by omega, by omega, by omega, by omega, by omega, by omega, ?_, ?_⟩
         · rw [Heap.get_set, if_neg (by omega), Heap.get_push, if_neg (by simp; omega), Heap.get_set, if_neg (by omega), Heap.get_push, if_neg (by omega)]
           exact h
         · rw [if_neg (by omega)]
           simp [fkRow]
         · rw [if_pos rfl]
       · rintro T H M ⟨rfl, ⟨g0, g1, g5⟩, g6, g7, g60, g61, g62, O, E, g10, g12, u, v, g9, g11, hu, hv, hub, hvb, hun, hvn, hgu, hgv⟩
         obtain ⟨K1, K2⟩ := j_fault (x := ffOf x) J (by omega) hxg (by omega)
         rw [htl] at K1 K2
         rw [← hsn] at K2
         obtain ⟨H1, e1, E1, n1, k1⟩ := ev_step E (by have := J.len; omega) J.small (by simp [maxRows]) (by simp [maxRows]) K1
         obtain ⟨o1, o2, t, ou, o3⟩ := O
         have hg1 := k1 _ _ _ hun hu hgu
         have hg2 := k1 _ _ _ hvn hv hgv
         have hg3 := k1 _ _ _ o2 o1 o3
         have hle := least_snoc ((l.map ffOf).take k) (ffOf x)
         rw [← hsn] at hle
         rw [hnf] at e1
         simp only [Pos.kFault, ints, strs, List.map_cons, List.map_nil, i64, kUp, ffOf] at e1
         simp only [fkRow] at hgu hg1
         have q1 : (u = b6) = False := eq_false hub
         have q2 : (v = b6) = False := eq_false hvb
         have hle' : minI (leastF ((l.map ffOf).take k)) ((10 + x.2 / 2 : Nat) : Int) = leastF ((l.map ffOf).take (k + 1)) := hle.symm
         simp (config := { maxDischargeDepth := 12 }) only [go_sem, reduceIte, reduceEqDiff, reduceAdd, reduceMul, reduceSub, reduceLeDiff, reduceLT, Nat.reduceBEq, reduceCtorEq, S0, g0, g1, g5, g6, g7, g9, g10, g11, g12, g60, g61, g62, hgu, e1, hg1, hg2, hg3, hle', q1, q2]
         refine ⟨⟨o1, by simp; omega, .unk, fun _ _ => rfl, ?_⟩, _, ?_, E1.setN o1 hg3 _⟩
         · rw [Heap.get_set, if_pos rfl]
         · exact K2
     · rintro T H M ⟨rfl, ⟨g0, g1, g5⟩, g6, g7, g60, g61, g62, O, L, J, E⟩
       simp (config := { maxDischargeDepth := 12 }) only [go_sem, reduceIte, reduceEqDiff, reduceAdd, reduceMul, reduceSub, reduceLeDiff, reduceLT, Nat.reduceBEq, reduceCtorEq, S0, g0, g1, g5, g6, g7, g60, g61, g62, hw]
       exact ⟨O, L, J, E⟩
   · rintro T H M ⟨rfl, ⟨g0, g1, g5⟩, g6, g7, g60, g61, g62, O, L, J, E⟩
     rw [List.take_of_length_le (by omega)] at g7 O J
     simp (config := { maxDischargeDepth := 12 }) only [go_sem, reduceIte, reduceEqDiff, reduceAdd, reduceMul, reduceSub, reduceLeDiff, reduceLT, Nat.reduceBEq, reduceCtorEq, S0, g0, g1, g5, g6, g7, g60, g61, g62, Nat.lt_irrefl]
     refine ⟨O, L, ⟨J.rep, J.reg, J.small, ?_⟩, E⟩
     have := J.len
     omega
 clear g0 g1 g5 g6 g7 O E J2 hff
 rintro T H M ⟨rfl, ⟨g0, g1, g5⟩, g6, g7, O, L, J, E⟩
 obtain ⟨a, h, ha, hh, hex, -⟩ := exch_F (l := l.map ffOf) (by omega) hgd (a := 0) (h := 0) (Nat.le_refl _) (Nat.zero_le _) (rs := rs.map rndOf) (rounds_F (by omega))
 have hx := pe10 (msgsF 0 (l.map ffOf)) 0 0 [] (rs.map rndOf) ⟨by rw [msgsF_len]; unfold maxRows; omega, msgsF_wd _ _, by decide, by rw [List.length_map]; unfold maxRows; omega, fun z hz => by
  obtain ⟨y, _, rfl⟩ := List.mem_map.1 hz
  exact Nat.le_trans (lostTo_len _ _) (by unfold maxRows; omega)⟩
 have hex' : exV (msgsF 0 (l.map ffOf)) 0 0 [] (rs.map rndOf) = _ := hex
 rw [hex'] at hx
 have hrn := pe11 rs ⟨by unfold maxRows; omega, hr⟩
 rw [hfl] at hh
 have hFl : (rstsF 0 ((l.map ffOf).take h)).length = h := by rw [rstsF_len, List.length_take]; omega
 refine W_cut (fun T H M => M = [] ∧ S0 l rs T ∧ getT T 6 = .ptr b6 0 ∧ getT T 7 = .int .i64 (leastF (l.map ffOf)) ∧ getT T 14 = .int .i64 0 ∧ OfB H b6 (msgsF 0 (l.map ffOf)) a ∧ EvB H 0 L ∧ ∃ b, getT T 13 = .ptr b 0 ∧ b ≠ b6 ∧ PsB H b (rstsF 0 ((l.map ffOf).take h)) h) ?_ ?_
 · have O' := O
   obtain ⟨o1, o2, t, ou, o3⟩ := O
   have q1 : (b6 = H.n) = False := eq_false (by omega)
   have q2 : (H.n = b6) = False := eq_false (by omega)
   have hE0 := E.1
   simp only [List.map_nil, i64] at hx
   simp (config := { maxDischargeDepth := 12 }) only [go_sem, reduceIte, reduceEqDiff, reduceAdd, reduceMul, reduceSub, reduceLeDiff, reduceLT, Nat.reduceBEq, reduceCtorEq, S0, g0, g1, g5, g6, g7, o3, ou, hrn, hx, q1, q2]
   refine ⟨⟨o1, by simp; omega, .unk, fun _ _ => rfl, ?_⟩, ?_, H.n, rfl, by omega, by omega, by simp, .unk, fun _ _ => rfl, ?_⟩
   · rw [Heap.get_set, if_neg (by omega), Heap.get_set, if_pos rfl]
   · exact ((E.push _).setN (i := b6) o1 (by rw [Heap.get_push, if_neg (by omega)]; exact o3) _).setN (i := H.n) (by omega) (by rw [Heap.get_set, if_neg (by omega), Heap.get_push, if_pos rfl]) _
   · rw [Heap.get_set, if_pos rfl]
 clear g0 g1 g5 g6 g7 O E hrn hx hex hex'
 rintro T H M ⟨rfl, ⟨g0, g1, g5⟩, g6, g7, g14, O, E, b13, g13, hb, P⟩
 have hb' : (b13 = b6) = False := eq_false hb
 have hb2 : (b6 = b13) = False := eq_false (Ne.symm hb)
 refine W_cut (fun T' H' M => M = [] ∧ H = H' ∧ S0 l rs T' ∧ getT T' 6 = .ptr b6 0 ∧ getT T' 7 = .int .i64 (leastF (l.map ffOf)) ∧ getT T' 13 = .ptr b13 0) ?_ ?_
 · obtain ⟨o1, o2, t, ou, o3⟩ := O
   obtain ⟨p1, p2, t', pu, p3⟩ := P
   have v1 : ((a : Int) < 0) = False := eq_false (by omega)
   have v2 : ((h : Int) < (a : Int)) = False := eq_false (by omega)
   have v3 : ((l.length : Int) < (h : Int)) = False := eq_false (by omega)
   simp (config := { maxDischargeDepth := 12 }) only [go_sem, reduceIte, reduceEqDiff, reduceAdd, reduceMul, reduceSub, reduceLeDiff, reduceLT, Nat.reduceBEq, reduceCtorEq, S0, g0, g1, g5, g6, g7, g13, g14, o3, p3, v1, v2, v3, hFl]
 clear g0 g1 g5 g6 g7 g13 g14
 rintro T H' M ⟨rfl, rfl, ⟨g0, g1, g5⟩, g6, g7, g13⟩
 refine W_cut (fun T H M => M = [] ∧ S0 l rs T ∧ getT T 6 = .ptr b6 0 ∧ getT T 7 = .int .i64 (leastF (l.map ffOf)) ∧ getT T 13 = .ptr b13 0 ∧ OfB H b6 (msgsF 0 (l.map ffOf)) a ∧ PsB H b13 (rstsF 0 ((l.map ffOf).take h)) h ∧ ∃ L tk, JF L 13 tk a (l.map ffOf) ∧ tk ≤ 1 ∧ EvB H 0 L) ?_ ?_
 · have o3 := O.2.2
   obtain ⟨t, ou, o3⟩ := o3
   simp (config := { maxDischargeDepth := 12 }) only [go_sem, reduceIte, reduceEqDiff, reduceAdd, reduceMul, reduceSub, reduceLeDiff, reduceLT, Nat.reduceBEq, reduceCtorEq, g6, o3]
   refine W_for (fun k T H M => M = [] ∧ S0 l rs T ∧ getT T 6 = .ptr b6 0 ∧ getT T 7 = .int .i64 (leastF (l.map ffOf)) ∧ getT T 13 = .ptr b13 0 ∧ getT T 144 = i64 (a : Nat) ∧ getT T 145 = i64 k ∧ OfB H b6 (msgsF 0 (l.map ffOf)) a ∧ PsB H b13 (rstsF 0 ((l.map ffOf).take h)) h ∧ ∃ L tk, JF L (7 + k) tk k (l.map ffOf) ∧ tk ≤ 1 ∧ EvB H 0 L) a ?_ ?_ ?_
   · simp (config := { maxDischargeDepth := 12 }) only [go_sem, reduceIte, reduceEqDiff, reduceAdd, reduceMul, reduceSub, reduceLeDiff, reduceLT, Nat.reduceBEq, reduceCtorEq, S0, g0, g1, g5, g6, g7, g13]
     exact ⟨O, P, L, 0, J, by omega, E⟩
   · clear g0 g1 g5 g6 g7 g13 O P E J o3
     rintro k T H M hk ⟨rfl, ⟨g0, g1, g5⟩, g6, g7, g13, g144, g145, O, P, L, tk, J, htk, E⟩
     have hw := wrap_succ hk (show a ≤ maxRows by unfold maxRows; omega)
     have hT := text_at (k := k) (by omega)
     have hnf := nf_small k (by omega)
     obtain ⟨K1, K2⟩ := j_answer (tk' := 1) J (by omega) htk (by omega) (by omega) (by omega) (by omega)
     obtain ⟨H1, e1, E1, n1, k1⟩ := ev_step E (by have := J.len; omega) J.small (by simp [maxRows]) (by simp [maxRows]) K1
     rw [hnf] at e1
     simp only [Pos.kAnswer, ints, strs, List.map_cons, List.map_nil, i64] at e1
     simp (config := { maxDischargeDepth := 12 }) only [go_sem, reduceIte, reduceEqDiff, reduceAdd, reduceMul, reduceSub, reduceLeDiff, reduceLT, Nat.reduceBEq, reduceCtorEq, S0, g0, g1, g5, g6, g7, g13, g144, g145, hk, hw, hT, e1]
     exact ⟨O.keep n1 fun c u h => k1 _ _ _ O.2.1 O.1 h, P.keep n1 fun c u h => k1 _ _ _ P.2.1 P.1 h, _, 1, K2, Int.le_refl _, E1⟩
   · rintro T H M ⟨rfl, ⟨g0, g1, g5⟩, g6, g7, g13, g144, g145, O, P, L, tk, J, htk, E⟩
     simp (config := { maxDischargeDepth := 12 }) only [go_sem, reduceIte, reduceEqDiff, reduceAdd, reduceMul, reduceSub, reduceLeDiff, reduceLT, Nat.reduceBEq, reduceCtorEq, S0, g0, g1, g5, g6, g7, g13, g144, g145, Nat.lt_irrefl]
     refine ⟨O, P, L, tk, ⟨J.rep, J.reg, J.small, ?_⟩, htk, E⟩
     have := J.len
     omega
 clear g0 g1 g5 g6 g7 g13 O P E J
 clear L
 rintro T H M ⟨rfl, ⟨g0, g1, g5⟩, g6, g7, g13, O, P, L, tk, J, htk, E⟩
 have hn0 := J.len
 obtain ⟨te, ge, hte⟩ := E.get
 obtain ⟨o1, o2, t, ou, o3⟩ := O
 obtain ⟨p1, p2, t', pu, p3⟩ := P
 have hal : a ≤ (l.map ffOf).length := by omega
 have hsi := pe12 L ⟨by omega, J.small⟩
 rw [j_silent J hal, hfl] at hsi
 refine W_cut (fun T' H' M => M = [] ∧ H = H' ∧ S0 l rs T' ∧ getT T' 6 = .ptr b6 0 ∧ getT T' 7 = .int .i64 (leastF (l.map ffOf)) ∧ getT T' 13 = .ptr b13 0 ∧ getT T' 16 = .ps .unk (strs ((List.range (l.length - a)).map fun j => nf (a + j))) ∧ getT T' 17 = .int .i64 0) ?_ ?_
 · simp (config := { maxDischargeDepth := 12 }) only [go_sem, reduceIte, reduceEqDiff, reduceAdd, reduceMul, reduceSub, reduceLeDiff, reduceLT, Nat.reduceBEq, reduceCtorEq, S0, g0, g1, g5, g6, g7, g13, ge, hsi]
 clear g0 g1 g5 g6 g7 g13 hsi
 rintro T H' M ⟨rfl, rfl, ⟨g0, g1, g5⟩, g6, g7, g13, g16, g17⟩
 have hsf := pe13 (msgsF 0 (l.map ffOf)) a ⟨by rw [msgsF_len]; unfold maxRows; omega, msgsF_wd _ _⟩
 rw [safe_F (by omega) hgd hal, hfl] at hsf
 refine W_cut (fun T' H' M => M = [] ∧ H = H' ∧ S0 l rs T' ∧ getT T' 6 = .ptr b6 0 ∧ getT T' 7 = .int .i64 (leastF (l.map ffOf)) ∧ getT T' 13 = .ptr b13 0 ∧ getT T' 16 = .ps .unk (strs ((List.range (l.length - a)).map fun j => nf (a + j))) ∧ getT T' 17 = .int .i64 0 ∧ getT T' 18 = .bool (decide (a = l.length)) ∧ getT T' 19 = .int .i64 0) ?_ ?_
 · skip
   simp (config := { maxDischargeDepth := 12 }) only [go_sem, reduceIte, reduceEqDiff, reduceAdd, reduceMul, reduceSub, reduceLeDiff, reduceLT, Nat.reduceBEq, reduceCtorEq, S0, g0, g1, g5, g6, g7, g13, g16, g17, o3, hsf]
 clear g0 g1 g5 g6 g7 g13 g16 g17 hsf
 rintro T H' M ⟨rfl, rfl, ⟨g0, g1, g5⟩, g6, g7, g13, g16, g17, g18, g19⟩
 have hlF := least_in hgd
 have hLl : (strs ((List.range (l.length - a)).map fun j => nf (a + j))).length = l.length - a := by rw [strs_len, List.length_map, List.length_range]
 have hsub : wrapq .i64 (Int.sub (l.length : Int) (a : Int)) = ((l.length - a : Nat) : Int) := by
  have e : Int.sub (l.length : Int) (a : Int) = ((l.length - a : Nat) : Int) := by show (l.length : Int) - (a : Int) = _; omega
  rw [e]; exact wrap_nat (by omega)
 have hask := fun v (h1 : 1 ≤ v) (h2 : v ≤ 1000) => j_enter (tk' := 1) J (by omega) htk (by omega) (by omega) hal v h1 h2
 have pask := fun v : Int => pe14 L Pos.kEnter [1, v] [kT, kUp] ⟨by omega, J.small, by simp [maxRows], by simp [maxRows]⟩
 refine W_cut (fun T' H' M => M = [] ∧ H = H' ∧ S0 l rs T' ∧ getT T' 6 = .ptr b6 0 ∧ getT T' 7 = .int .i64 (leastF (l.map ffOf)) ∧ getT T' 13 = .ptr b13 0 ∧ getT T' 16 = .ps .unk (strs ((List.range (l.length - a)).map fun j => nf (a + j)))) ?_ ?_
 · have pa := pask (leastF (l.map ffOf))
   have ha' : acceptsL L ⟨(L.length : Int) + 1, Pos.kEnter, [kT, kUp], [1, leastF (l.map ffOf)], []⟩ = _ := hask (leastF (l.map ffOf)) (by omega) (by omega)
   rw [ha', hfl, if_neg (show ¬ leastF (l.map ffOf) < leastF (l.map ffOf) by omega)] at pa
   simp only [Pos.kEnter, kT, kUp, ints, strs, List.map_cons, List.map_nil, i64] at pa
   by_cases ca : a = l.length
   · have q1 : decide (a = l.length) = true := decide_eq_true ca
     have q2 : (((l.length - a : Nat) : Int) = 0) = True := eq_true (by omega)
     rw [if_neg (by omega)] at pa
     rw [q1] at g18
     simp (config := { maxDischargeDepth := 12 }) only [go_sem, reduceIte, reduceEqDiff, reduceAdd, reduceMul, reduceSub, reduceLeDiff, reduceLT, Nat.reduceBEq, reduceCtorEq, S0, g0, g1, g5, g6, g7, g13, g16, g17, g18, g19, o3, hLl, hsub, q2, ge, pa]
   · have q1 : decide (a = l.length) = false := decide_eq_false ca
     have q2 : (((l.length - a : Nat) : Int) = 0) = False := eq_false (by omega)
     have q3 : ((32 : Int) = 0) = False := eq_false (by decide)
     rw [if_pos (by omega)] at pa
     rw [q1] at g18
     simp (config := { maxDischargeDepth := 12 }) only [go_sem, reduceIte, reduceEqDiff, reduceAdd, reduceMul, reduceSub, reduceLeDiff, reduceLT, Nat.reduceBEq, reduceCtorEq, S0, g0, g1, g5, g6, g7, g13, g16, g17, g18, g19, o3, hLl, hsub, q2, q3, ge, pa]
 clear g0 g1 g5 g6 g7 g13 g16 g17 g18 g19
 rintro T H' M ⟨rfl, rfl, ⟨g0, g1, g5⟩, g6, g7, g13, g16⟩
 refine W_cut (fun T' H' M => M = [] ∧ H = H' ∧ S0 l rs T' ∧ getT T' 6 = .ptr b6 0 ∧ getT T' 7 = .int .i64 (leastF (l.map ffOf)) ∧ getT T' 13 = .ptr b13 0) ?_ ?_
 · simp (config := { maxDischargeDepth := 12 }) only [go_sem, reduceIte, reduceEqDiff, reduceAdd, reduceMul, reduceSub, reduceLeDiff, reduceLT, Nat.reduceBEq, reduceCtorEq, g16, hLl]
   refine W_for (fun k T' H' M => M = [] ∧ H = H' ∧ S0 l rs T' ∧ getT T' 6 = .ptr b6 0 ∧ getT T' 7 = .int .i64 (leastF (l.map ffOf)) ∧ getT T' 13 = .ptr b13 0 ∧ getT T' 200 = .ps .unk (strs ((List.range (l.length - a)).map fun j => nf (a + j))) ∧ getT T' 201 = i64 (l.length - a : Nat) ∧ getT T' 202 = i64 k) (l.length - a) ?_ ?_ ?_
   · simp (config := { maxDischargeDepth := 12 }) only [go_sem, reduceIte, reduceEqDiff, reduceAdd, reduceMul, reduceSub, reduceLeDiff, reduceLT, Nat.reduceBEq, reduceCtorEq, S0, g0, g1, g5, g6, g7, g13]
   · clear g0 g1 g5 g6 g7 g13 g16
     rintro k T H' M hk ⟨rfl, rfl, ⟨g0, g1, g5⟩, g6, g7, g13, g200, g201, g202⟩
     have hw := wrap_succ hk (show l.length - a ≤ maxRows by unfold maxRows; omega)
     have hw1 : wrapq .i64 (Int.add (a : Int) (k : Int)) = ((a + k : Nat) : Int) := wrap_nat (n := a + k) (by omega)
     have hw2 : wrapq .i64 (Int.add ((a + k : Nat) : Int) 1) = ((a + k + 1 : Nat) : Int) := wrap_nat (n := a + k + 1) (by omega)
     have hT := text_at (k := a + k) (by omega)
     have hnf := nf_small (a + k) (by omega)
     have hr : (strs ((List.range (l.length - a)).map fun j => nf (a + j)))[k]? = some [.str (nf (a + k))] := strs_at (by simp [hk])
     rw [hnf] at hr
     have pa := pask 1
     have ha' : acceptsL L ⟨(L.length : Int) + 1, Pos.kEnter, [kT, kUp], [1, 1], []⟩ = _ := hask 1 (by omega) (by omega)
     rw [ha', hfl, if_pos (by omega)] at pa
     simp only [Pos.kEnter, kT, kUp, ints, strs, List.map_cons, List.map_nil, i64] at pa
     have hbq : beqL [102, 49 + (a + k)] [102, 49 + (a + k)] = true := by rw [beqL_dec]; exact decide_eq_true rfl
     generalize strs ((List.range (l.length - a)).map fun j => nf (a + j)) = S at hr g200 hLl ⊢
     simp (config := { maxDischargeDepth := 12 }) only [go_sem, reduceIte, reduceEqDiff, reduceAdd, reduceMul, reduceSub, reduceLeDiff, reduceLT, Nat.reduceBEq, reduceCtorEq, S0, g0, g1, g5, g6, g7, g13, g200, g201, g202, hLl, hk, hr, hw, hw1, hw2, hT, o3, ge, pa, hbq]
   · rintro T H' M ⟨rfl, rfl, ⟨g0, g1, g5⟩, g6, g7, g13, g200, g201, g202⟩
     simp (config := { maxDischargeDepth := 12 }) only [go_sem, reduceIte, reduceEqDiff, reduceAdd, reduceMul, reduceSub, reduceLeDiff, reduceLT, Nat.reduceBEq, reduceCtorEq, S0, g0, g1, g5, g6, g7, g13, g200, g201, g202, Nat.lt_irrefl]
 clear g0 g1 g5 g6 g7 g13 g16 hLl
 rintro T H' M ⟨rfl, rfl, ⟨g0, g1, g5⟩, g6, g7, g13⟩
 have hff := pe7 l ⟨by unfold maxRows; omega, hz⟩
 refine W_cut (fun T H M => M = [] ∧ S0 l rs T ∧ getT T 6 = .ptr b6 0 ∧ getT T 7 = .int .i64 (leastF (l.map ffOf)) ∧ getT T 13 = .ptr b13 0 ∧ OfB H b6 (msgsF 0 (l.map ffOf)) a ∧ PsB H b13 (rstsF 0 ((l.map ffOf).take h)) h ∧ EvB H 0 L) ?_ ?_
 · obtain ⟨tk2, hsu, hsl⟩ := sl_ff (l := l) (n := a) (by omega)
   have hta : (l.take a).length = a := by rw [List.length_take]; omega
   simp (config := { maxDischargeDepth := 12 }) only [go_sem, reduceIte, reduceEqDiff, reduceAdd, reduceMul, reduceSub, reduceLeDiff, reduceLT, Nat.reduceBEq, reduceCtorEq, g0, g6, hff, o3, hsl, hsu, hta]
   refine W_for (fun k T H M => M = [] ∧ S0 l rs T ∧ getT T 6 = .ptr b6 0 ∧ getT T 7 = .int .i64 (leastF (l.map ffOf)) ∧ getT T 13 = .ptr b13 0 ∧ getT T 228 = .ps tk2 ((l.take a).map fkRow) ∧ getT T 229 = i64 (a : Nat) ∧ getT T 230 = i64 k ∧ OfB H b6 (msgsF 0 (l.map ffOf)) a ∧ PsB H b13 (rstsF 0 ((l.map ffOf).take h)) h ∧ EvB H 0 L) a ?_ ?_ ?_
   · simp (config := { maxDischargeDepth := 12 }) only [go_sem, reduceIte, reduceEqDiff, reduceAdd, reduceMul, reduceSub, reduceLeDiff, reduceLT, Nat.reduceBEq, reduceCtorEq, S0, g0, g1, g5, g6, g7, g13]
     exact ⟨⟨o1, o2, t, ou, o3⟩, ⟨p1, p2, t', pu, p3⟩, E⟩
   · clear g0 g1 g5 g6 g7 g13 ge o3 p3 o2 p2 E ou pu
     clear t t' te hte
     rintro k T H M hk ⟨rfl, ⟨g0, g1, g5⟩, g6, g7, g13, g228, g229, g230, O, P, E⟩
     have hw := wrap_succ hk (show a ≤ maxRows by unfold maxRows; omega)
     obtain ⟨x, hx⟩ : ∃ x, l[k]? = some x := ⟨l[k], by simp⟩
     have hr : ((l.take a).map fkRow)[k]? = some (fkRow x) := by
      refine map_at ?_
      rw [List.getElem?_take, if_pos hk]; exact hx
     have hr0 := hr
     obtain ⟨y1, y2⟩ := hz x (List.mem_of_getElem? hx)
     have hE0 := E.1
     have O' := O
     have P' := P
     obtain ⟨o1, o2, t, ou, o3⟩ := O
     obtain ⟨p1, p2, t', pu, p3⟩ := P
     simp only [fkRow] at hr
     have hsb : wrapq .i64 (Int.sub ((x.1 + 1 + x.2 % 20 : Nat) : Int) 1) = ((x.1 + x.2 % 20 : Nat) : Int) := by
      have e : Int.sub ((x.1 + 1 + x.2 % 20 : Nat) : Int) 1 = ((x.1 + x.2 % 20 : Nat) : Int) := by show ((x.1 + 1 + x.2 % 20 : Nat) : Int) - 1 = _; omega
      rw [e]; exact wrap_nat (by omega)
     have q1 : ((0 : Nat) = H.n) = False := eq_false (by omega)
     have q2 : (b6 = H.n) = False := eq_false (by omega)
     have q3 : (b13 = H.n) = False := eq_false (by omega)
     simp (config := { maxDischargeDepth := 12 }) only [go_sem, reduceIte, reduceEqDiff, reduceAdd, reduceMul, reduceSub, reduceLeDiff, reduceLT, Nat.reduceBEq, reduceCtorEq, g0, g1, g5, g6, g7, g13, g228, g229, g230, hta, hk, hr, hsb, ab_two]
     refine W_for (fun m T2 H2 M => M = [] ∧ S0 l rs T2 ∧ getT T2 6 = .ptr b6 0 ∧ getT T2 7 = .int .i64 (leastF (l.map ffOf)) ∧ getT T2 13 = .ptr b13 0 ∧ getT T2 228 = .ps tk2 ((l.take a).map fkRow) ∧ getT T2 229 = i64 (a : Nat) ∧ getT T2 230 = i64 k ∧ getT T2 22 = i64 k ∧ getT T2 23 = .ptr H.n 0 ∧ getT T2 242 = .agg [.int .i64 (x.1 : Int), .int .i64 ((x.1 + x.2 % 20 : Nat) : Int)] ∧ getT T2 243 = i64 m ∧ H.n < H2.n ∧ H2.get H.n = .cells (fkRow x) 37 ∧ OfB H2 b6 (msgsF 0 (l.map ffOf)) a ∧ PsB H2 b13 (rstsF 0 ((l.map ffOf).take h)) h ∧ EvB H2 0 L) 2 ?_ ?_ ?_
     · simp (config := { maxDischargeDepth := 12 }) only [go_sem, reduceIte, reduceEqDiff, reduceAdd, reduceMul, reduceSub, reduceLeDiff, reduceLT, Nat.reduceBEq, reduceCtorEq, S0, g0, g1, g5, g6, g7, g13, q3, p3]
       have hPN : H.n ≠ b6 := by omega
       refine ⟨g228, g229, g230, rfl, O'.keep (by simp) fun c u h => ?_, P'.keep (by simp) fun c u h => ?_, (E.push _).setN (i := H.n) (by omega) (by rw [Heap.get_push, if_pos rfl]) _⟩
       · rw [Heap.get_set, if_neg (by omega), Heap.get_push, if_neg (by omega)]; exact h
       · rw [Heap.get_set, if_neg (by omega), Heap.get_push, if_neg (by omega)]; exact h
     · rintro m T2 H2 M hm ⟨rfl, ⟨g0, g1, g5⟩, g6, g7, g13, g228, g229, g230, g22, g23, g242, g243, hn2, hgn, O2, P2, E2⟩
       have hw2 := wrap_succ hm (show 2 ≤ maxRows by decide)
       have hT := text_at (k := k) (by omega)
       have hnf := nf_small k (by omega)
       have hth : ((l.map ffOf).take h).length = h := by rw [List.length_take]; omega
       have hxk : (l.map ffOf)[k]? = some (ffOf x) := map_at hx
       have hxh : ((l.map ffOf).take h)[k]? = some (ffOf x) := by rw [List.getElem?_take, if_pos (by omega)]; exact hxk
       have hFk : ((rstsF 0 ((l.map ffOf).take h)).map Pos.Rst.row)[k]? = some [.str [102, 49 + k], .int .i64 (x.1 : Int), .int .i64 ((x.1 + 1 + x.2 % 20 : Nat) : Int), .int .i64 ((10 + x.2 / 2 : Nat) : Int)] := by
        have := map_at (f := Pos.Rst.row) (rstsF_at _ 0 k _ hxh)
        rw [Nat.zero_add, hnf] at this
        exact this
       have hFm : ((rstsF 0 ((l.map ffOf).take h)).map Pos.Rst.row).length = h := by rw [List.length_map, hFl]
       have hkh : (k < h) = True := eq_true (by omega)
       have hbq : beqL [102, 49 + k] [102, 49 + k] = true := by rw [beqL_dec]; exact decide_eq_true rfl
       have hal2 := fun v (hv : 0 ≤ v ∧ v ≤ 100000000) => alw_F (l := (l.map ffOf).take h) (by omega) (fun z hz => hgd z (List.mem_of_mem_take hz)) hv
       rw [hth] at hal2
       have hpe := fun v : Int => pe15 h (rstsF 0 ((l.map ffOf).take h)) v (by rw [hFl]; unfold maxRows; omega)
       obtain ⟨p1, p2, t', pu, p3⟩ := P2
       have hlim := fun v (a1 : (x.1 : Int) ≤ v) (a2 : v < ((x.1 + 1 + x.2 % 20 : Nat) : Int)) => al_at hxh (x := v) a1 a2
       have key : ∀ v : Int, (x.1 : Int) ≤ v → v ≤ ((x.1 + x.2 % 20 : Nat) : Int) → p15 [.agg [.int .i64 (h : Int), .ps .unk ((rstsF 0 ((l.map ffOf).take h)).map Pos.Rst.row)], .int .i64 v] = some (.tup [.int .i64 (alF (rstsF 0 ((l.map ffOf).take h)) v), .int .i64 0]) ∧ ((((10 + x.2 / 2 : Nat) : Int) < alF (rstsF 0 ((l.map ffOf).take h)) v) = False) := fun v a1 a2 => by
        have h1 := hpe v
        rw [hal2 v (by omega)] at h1
        have h2 : alF (rstsF 0 ((l.map ffOf).take h)) v ≤ ((10 + x.2 / 2 : Nat) : Int) := hlim v a1 (by omega)
        exact ⟨h1, eq_false (by omega)⟩
       have hm2 : m = 0 ∨ m = 1 := by omega
       rcases hm2 with rfl | rfl
       · obtain ⟨b1, b2⟩ := key (x.1 : Int) (by omega) (by omega)
         generalize alF (rstsF 0 ((l.map ffOf).take h)) (x.1 : Int) = V at b1 b2
         simp only [fkRow] at hgn
         generalize hGG : (rstsF 0 ((l.map ffOf).take h)).map Pos.Rst.row = G at hFk hFm p3 b1
         have z1 : ((0 : Int) < 2) = True := eq_true (by decide)
         simp (config := { maxDischargeDepth := 12 }) only [go_sem, reduceIte, reduceEqDiff, reduceAdd, reduceMul, reduceSub, reduceLeDiff, reduceLT, Nat.reduceBEq, reduceCtorEq, S0, g0, g1, g5, g6, g7, g13, g228, g229, g230, g22, g23, g242, g243, hgn, p3, b1, b2, hFk, hFm, hT, hbq, hw, hw2, hn2, z1, hkh]
         first | exact ⟨rfl, rfl, O2, ⟨p1, p2, t', pu, by rw [hGG]; exact p3⟩, E2⟩ | exact ⟨rfl, O2, ⟨p1, p2, t', pu, by rw [hGG]; exact p3⟩, E2⟩
       · obtain ⟨b1, b2⟩ := key ((x.1 + x.2 % 20 : Nat) : Int) (by omega) (by omega)
         generalize alF (rstsF 0 ((l.map ffOf).take h)) ((x.1 + x.2 % 20 : Nat) : Int) = V at b1 b2
         simp only [fkRow] at hgn
         generalize hGG : (rstsF 0 ((l.map ffOf).take h)).map Pos.Rst.row = G at hFk hFm p3 b1
         have z1 : (((1 : Nat) : Int) < 2) = True := eq_true (by decide)
         have z2 : ((1 : Int) < 2) = True := eq_true (by decide)
         simp (config := { maxDischargeDepth := 12 }) only [go_sem, reduceIte, reduceEqDiff, reduceAdd, reduceMul, reduceSub, reduceLeDiff, reduceLT, Nat.reduceBEq, reduceCtorEq, S0, g0, g1, g5, g6, g7, g13, g228, g229, g230, g22, g23, g242, g243, hgn, p3, b1, b2, hFk, hFm, hT, hbq, hw, hw2, hn2, z1, hkh, z2]
         first | exact ⟨rfl, rfl, O2, ⟨p1, p2, t', pu, by rw [hGG]; exact p3⟩, E2⟩ | exact ⟨rfl, O2, ⟨p1, p2, t', pu, by rw [hGG]; exact p3⟩, E2⟩
     · rintro T2 H2 M ⟨rfl, ⟨g0, g1, g5⟩, g6, g7, g13, g228, g229, g230, g22, g23, g242, g243, hn2, hgn, O2, P2, E2⟩
       have z1 : (((2 : Nat) : Int) < 2) = False := eq_false (by decide)
       simp (config := { maxDischargeDepth := 12 }) only [go_sem, reduceIte, reduceEqDiff, reduceAdd, reduceMul, reduceSub, reduceLeDiff, reduceLT, Nat.reduceBEq, reduceCtorEq, S0, g0, g1, g5, g6, g7, g13, g228, g229, g230, g22, g23, g242, g243, z1, hw]
       exact ⟨O2, P2, E2⟩
   · rintro T H M ⟨rfl, ⟨g0, g1, g5⟩, g6, g7, g13, g228, g229, g230, O, P, E⟩
     simp (config := { maxDischargeDepth := 12 }) only [go_sem, reduceIte, reduceEqDiff, reduceAdd, reduceMul, reduceSub, reduceLeDiff, reduceLT, Nat.reduceBEq, reduceCtorEq, S0, g0, g1, g5, g6, g7, g13, g228, g229, g230, Nat.lt_irrefl]
     exact ⟨O, P, E⟩
 clear g0 g1 g5 g6 g7 g13 hff
 clear ge o3 p3 o2 p2 E ou pu
 clear t t' te hte
 rintro T H M ⟨rfl, ⟨g0, g1, g5⟩, g6, g7, g13, O, P, E⟩
 refine W_cut (fun T H M => M = [] ∧ S0 l rs T ∧ getT T 6 = .ptr b6 0 ∧ getT T 7 = .int .i64 (leastF (l.map ffOf)) ∧ getT T 13 = .ptr b13 0 ∧ getT T 28 = .int .i64 (a : Int) ∧ OfB H b6 (msgsF 0 (l.map ffOf)) a ∧ PsB H b13 (rstsF 0 ((l.map ffOf).take h)) h ∧ EvB H 0 L) ?_ ?_
 · obtain ⟨o1, o2, t, ou, o3⟩ := O
   simp (config := { maxDischargeDepth := 12 }) only [go_sem, reduceIte, reduceEqDiff, reduceAdd, reduceMul, reduceSub, reduceLeDiff, reduceLT, Nat.reduceBEq, reduceCtorEq, S0, g0, g1, g5, g6, g7, g13, o3]
   exact ⟨⟨o1, o2, t, ou, o3⟩, P, E⟩
 clear g0 g1 g5 g6 g7 g13 O P E
 rintro T H M ⟨rfl, ⟨g0, g1, g5⟩, g6, g7, g13, g28, O, P, E⟩
 have hR0 : roundsE [⟨[], false⟩] = 0 := by decide
 obtain ⟨a2, h2, -, -, hex, hwh⟩ := exch_F (l := l.map ffOf) (by omega) hgd (a := a) (h := h) ha (by omega) (rs := [⟨[], false⟩]) hR0
 obtain ⟨rfl, rfl⟩ := hwh rfl
 have hx := pe10 (msgsF 0 (l.map ffOf)) a h (rstsF 0 ((l.map ffOf).take h)) [⟨[], false⟩] ⟨by rw [msgsF_len]; unfold maxRows; omega, msgsF_wd _ _, by rw [hFl]; unfold maxRows; omega, by decide, by decide⟩
 rw [hex, List.take_of_length_le (Nat.le_refl _), hfl] at hx
 refine W_cut (fun T H M => M = [] ∧ S0 l rs T ∧ getT T 6 = .ptr b6 0 ∧ getT T 7 = .int .i64 (leastF (l.map ffOf)) ∧ getT T 13 = .ptr b13 0 ∧ getT T 28 = .int .i64 (a : Int) ∧ getT T 29 = .int .i64 0 ∧ OfB H b6 (msgsF 0 (l.map ffOf)) (l.length : Nat) ∧ PsB H b13 (rstsF 0 (l.map ffOf)) (l.length : Nat) ∧ EvB H 0 L) ?_ ?_
 · obtain ⟨o1, o2, t, ou, o3⟩ := O
   obtain ⟨p1, p2, t', pu, p3⟩ := P
   simp only [Pos.Rnd.row, ints, List.map_cons, List.map_nil, i64] at hx
   simp (config := { maxDischargeDepth := 12 }) only [go_sem, reduceIte, reduceEqDiff, reduceAdd, reduceMul, reduceSub, reduceLeDiff, reduceLT, Nat.reduceBEq, reduceCtorEq, S0, g0, g1, g5, g6, g7, g13, g28, o3, p3, hx, hb', hb2]
   refine ⟨⟨o1, by simp; omega, .unk, fun _ _ => rfl, ?_⟩, ⟨p1, by simp; omega, .unk, fun _ _ => rfl, ?_⟩, (E.setN (i := b6) o1 o3 _).setN (i := b13) p1 (by rw [Heap.get_set, if_neg hb]; exact p3) _⟩
   · rw [Heap.get_set, if_neg (Ne.symm hb), Heap.get_set, if_pos rfl]
   · rw [Heap.get_set, if_pos rfl]
 clear g0 g1 g5 g6 g7 g13 g28 O P E hx hex
 rintro T H M ⟨rfl, ⟨g0, g1, g5⟩, g6, g7, g13, g28, g29, O, P, E⟩
 have hsf := pe13 (msgsF 0 (l.map ffOf)) (l.length : Nat) ⟨by rw [msgsF_len]; unfold maxRows; omega, msgsF_wd _ _⟩
 rw [safe_F (by omega) hgd (by omega), hfl, decide_eq_true rfl] at hsf
 refine W_cut (fun T' H' M => M = [] ∧ H = H' ∧ S0 l rs T' ∧ getT T' 6 = .ptr b6 0 ∧ getT T' 7 = .int .i64 (leastF (l.map ffOf)) ∧ getT T' 13 = .ptr b13 0 ∧ getT T' 28 = .int .i64 (a : Int) ∧ getT T' 29 = .int .i64 0 ∧ getT T' 30 = .bool true ∧ getT T' 31 = .int .i64 0) ?_ ?_
 · obtain ⟨o1, o2, t, ou, o3⟩ := O
   simp (config := { maxDischargeDepth := 12 }) only [go_sem, reduceIte, reduceEqDiff, reduceAdd, reduceMul, reduceSub, reduceLeDiff, reduceLT, Nat.reduceBEq, reduceCtorEq, S0, g0, g1, g5, g6, g7, g13, g28, g29, o3, hsf]
 clear g0 g1 g5 g6 g7 g13 g28 g29 hsf
 rintro T H' M ⟨rfl, rfl, ⟨g0, g1, g5⟩, g6, g7, g13, g28, g29, g30, g31⟩
 refine W_cut (fun T' H' M => M = [] ∧ H = H' ∧ S0 l rs T' ∧ getT T' 6 = .ptr b6 0 ∧ getT T' 7 = .int .i64 (leastF (l.map ffOf)) ∧ getT T' 13 = .ptr b13 0 ∧ getT T' 28 = .int .i64 (a : Int)) ?_ ?_
 · obtain ⟨o1, o2, t, ou, o3⟩ := O
   obtain ⟨p1, p2, t', pu, p3⟩ := P
   simp (config := { maxDischargeDepth := 12 }) only [go_sem, reduceIte, reduceEqDiff, reduceAdd, reduceMul, reduceSub, reduceLeDiff, reduceLT, Nat.reduceBEq, reduceCtorEq, S0, g0, g1, g5, g6, g7, g13, g28, g29, g30, g31, o3, p3]
 clear g0 g1 g5 g6 g7 g13 g28 g29 g30 g31
 rintro T H' M ⟨rfl, rfl, ⟨g0, g1, g5⟩, g6, g7, g13, g28⟩
 refine W_cut (fun T H M => M = [] ∧ S0 l rs T ∧ getT T 6 = .ptr b6 0 ∧ getT T 7 = .int .i64 (leastF (l.map ffOf)) ∧ getT T 13 = .ptr b13 0 ∧ PsB H b13 (rstsF 0 (l.map ffOf)) (l.length : Nat) ∧ ∃ L tk, JF L 20 tk l.length (l.map ffOf) ∧ tk ≤ 2 ∧ EvB H 0 L) ?_ ?_
 · simp (config := { maxDischargeDepth := 12 }) only [go_sem, reduceIte, reduceEqDiff, reduceAdd, reduceMul, reduceSub, reduceLeDiff, reduceLT, Nat.reduceBEq, reduceCtorEq, g28]
   refine W_for (fun k T H M => M = [] ∧ S0 l rs T ∧ getT T 6 = .ptr b6 0 ∧ getT T 7 = .int .i64 (leastF (l.map ffOf)) ∧ getT T 13 = .ptr b13 0 ∧ getT T 32 = i64 (a + k : Nat) ∧ PsB H b13 (rstsF 0 (l.map ffOf)) (l.length : Nat) ∧ ∃ L tk, JF L (13 + k) tk (a + k) (l.map ffOf) ∧ tk ≤ 2 ∧ EvB H 0 L) (l.length - a) ?_ ?_ ?_
   · simp (config := { maxDischargeDepth := 12 }) only [go_sem, reduceIte, reduceEqDiff, reduceAdd, reduceMul, reduceSub, reduceLeDiff, reduceLT, Nat.reduceBEq, reduceCtorEq, S0, g0, g1, g5, g6, g7, g13]
     exact ⟨P, L, tk, J, by omega, E⟩
   · clear g0 g1 g5 g6 g7 g13 g28 O P E J hask pask hn0
     clear L
     rintro k T H M hk ⟨rfl, ⟨g0, g1, g5⟩, g6, g7, g13, g32, P, L, tk, J, htk, E⟩
     have hw : wrapq .i64 (Int.add ((a + k : Nat) : Int) 1) = ((a + k + 1 : Nat) : Int) := wrap_nat (n := a + k + 1) (by omega)
     have hT := text_at (k := a + k) (by omega)
     have hnf := nf_small (a + k) (by omega)
     have hlt : (a + k < l.length) = True := eq_true (by omega)
     obtain ⟨K1, K2⟩ := j_answer (tk' := 2) J (by omega) htk (by omega) (by omega) (by omega) (by omega)
     obtain ⟨H1, e1, E1, n1, k1⟩ := ev_step E (by have := J.len; omega) J.small (by simp [maxRows]) (by simp [maxRows]) K1
     rw [hnf] at e1
     simp only [Pos.kAnswer, ints, strs, List.map_cons, List.map_nil, i64] at e1
     simp (config := { maxDischargeDepth := 12 }) only [go_sem, reduceIte, reduceEqDiff, reduceAdd, reduceMul, reduceSub, reduceLeDiff, reduceLT, Nat.reduceBEq, reduceCtorEq, S0, g0, g1, g5, g6, g7, g13, g32, hlt, hw, hT, e1]
     exact ⟨rfl, P.keep n1 fun c u h => k1 _ _ _ P.2.1 P.1 h, _, 2, K2, Int.le_refl _, E1⟩
   · rintro T H M ⟨rfl, ⟨g0, g1, g5⟩, g6, g7, g13, g32, P, L, tk, J, htk, E⟩
     have e : a + (l.length - a) = l.length := by omega
     rw [e] at g32 J
     simp (config := { maxDischargeDepth := 12 }) only [go_sem, reduceIte, reduceEqDiff, reduceAdd, reduceMul, reduceSub, reduceLeDiff, reduceLT, Nat.reduceBEq, reduceCtorEq, S0, g0, g1, g5, g6, g7, g13, g32, Nat.lt_irrefl]
     refine ⟨P, L, tk, ⟨J.rep, J.reg, J.small, ?_⟩, htk, E⟩
     have := J.len
     omega
 clear g0 g1 g5 g6 g7 g13 g28 O P E J hask pask hn0
 clear L
 rintro T H M ⟨rfl, ⟨g0, g1, g5⟩, g6, g7, g13, P, L, tk2, J, htk2, E⟩
 have hn0 := J.len
 have J' : JF L 20 tk2 (l.map ffOf).length (l.map ffOf) := by rw [hfl]; exact J
 obtain ⟨te, ge, hte⟩ := E.get
 have hne := pe16 L kUp ⟨by omega, J.small⟩
 rw [j_next J' hgd] at hne
 refine W_cut (fun T' H' M => M = [] ∧ H = H' ∧ S0 l rs T' ∧ getT T' 7 = .int .i64 (leastF (l.map ffOf)) ∧ getT T' 13 = .ptr b13 0 ∧ getT T' 33 = .int .i64 (leastF (l.map ffOf)) ∧ getT T' 34 = .int .i64 0) ?_ ?_
 · simp only [kUp, i64] at hne
   simp (config := { maxDischargeDepth := 12 }) only [go_sem, reduceIte, reduceEqDiff, reduceAdd, reduceMul, reduceSub, reduceLeDiff, reduceLT, Nat.reduceBEq, reduceCtorEq, S0, g0, g1, g5, g6, g7, g13, ge, hne]
 clear g0 g1 g5 g6 g7 g13 hne
 rintro T H' M ⟨rfl, rfl, ⟨g0, g1, g5⟩, g7, g13, g33, g34⟩
 refine W_cut (fun T' H' M => M = [] ∧ H = H' ∧ S0 l rs T' ∧ getT T' 7 = .int .i64 (leastF (l.map ffOf)) ∧ getT T' 13 = .ptr b13 0 ∧ getT T' 33 = .int .i64 (leastF (l.map ffOf)) ∧ getT T' 34 = .int .i64 0 ∧ getT T' 35 = .int .i64 400) ?_ ?_
 · simp (config := { maxDischargeDepth := 12 }) only [go_sem, reduceIte, reduceEqDiff, reduceAdd, reduceMul, reduceSub, reduceLeDiff, reduceLT, Nat.reduceBEq, reduceCtorEq, S0, g0, g1, g5, g7, g13, g33, g34]
 clear g0 g1 g5 g7 g13 g33 g34
 rintro T H' M ⟨rfl, rfl, ⟨g0, g1, g5⟩, g7, g13, g33, g34, g35⟩
 have hff := pe7 l ⟨by unfold maxRows; omega, hz⟩
 refine W_cut (fun T H M => M = [] ∧ S0 l rs T ∧ getT T 7 = .int .i64 (leastF (l.map ffOf)) ∧ getT T 33 = .int .i64 (leastF (l.map ffOf)) ∧ getT T 34 = .int .i64 0 ∧ getT T 35 = .int .i64 (leastF (l.map ffOf)) ∧ EvB H 0 L) ?_ ?_
 · simp (config := { maxDischargeDepth := 12 }) only [go_sem, reduceIte, reduceEqDiff, reduceAdd, reduceMul, reduceSub, reduceLeDiff, reduceLT, Nat.reduceBEq, reduceCtorEq, g0, hff]
   refine W_for (fun k T H M => M = [] ∧ S0 l rs T ∧ getT T 7 = .int .i64 (leastF (l.map ffOf)) ∧ getT T 13 = .ptr b13 0 ∧ getT T 33 = .int .i64 (leastF (l.map ffOf)) ∧ getT T 34 = .int .i64 0 ∧ getT T 35 = .int .i64 (lowF (l.map ffOf) ((l.map ffOf).take k)) ∧ getT T 336 = .ps .unk (l.map fkRow) ∧ getT T 337 = i64 (l.length : Nat) ∧ getT T 338 = i64 k ∧ PsB H b13 (rstsF 0 (l.map ffOf)) (l.length : Nat) ∧ EvB H 0 L) l.length ?_ ?_ ?_
   · simp (config := { maxDischargeDepth := 12 }) only [go_sem, reduceIte, reduceEqDiff, reduceAdd, reduceMul, reduceSub, reduceLeDiff, reduceLT, Nat.reduceBEq, reduceCtorEq, S0, g0, g1, g5, g7, g13, g33, g34, g35]
     exact ⟨rfl, P, E⟩
   · clear g0 g1 g5 g7 g13 g33 g34 g35 ge P E
     clear te hte
     rintro k T H M hk ⟨rfl, ⟨g0, g1, g5⟩, g7, g13, g33, g34, g35, g336, g337, g338, P, E⟩
     have hw := wrap_succ hk (show l.length ≤ maxRows by unfold maxRows; omega)
     obtain ⟨x, hx⟩ : ∃ x, l[k]? = some x := ⟨l[k], by simp⟩
     have hr : (l.map fkRow)[k]? = some (fkRow x) := map_at hx
     obtain ⟨y1, y2⟩ := hz x (List.mem_of_getElem? hx)
     have hE0 := E.1
     have P' := P
     obtain ⟨p1, p2, t', pu, p3⟩ := P
     have q3 : (b13 = H.n) = False := eq_false (by omega)
     have hpe := pe15 (l.length : Nat) (rstsF 0 (l.map ffOf)) (x.1 : Int) (by rw [rstsF_len]; unfold maxRows; omega)
     have hal2 := alw_F (l := l.map ffOf) (by omega) hgd (x := (x.1 : Int)) (by omega)
     rw [hfl] at hal2
     rw [hal2] at hpe
     have hlo : minI (lowF (l.map ffOf) ((l.map ffOf).take k)) (alF (rstsF 0 (l.map ffOf)) (x.1 : Int)) = lowF (l.map ffOf) ((l.map ffOf).take (k + 1)) := by
      rw [take_ff hx, low_snoc]
      rfl
     simp only [fkRow] at hr
     simp (config := { maxDischargeDepth := 12 }) only [go_sem, reduceIte, reduceEqDiff, reduceAdd, reduceMul, reduceSub, reduceLeDiff, reduceLT, Nat.reduceBEq, reduceCtorEq, S0, g0, g1, g5, g7, g13, g33, g34, g35, g336, g337, g338, hk, hr, hw, p3, q3, hpe, hlo]
     refine ⟨P'.keep (by simp) fun c u h => ?_, (E.push _).setN (i := H.n) (by omega) (by rw [Heap.get_push, if_pos rfl]) _⟩
     rw [Heap.get_set, if_neg (by omega), Heap.get_push, if_neg (by omega)]; exact h
   · rintro T H M ⟨rfl, ⟨g0, g1, g5⟩, g7, g13, g33, g34, g35, g336, g337, g338, P, E⟩
     rw [List.take_of_length_le (by omega), low_least hgd] at g35
     simp (config := { maxDischargeDepth := 12 }) only [go_sem, reduceIte, reduceEqDiff, reduceAdd, reduceMul, reduceSub, reduceLeDiff, reduceLT, Nat.reduceBEq, reduceCtorEq, S0, g0, g1, g5, g7, g13, g33, g34, g35, g336, g337, g338, Nat.lt_irrefl]
     exact E
 clear g0 g1 g5 g7 g13 g33 g34 g35 ge P E
 clear te hte
 rintro T H M ⟨rfl, ⟨g0, g1, g5⟩, g7, g33, g34, g35, E⟩
 obtain ⟨te, ge, hte⟩ := E.get
 have hask := fun v (h1 : 1 ≤ v) (h2 : v ≤ 1000) => j_enter (tk' := 2) J' (by omega) htk2 (by omega) (by omega) (Nat.le_refl _) v h1 h2
 have pask := fun v : Int => pe14 L Pos.kEnter [2, v] [kT, kUp] ⟨by omega, J.small, by simp [maxRows], by simp [maxRows]⟩
 have pa := pask (leastF (l.map ffOf))
 have pb := pask (leastF (l.map ffOf) + 1)
 have ha' : acceptsL L ⟨(L.length : Int) + 1, Pos.kEnter, [kT, kUp], [2, leastF (l.map ffOf)], []⟩ = _ := hask (leastF (l.map ffOf)) (by omega) (by omega)
 have hb'' : acceptsL L ⟨(L.length : Int) + 1, Pos.kEnter, [kT, kUp], [2, leastF (l.map ffOf) + 1], []⟩ = _ := hask (leastF (l.map ffOf) + 1) (by omega) (by omega)
 rw [ha', if_neg (by omega), if_neg (by omega)] at pa
 rw [hb'', if_neg (by omega), if_pos (by omega)] at pb
 have hw : wrapq .i64 (Int.add (leastF (l.map ffOf)) 1) = leastF (l.map ffOf) + 1 := by
  obtain ⟨n, hn⟩ := Int.eq_ofNat_of_zero_le (show 0 ≤ leastF (l.map ffOf) by omega)
  rw [hn]; exact wrap_nat (n := n + 1) (by omega)
 simp only [Pos.kEnter, kT, kUp, ints, strs, List.map_cons, List.map_nil, i64] at pa pb
 simp (config := { maxDischargeDepth := 12 }) only [go_sem, reduceIte, reduceEqDiff, reduceAdd, reduceMul, reduceSub, reduceLeDiff, reduceLT, Nat.reduceBEq, reduceCtorEq, g0, g1, g5, g7, g33, g34, g35, ge, pa, pb, hw]
end Go.Sim
