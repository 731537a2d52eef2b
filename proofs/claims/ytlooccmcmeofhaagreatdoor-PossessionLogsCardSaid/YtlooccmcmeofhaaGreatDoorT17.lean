/-
Lemmas of one proof, the texts Sq5 to Lw6 joined.
-/
import Derived.Test.YtlooccmcmeofhaaGreatDoorT16
set_option linter.unusedSimpArgs false
set_option linter.unusedVariables false
open Nat (reduceEqDiff reduceAdd reduceMul reduceSub reduceLeDiff reduceLT)

namespace Go.Sim
open Go Go.Proofs
open Go.Sim.Pos (Nm Trk Flt Trn Pos Mch Reg Ev)
set_option maxRecDepth 100000
set_option maxHeartbeats 16000000
def Q9 (x:Nm × Nm × Int):List AV:=[.str x.1,.str x.2.1,.int .i64 x.2.2]
def QV (s:Pos.Ses):List (Nm × Nm × Int)→Bool × Pos.Ses
 | []=>(true,s)
 | x::r=>if (Pos.doL s x.1).2=x.2 then QV (Pos.doL s x.1).1 r else (false,(Pos.doL s x.1).1)
def Gg (s:Pos.Ses):List (Nm × Nm × Int)→Bool
 | []=>true
 | x::r=>decide (x.1.length≤1000000) && (AT s x.1 && Gg (Pos.doL s x.1).1 r)
theorem en71:YS 71:=YY
theorem Zcw {lo:Nat} {H:Heap} {hb:Nat} {s:Pos.Ses} {V:RegV} {vE vC:AV} (h:HisW 203 lo H hb s.evs s.j.cs s.j.reg V vE vC) (J:Pos.JOk Z7 s.j) {l:List (Nm × Nm × Int)} (hl:l.length≤1000) (hq:Gg s l=true) :
 ∃ w H',R PT (.call lo 71 [.ptr hb 0,.ps .unk (l.map Q9)] H)=some (.ofVal w H')∧w=.bool (QV s l).1∧(∃ V vE vC,HisW 203 lo H' hb (QV s l).2.evs (QV s l).2.j.cs (QV s l).2.j.reg V vE vC)∧Pos.JOk Z7 (QV s l).2.j∧Chg lo hb XC H H':=by
 generalize hq0:QV s l=q;refine Za (C:=PT) (f:=71) (lo:=lo) (args:=[.ptr hb 0,.ps .unk (l.map Q9)]) (H:=H) (fn:=Tryz.f71) (Q:=fun w H'=>w=.bool q.1∧(∃ V vE vC,HisW 203 lo H' hb q.2.evs q.2.j.cs q.2.j.reg V vE vC)∧Pos.JOk Z7 q.2.j∧Chg lo hb XC H H') (by kernel_rfl) Tryz.func71 rfl rfl ?_;have hs:∀ H:Heap,Sl H (.ps .unk (l.map Q9)) 3 160 (l.map Q9):=fun H=>.inl ⟨_,rfl,rfl⟩
 have hlen:=fun H'=>(hs H).len (t:=161) (by kernel_rfl) H'
 simp only [List.length_map] at hlen;simp (maxDischargeDepth:=12) only [go_sem,reduceEqDiff,reduceAdd,reduceCtorEq,hlen];refine ZK (fun k T Hc M=>M=[]∧Z2 T 0=.ptr hb 0∧Z2 T 11=.ps .unk (l.map Q9)∧Z2 T 12=i64 (l.length:Nat)∧Z2 T 13=i64 k∧Chg lo hb XC H Hc ∧ ∃ s' V vE vC,HisW 203 lo Hc hb s'.evs s'.j.cs s'.j.reg V vE vC∧Pos.JOk Z7 s'.j∧QV s' (l.drop k)=q∧Gg s' (l.drop k)=true) l.length ?_ ?_ ?_
 · simp (maxDischargeDepth:=12) only [go_sem,reduceEqDiff,reduceCtorEq];exact ⟨Chg.refl H,s,V,vE,vC,h,J,hq0,hq⟩
 · rintro k T Hc M hk ⟨rfl,g0,g11,g12,g13,hch,s',V',vE',vC',h',J',hans,hok⟩;obtain ⟨x,hx⟩:∃ x,l[k]? = some x:=⟨l[k],by simp⟩;have hw:=ZP hk (by unfold Z1;omega:l.length≤Z1);have hi:=(hs H).idx (t:=161) (by kernel_rfl) (by kernel_rfl) (Zw (by intro x;rfl) l) (by rw [List.length_map];exact hk) .i64;have hd:=(hs Hc).ld (by kernel_rfl) (by kernel_rfl) (Zw (by intro x;rfl) l) (Y1 hx) (Old.refl Hc);have hlo:lo≤Hc.n:=Nat.le_of_lt (Nat.lt_of_le_of_lt h'.reg.lob h'.reg.bn);have hlo':=eq_true hlo;rw [K9 hx] at hans hok;obtain ⟨q0,q1,c⟩:=x;simp only [Gg,Bool.and_eq_true,decide_eq_true_eq] at hok;obtain ⟨o1,o2,o3⟩:=hok;obtain ⟨H1,hH1⟩:∃ H1,H1=(Hc.push (.cells [.str [],.str [],.int .i64 0] 160)).set Hc.n (.cells (Q9 (q0,q1,c)) 160):=⟨_,rfl⟩;have hO1:Old Hc.n Hc H1:=by rw [hH1];exact (Old.refl Hc).new _ _
   have hn1:H1.n=Hc.n+1:=by rw [hH1];simp
   have hg1:H1.get Hc.n=.cells (Q9 (q0,q1,c)) 160:=by rw [hH1,Heap.get_set,if_pos rfl]
   have hst1:sst lo (Hc.push (.cells [.str [],.str [],.int .i64 0] 160)) 160 (.ptr Hc.n 0) (.agg (Q9 (q0,q1,c)))=some H1:=by
    simp (maxDischargeDepth:=12) only [go_sem,reduceAdd,Q9,hlo',hH1]
   have hldq:sld H1 9 (.ptr Hc.n 0)=some (.str q0):=by simp (maxDischargeDepth:=12) only [go_sem,reduceAdd,Q9,hg1]
   obtain ⟨w,H2,hr,rfl,⟨V2,vE2,vC2,h2⟩,J2,hc2⟩:=r_Do (h'.old hO1) J' o1 o2;have hbn:=h'.reg.bn;have hg2:H2.get Hc.n=.cells (Q9 (q0,q1,c)) 160:=hc2.cells (by omega) (by omega) hg1;have hlda:sld H2 9 (.ptr Hc.n 1)=some (.str q1):=by simp (maxDischargeDepth:=12) only [go_sem,reduceAdd,Q9,hg2]
   have hldc:sld H2 25 (.ptr Hc.n 2)=some (.int .i64 c):=by simp (maxDischargeDepth:=12) only [go_sem,reduceAdd,Q9,hg2]
   have hd2:=fun K=>X8 (K:=K) (en38 rfl) hr
   have hchg:Chg lo hb XC H H2:=(hch.to (B2 hO1)).to hc2;simp only [QV] at hans;generalize hD:Pos.doL s' q0=D at *;obtain ⟨s2,out,e⟩:=D;simp only at *;have hsr:List.map AV.strip0 (Q9 (q0,q1,c))=Q9 (q0,q1,c):=rfl;have hk':=eq_true hk;by_cases hout:out=q1
   · have hbq:Z6 out q1=true:=by rw [YV,hout];simp
     by_cases he:e=c
     · have he':=eq_true he;rw [if_pos (by rw [hout,he])] at hans;simp (maxDischargeDepth:=12) only [go_sem,reduceEqDiff,reduceCtorEq,g0,g11,g12,g13,hk',hw,hi,hd,hst1,hldq,hd2,hlda,hldc,hbq,he'];exact ⟨hchg,s2,V2,vE2,vC2,h2,J2,hans,o3⟩
     · rw [if_neg (by rintro h;exact he (congrArg Prod.snd h))] at hans;subst hans;simp (maxDischargeDepth:=12) only [go_sem,reduceEqDiff,reduceCtorEq,g0,g11,g12,g13,hk',hi,hd,hst1,hldq,hd2,hlda,hldc,hbq,he];exact ⟨⟨V2,vE2,vC2,h2⟩,J2,hchg⟩
   · have hbq:Z6 out q1=false:=by rw [YV];simpa using hout
     rw [if_neg (by rintro h;exact hout (congrArg Prod.fst h))] at hans;subst hans;simp (maxDischargeDepth:=12) only [go_sem,reduceEqDiff,reduceCtorEq,g0,g11,g12,g13,hk',hi,hd,hst1,hldq,hd2,hlda,hbq];exact ⟨⟨V2,vE2,vC2,h2⟩,J2,hchg⟩
 · rintro T Hc M ⟨rfl,g0,g11,g12,g13,hch,s',V',vE',vC',h',J',hans,hok⟩;rw [List.drop_length] at hans;subst hans;have hlt:(l.length < l.length)=False:=eq_false (Nat.lt_irrefl _);simp (maxDischargeDepth:=12) only [go_sem,reduceEqDiff,reduceCtorEq,g12,g13,hlt];exact ⟨rfl,⟨V',vE',vC',h'⟩,J',hch⟩
theorem en70:Q5 70:=Qj
def JM:Pos.Ses:=⟨[],Pos.zJn⟩
theorem r_New {H:Heap}:∃ w H',R PT (.call H.n 70 [] H)=some (.ofVal w H')∧w=.ptr H.n 0∧Old H.n H H' ∧ ∃ V vE vC,HisW 203 H.n H' H.n JM.evs JM.j.cs JM.j.reg V vE vC:=by
 refine Za (C:=PT) (f:=70) (lo:=H.n) (args:=[]) (H:=H) (fn:=Tryz.f70) (Q:=fun w H'=>w=.ptr H.n 0∧Old H.n H H' ∧ ∃ V vE vC,HisW 203 H.n H' H.n JM.evs JM.j.cs JM.j.reg V vE vC) (by kernel_rfl) Tryz.func70 rfl rfl ?_;simp (maxDischargeDepth:=12) only [go_sem,reduceCtorEq];exact ⟨V0,.ps .nil [],.ps .nil [],⟨Fo (by simp) (Nat.le_refl _) (by rw [Heap.get_push,if_pos rfl];rfl),⟨.inl ⟨rfl,rfl⟩,fun i a b c d h=>by cases h⟩,⟨.inl ⟨rfl,rfl⟩,fun i a b c d h=>by cases h⟩,fun i j a b c d a' b' c' d' h1=>by (cases h1),Nat.zero_le _,Nat.zero_le _⟩⟩
end Go.Sim

namespace Go.Sim
open Go Go.Proofs
open Go.Sim.Pos (Nm Trk Flt Trn Pos Mch Reg Ev)
set_option maxRecDepth 100000
set_option maxHeartbeats 8000000
variable {te:TypeId}
theorem Zcx {l:List Ev} {k:Nat} {x:Ev} (h:l[k]? = some x):(l.take (k+1)).map Pos.Ev.row=(l.take k).map Pos.Ev.row++[Pos.Ev.row x]:=by
 rw [F2 h]
def Qz (e:Ev):Nm:=Pos.Xy e++[10]
theorem en108:ZG 108:=ZI
theorem en110:ZG 110:=ZI
theorem en39:ZG 39:=ZI
theorem en40:ZG 40:=ZI
theorem Zcy {H:Heap} {v:AV} {l:List Ev} (hs:Sl H v 5 53 (l.map Pos.Ev.row)) (hl:l.length≤Z1) (hv:∀ e ∈ l,EvS e):∃ t H2,R PT (.call H.n 108 [v,.fn 76 [] []] H)=some (.ofVal (.ps t (l.map Pos.Ev.row)) H2)∧Zj H.n H2 t (l.map Pos.Ev.row) 5 53∧Old H.n H H2:=by
 obtain ⟨w,H2,h1,t,rfl,h2⟩:=Za (C:=PT) (f:=108) (lo:=H.n) (args:=[v,.fn 76 [] []]) (H:=H) (fn:=Tryz.f108) (Q:=fun w H2=>∃ t,w=.ps t (l.map Pos.Ev.row)∧Zj H.n H2 t (l.map Pos.Ev.row) 5 53∧Old H.n H H2) (by kernel_rfl) Tryz.func108 rfl rfl (by
  have hlen:=fun H'=>hs.len (t:=22) (by kernel_rfl) H'
  simp only [List.length_map] at hlen;simp (maxDischargeDepth:=12) only [go_sem,reduceEqDiff,reduceAdd,reduceCtorEq,hlen];refine ZK (fun k T Hc M=>M=[]∧Z2 T 1=.fn 76 [] []∧Z2 T 8=v∧Z2 T 9=i64 (l.length:Nat)∧Z2 T 10=i64 k∧Old H.n H Hc ∧ ∃ t,Z2 T 5=.ps t ((l.take k).map Pos.Ev.row)∧Zj H.n Hc t ((l.take k).map Pos.Ev.row) 5 53) l.length ?_ ?_ ?_
  · simp (maxDischargeDepth:=12) only [go_sem,reduceEqDiff,reduceCtorEq];exact ⟨.nil,rfl,.inl ⟨rfl,rfl⟩⟩
  · rintro k T Hc M hk ⟨rfl,g1,g8,g9,g10,hO,t,g5,hA⟩;obtain ⟨x,hx⟩:∃ x,l[k]? = some x:=⟨l[k],by simp⟩;have hw:=ZP hk hl;have hN:=eq_true hO.1;have hi:=hs.idx (t:=22) (by kernel_rfl) (by kernel_rfl) (Zw (by intro x;rfl) l) (by rw [List.length_map];exact hk) .i64;have hd:=hs.ld (by kernel_rfl) (by kernel_rfl) (Zw (by intro x;rfl) l) (Y1 hx) hO;have hA1:=hA.new (.cells (default:List AV) 0) (.cells (Pos.Ev.row x) 53);have hz:∃ z,ZJ NC.P 53=some z:=⟨_,UI⟩;obtain ⟨z,hz⟩:=hz;have hA1:=hA.new (.cells z.cells 53) (.cells (Pos.Ev.row x) 53);obtain ⟨t',H',ha,hA',_,hO',_⟩:=YR (lo:=H.n) hA1 (by simp;have:=hO.1;omega) (Nat.le_refl _) (r:=Pos.Ev.row x) (by rw [List.length_map,List.length_take];omega) rfl (by decide) (Vh _);have e1:(Pos.Ev.row x).map AV.strip0=Pos.Ev.row x:=rfl;rw [e1,← Zcx hx] at ha hA';have hO2:Old H.n H H':=(hO.new _ _).trans hO';rw [UI] at hz;cases hz;simp only [Pos.Ev.row] at hd ha;simp (maxDischargeDepth:=12) only [go_sem] at ha;have hp:=UX x (hv x (List.mem_of_getElem? hx));simp only [Pos.Ev.row] at hp;simp (maxDischargeDepth:=12) only [go_sem,reduceEqDiff,reduceAdd,reduceMul,reduceLeDiff,g1,g5,g8,g9,g10,hk,hw,hN,hi,hd,hp,ZT,ha];exact ⟨hO2,t',rfl,hA'⟩
  · rintro T Hc M ⟨rfl,g1,g8,g9,g10,hO,t,g5,hA⟩;rw [List.take_length] at g5 hA;simp (maxDischargeDepth:=12) only [go_sem,reduceEqDiff,reduceCtorEq,g5,g9,g10,Nat.lt_irrefl];exact ⟨t,rfl,hA,hO⟩)
 exact ⟨t,H2,h1,h2⟩
theorem Zcz {H:Heap} {v:AV} {l:List Ev} (hs:Sl H v 5 53 (l.map Pos.Ev.row)) (hl:l.length≤Z1) (hv:∀ e ∈ l,EvS e) {Hc:Heap} (ho:Old H.n H Hc) {lo:Nat} {K:AV→Heap→Prop}:VO (Z8 PT (R PT) lo 108 [ZO v,.fn 76 [] []] Hc) K=K (.ps .unk (l.map Pos.Ev.row)) Hc:=by
 obtain ⟨t,H2,h1,_⟩:=Zcy (hs.old ho).strip hl hv;exact ZF (en108 rfl) ⟨H2,h1⟩ rfl rfl
theorem ZcA {H:Heap} {v:AV} {l:List Ev} (hs:Sl H v 5 53 (l.map Pos.Ev.row)) (hl:l.length≤Z1) (hv:∀ e ∈ l,Prn e):∃ t H2,R PT (.call H.n 110 [v,.fn 89 [] []] H)=some (.ofVal (.ps t (Z0 (l.map Qz))) H2)∧Zj H.n H2 t (Z0 (l.map Qz)) 1 9∧Old H.n H H2:=by
 obtain ⟨w,H2,h1,t,rfl,h2⟩:=Za (C:=PT) (f:=110) (lo:=H.n) (args:=[v,.fn 89 [] []]) (H:=H) (fn:=Tryz.f110) (Q:=fun w H2=>∃ t,w=.ps t (Z0 (l.map Qz))∧Zj H.n H2 t (Z0 (l.map Qz)) 1 9∧Old H.n H H2) (by kernel_rfl) Tryz.func110 rfl rfl (by
  have hlen:=fun H'=>hs.len (t:=22) (by kernel_rfl) H'
  simp only [List.length_map] at hlen;simp (maxDischargeDepth:=12) only [go_sem,reduceEqDiff,reduceAdd,reduceCtorEq,hlen];refine ZK (fun k T Hc M=>M=[]∧Z2 T 1=.fn 89 [] []∧Z2 T 8=v∧Z2 T 9=i64 (l.length:Nat)∧Z2 T 10=i64 k∧Old H.n H Hc ∧ ∃ t,Z2 T 5=.ps t (Z0 ((l.take k).map Qz))∧Zj H.n Hc t (Z0 ((l.take k).map Qz)) 1 9) l.length ?_ ?_ ?_
  · simp (maxDischargeDepth:=12) only [go_sem,reduceEqDiff,reduceCtorEq];exact ⟨.nil,rfl,.inl ⟨rfl,rfl⟩⟩
  · rintro k T Hc M hk ⟨rfl,g1,g8,g9,g10,hO,t,g5,hA⟩;obtain ⟨x,hx⟩:∃ x,l[k]? = some x:=⟨l[k],by simp⟩;have hw:=ZP hk hl;have hN:=eq_true hO.1;have hi:=hs.idx (t:=22) (by kernel_rfl) (by kernel_rfl) (Zw (by intro x;rfl) l) (by rw [List.length_map];exact hk) .i64;have hd:=hs.ld (by kernel_rfl) (by kernel_rfl) (Zw (by intro x;rfl) l) (Y1 hx) hO;have hA1:=hA.new (.cells (default:List AV) 0) (.cells (Pos.Ev.row x) 53);have hz:∃ z,ZJ NC.P 53=some z:=⟨_,UI⟩;obtain ⟨z,hz⟩:=hz;have hA1:=hA.new (.cells z.cells 53) (.cells (Pos.Ev.row x) 53);obtain ⟨t',H',ha,hA',_,hO',_⟩:=YR (lo:=H.n) hA1 (by simp;have:=hO.1;omega) (Nat.le_refl _) (r:=[.str (Qz x)]) (by rw [Zt,List.length_map,List.length_take];omega) rfl (by decide) (Xz _);have e1:[AV.str (Qz x)].map AV.strip0=[.str (Qz x)]:=rfl;rw [e1,← KJ hx] at ha hA';have hO2:Old H.n H H':=(hO.new _ _).trans hO';rw [UI] at hz;cases hz;simp only [Pos.Ev.row] at hd ha;simp (maxDischargeDepth:=12) only [go_sem] at ha;have hp:p89 [.agg x.row]=some (.str (Qz x)):=pe89 x (hv x (List.mem_of_getElem? hx));simp only [Pos.Ev.row] at hp;simp (maxDischargeDepth:=12) only [go_sem,reduceEqDiff,reduceAdd,reduceMul,reduceLeDiff,g1,g5,g8,g9,g10,hk,hw,hN,hi,hd,hp,ZT,ha];exact ⟨hO2,t',rfl,hA'⟩
  · rintro T Hc M ⟨rfl,g1,g8,g9,g10,hO,t,g5,hA⟩;rw [List.take_length] at g5 hA;simp (maxDischargeDepth:=12) only [go_sem,reduceEqDiff,reduceCtorEq,g5,g9,g10,Nat.lt_irrefl];exact ⟨t,rfl,hA,hO⟩)
 exact ⟨t,H2,h1,h2⟩
theorem ZcB {H:Heap} {v:AV} {l:List Ev} (hs:Sl H v 5 53 (l.map Pos.Ev.row)) (hl:l.length≤Z1) (hv:∀ e ∈ l,Prn e) {Hc:Heap} (ho:Old H.n H Hc) {lo:Nat} {K:AV→Heap→Prop}:VO (Z8 PT (R PT) lo 110 [ZO v,.fn 89 [] []] Hc) K=K (.ps .unk (Z0 (l.map Qz))) Hc:=by
 obtain ⟨t,H2,h1,_⟩:=ZcA (hs.old ho).strip hl hv;exact ZF (en110 rfl) ⟨H2,h1⟩ rfl rfl
theorem ZcC {H:Heap} {hb:Nat} {es cs:List Ev} {r:Reg} {V:RegV} {vE vC:AV} (h:HisIs te H hb es cs r V vE vC) (hv:∀ e ∈ es,EvS e) {Hc:Heap} (ho:Old H.n H Hc) {lo:Nat} {K:AV→Heap→Prop}:VO (Z8 PT (R PT) lo 39 [.ptr hb 0] Hc) K=K (.ps .unk (es.map Pos.Ev.row)) Hc:=by
 have h':=h.old ho;obtain ⟨w,H2,h1,h2⟩:=Za (C:=PT) (f:=39) (lo:=Hc.n) (args:=[.ptr hb 0]) (H:=Hc) (fn:=Tryz.f39) (Q:=fun w _=>w.strip=.ps .unk (es.map Pos.Ev.row)) (by kernel_rfl) Tryz.func39 rfl rfl (by
  have hh0:=fun H'=>h'.h0 (H':=H')
  have e1:=fun lo K=>Zcz (Q7 h'.aE) (by have:=h.lE;unfold Z1;omega) hv (Old.refl Hc) (lo:=lo) (K:=K)
  simp (maxDischargeDepth:=12) only [go_sem,reduceEqDiff,reduceCtorEq,hh0,e1];try rfl)
 exact ZF (en39 rfl) ⟨H2,h1⟩ h2 rfl
theorem logN (l:List Ev):(l.map Qz).flatten=Pos.Ya l:=by
 unfold Pos.Ya Qz;rw [List.flatMap_def]
theorem e_Log {H:Heap} {hb:Nat} {es cs:List Ev} {r:Reg} {V:RegV} {vE vC:AV} (h:HisIs te H hb es cs r V vE vC) (hv:∀ e ∈ es,Prn e) (hl:(Pos.Ya es).length≤Z1) {Hc:Heap} (ho:Old H.n H Hc) {lo:Nat} {K:AV→Heap→Prop}:VO (Z8 PT (R PT) lo 40 [.ptr hb 0] Hc) K=K (.str (Pos.Ya es)) Hc:=by
 have h':=h.old ho;obtain ⟨w,H2,h1,h2⟩:=Za (C:=PT) (f:=40) (lo:=Hc.n) (args:=[.ptr hb 0]) (H:=Hc) (fn:=Tryz.f40) (Q:=fun w _=>w=.str (Pos.Ya es)) (by kernel_rfl) Tryz.func40 rfl rfl (by
  have hh0:=fun H'=>h'.h0 (H':=H')
  have hle:=h.lE;have e1:=fun lo K=>ZcB (Q7 h'.aE) (by unfold Z1;omega) hv (Old.refl Hc) (lo:=lo) (K:=K)
  have e2:=Z7B (t:=.unk) (l:=es.map Qz) (by rw [logN];exact hl) (by rw [List.length_map];unfold Z1;omega);rw [logN] at e2;simp (maxDischargeDepth:=12) only [go_sem,reduceEqDiff,reduceCtorEq,hh0,e1,e2])
 exact ZF (en40 rfl) ⟨H2,h1⟩ (by rw [h2];rfl) rfl
end Go.Sim

namespace Go.Sim.Pos
open Go.Sim
theorem ZcD (r:Reg) (tk:Int) (a:Act):(doA r tk a).machs.length≤r.machs.length+1:=by
 cases a<;>simp only [doA,Reg.chP]<;>first | (simp;done) | (simp;omega) | (exact Nat.le_trans (List.length_filter_le _ _) (Nat.le_succ _)) | skip
theorem Mh:∀ (l:List TA) {r r':Reg},Yr r l=some r'→r'.machs.length≤r.machs.length+l.length
 | [],r,r',h=>by cases h;exact Nat.le_refl _
 | x::l,r,r',h=>by
   obtain ⟨h1,h2⟩:=GX h;have h3:=ZcD r x.1 x.2;have h4:=Mh l h2;simp only [List.length_cons];omega
theorem ZcE (j:Jn) (e:Ev):(Q2 j e).cs.length≤j.cs.length+1:=by
 unfold Q2;split
 · simp;omega
 · simp
theorem rep_len (nm:Nm→Bool):∀ (l:List Ev) (j:Jn) (n:Nat),(ZQ nm j n l).1.cs.length≤j.cs.length+l.length
 | [],j,n=>Nat.le_refl _
 | e::l,j,n=>by
   have h1:=ZcE j e;have h2:=rep_len nm l (Q2 j e) (n+1);show (if Xi nm j n e ≠ 0 then (j,n+1,Xi nm j n e) else ZQ nm (Q2 j e) (n+1) l).1.cs.length≤_
   split
   · simp
   · simp only [List.length_cons];omega
theorem ZcF {l:List Ev} (J:JOk Z7 (ZQ Z7 zJn 0 l).1):(ZQ Z7 zJn 0 l).1.reg.machs.length≤l.length:=by
 have h1:=Mh _ J.run;have h2:=rep_len Z7 l zJn 0;have h3:(YX (ZQ Z7 zJn 0 l).1.cs).length≤(ZQ Z7 zJn 0 l).1.cs.length:=List.length_filterMap_le _ _;have h4:Y6.machs.length=0:=rfl;have h5:zJn.cs.length=0:=rfl;omega
end Go.Sim.Pos
namespace Go.Sim
open Go Go.Proofs
open Go.Sim.Pos (Nm Trk Flt Trn Pos Mch Reg Ev)
set_option maxRecDepth 100000
set_option maxHeartbeats 8000000
theorem en27:ZG 27:=ZI
theorem en26:ZG 26:=ZI
theorem en42:ZG 42:=ZI
def Jp (l:List Ev) (s:Nm):(Int × Int) × Int:=if (Pos.ZQ Z7 Pos.zJn 0 l).2.2 ≠ 0 then ((0,0),(Pos.ZQ Z7 Pos.zJn 0 l).2.2) else match (Pos.ZQ Z7 Pos.zJn 0 l).1.reg.poss? s with
 | none=>((0,0),10)
 | some p=>(((((Pos.ZQ Z7 Pos.zJn 0 l).1.reg.within s).length:Nat),p.pers),0)
theorem r27 (l:List Ev) (s:Nm) (hp:l.length≤1000∧(∀ z ∈ l,EvS z)) {H:Heap}:∃ w H2,R PT (.call H.n 27 [.ps .unk (l.map Pos.Ev.row),.str s] H)=some (.ofVal w H2)∧w.strip=.tup [.agg [i64 (Jp l s).1.1,i64 (Jp l s).1.2],i64 (Jp l s).2]:=by
 refine Za (C:=PT) (f:=27) (lo:=H.n) (args:=[.ps .unk (l.map Pos.Ev.row),.str s]) (H:=H) (fn:=Tryz.f27) (Q:=fun w _=>w.strip=.tup [.agg [i64 (Jp l s).1.1,i64 (Jp l s).1.2],i64 (Jp l s).2]) (by kernel_rfl) Tryz.func27 rfl rfl ?_;obtain ⟨hl,hsm⟩:=hp;obtain ⟨w,H2,hr,hO,ha,hb,J⟩:=Fp (H:=H.push (.cells [.int .i64 0,.int .i64 0] 73)) hl hsm 112 s;have hask:=fun lo K=>Q6 (K:=K) (en73 (lo:=lo) rfl) hr
 unfold Jp;generalize hq:Pos.ZQ Z7 Pos.zJn 0 l=q at *;have h0:H2.get H.n=.cells [.int .i64 0,.int .i64 0] 73:=by rw [hO.2 H.n (by simp),U4]
 have hn1:H.n+1≤H2.n:=hO.1;have hn1':(H.n < H2.n)=True:=eq_true (by omega);have hle:(H.n≤H.n)=True:=eq_true (Nat.le_refl _);by_cases c1:q.2.2=0
 · rw [if_neg (by simpa using c1)];obtain ⟨rfl,V,hR⟩:=hb c1;have e1n:(H.push (.cells [.int .i64 0,.int .i64 0] 73)).n=H.n+1:=rfl;rw [e1n] at hR;cases ht:q.1.reg.poss? s with
   | none =>
     have hin:decide (s ∈ Zz q.1.reg 112)=false:=decide_eq_false (by rw [Pos.Qk,ht];simp);have h10:Z5 true 10=10:=rfl;have h100:((10:Int)=0)=False:=eq_false (by decide);simp (maxDischargeDepth:=12) only [go_sem,reduceEqDiff,reduceAdd,reduceCtorEq,hask,hin,h10,h100,h0];try rfl
   | some y =>
     have hin:decide (s ∈ Zz q.1.reg 112)=true:=decide_eq_true (by rw [Pos.Qk,ht];rfl);have h10:Z5 false 10=0:=rfl;have hpm:=fun lo K=>AQ hR ht (Old.refl H2) (lo:=lo) (K:=K)
     simp (maxDischargeDepth:=12) only [go_sem,reduceEqDiff,reduceAdd,reduceCtorEq,hask,hin,h10,hpm,h0];try rfl
 · rw [if_pos c1];obtain rfl:=ha c1;simp (maxDischargeDepth:=12) only [go_sem,reduceEqDiff,reduceAdd,reduceCtorEq,hask,c1,h0];try rfl
theorem e27 (l:List Ev) (s:Nm) (hp:l.length≤1000∧(∀ z ∈ l,EvS z)) {lo:Nat} {H:Heap} {K:AV→Heap→Prop}:VO (Z8 PT (R PT) lo 27 [.ps .unk (l.map Pos.Ev.row),.str s] H) K=K (.tup [.agg [i64 (Jp l s).1.1,i64 (Jp l s).1.2],i64 (Jp l s).2]) H:=by
 obtain ⟨w,H2,h1,h2⟩:=r27 l s hp (H:=H);exact ZF (en27 rfl) ⟨H2,h1⟩ h2 (by first | rfl | (split<;>first | rfl | (split<;>rfl)))
def Kd (l:List Ev) (s:Nm):Bool × Int:=if (Pos.ZQ Z7 Pos.zJn 0 l).2.2 ≠ 0 then (false,(Pos.ZQ Z7 Pos.zJn 0 l).2.2) else match (Pos.ZQ Z7 Pos.zJn 0 l).1.reg.poss? s with
 | none=>(false,10)
 | some p=>if p.ret=true then (false,23) else ((YI (Pos.ZQ Z7 Pos.zJn 0 l).1.reg s p).isEmpty && decide (0 < p.closed),0)
theorem r26 (l:List Ev) (s:Nm) (hp:l.length≤1000∧(∀ z ∈ l,EvS z)) {H:Heap}:∃ w H2,R PT (.call H.n 26 [.ps .unk (l.map Pos.Ev.row),.str s] H)=some (.ofVal w H2)∧w.strip=.tup [.bool (Kd l s).1,i64 (Kd l s).2]:=by
 refine Za (C:=PT) (f:=26) (lo:=H.n) (args:=[.ps .unk (l.map Pos.Ev.row),.str s]) (H:=H) (fn:=Tryz.f26) (Q:=fun w _=>w.strip=.tup [.bool (Kd l s).1,i64 (Kd l s).2]) (by kernel_rfl) Tryz.func26 rfl rfl ?_
 obtain ⟨hl,hsm⟩:=hp
 obtain ⟨w,H2,hr,hO,ha,hb,J⟩:=Fp (H:=H) hl hsm 112 s
 have hask:=fun lo K=>Q6 (K:=K) (en73 (lo:=lo) rfl) hr
 have hmm:=Pos.ZcF J
 unfold Kd
 generalize hq:Pos.ZQ Z7 Pos.zJn 0 l=q at *
 by_cases c1:q.2.2=0
 · rw [if_neg (by simpa using c1)]
   obtain ⟨rfl,V,hR⟩:=hb c1
   cases ht:q.1.reg.poss? s with
   | none =>
     have hin:decide (s ∈ Zz q.1.reg 112)=false:=decide_eq_false (by rw [Pos.Qk,ht];simp)
     have h10:Z5 true 10=10:=rfl
     have h100:((10:Int)=0)=False:=eq_false (by decide)
     simp (maxDischargeDepth:=12) only [go_sem,reduceEqDiff,reduceAdd,reduceCtorEq,hask,hin,h10,h100]
   | some p =>
     have hin:decide (s ∈ Zz q.1.reg 112)=true:=decide_eq_true (by rw [Pos.Qk,ht];rfl)
     have h10:Z5 false 10=0:=rfl
     obtain ⟨i,hi,hx,hlt,_⟩:=XB ht
     obtain ⟨id,he,hP⟩:=YZ hR hx
     have e1:=fun lo K=>XK hR hi hlt (Old.refl H2) (lo:=lo) (K:=K)
     have e2:=fun lo K=>AS hR ht (by unfold Z1;omega) (Old.refl H2) (lo:=lo) (K:=K)
     have f4:=hP.f4 (Old.refl H2)
     have f7:=hP.f7 (Old.refl H2)
     cases hret:p.ret
     · rw [hret] at f4
       have hlen:(((Z0 (YI q.1.reg s p)).length:Int)=0)=((YI q.1.reg s p).isEmpty=true):=by
        rw [Zt]
        cases YI q.1.reg s p<;>simp
        omega
       cases hemp:(YI q.1.reg s p).isEmpty
       · have hlen:=hlen.trans (by rw [hemp];simp:((YI q.1.reg s p).isEmpty=true)=False)
         simp (maxDischargeDepth:=12) only [go_sem,reduceEqDiff,reduceAdd,reduceCtorEq,hask,hin,h10,e1,e2,he,f4,hlen]
         try simp [hret,hemp]
       · have hlen:=hlen.trans (by rw [hemp];simp:((YI q.1.reg s p).isEmpty=true)=True)
         simp (maxDischargeDepth:=12) only [go_sem,reduceEqDiff,reduceAdd,reduceCtorEq,hask,hin,h10,e1,e2,he,f4,f7,hlen]
         try simp [hret,hemp]
     · rw [hret] at f4
       simp (maxDischargeDepth:=12) only [go_sem,reduceEqDiff,reduceAdd,reduceCtorEq,hask,hin,h10,e1,he,f4]
       try simp [hret]
       try rfl
 · rw [if_pos c1]
   obtain rfl:=ha c1
   simp (maxDischargeDepth:=12) only [go_sem,reduceEqDiff,reduceAdd,reduceCtorEq,hask,c1]
theorem e26 (l:List Ev) (s:Nm) (hp:l.length≤1000∧(∀ z ∈ l,EvS z)) {lo:Nat} {H:Heap} {K:AV→Heap→Prop}:VO (Z8 PT (R PT) lo 26 [.ps .unk (l.map Pos.Ev.row),.str s] H) K=K (.tup [.bool (Kd l s).1,i64 (Kd l s).2]) H:=by
 obtain ⟨w,H2,h1,h2⟩:=r26 l s hp (H:=H);exact ZF (en26 rfl) ⟨H2,h1⟩ h2 (by first | rfl | (split<;>first | rfl | (split<;>rfl)))
theorem r42 (l:List Ev) (s:Nm) (hp:l.length≤1000∧(∀ z ∈ l,EvS z)) {H:Heap}:∃ w H2,R PT (.call H.n 42 [.ps .unk (l.map Pos.Ev.row),.str s] H)=some (.ofVal w H2)∧w.strip=.tup [i64 (JL l s).1,i64 (JL l s).2]:=by
 refine Za (C:=PT) (f:=42) (lo:=H.n) (args:=[.ps .unk (l.map Pos.Ev.row),.str s]) (H:=H) (fn:=Tryz.f42) (Q:=fun w _=>w.strip=.tup [i64 (JL l s).1,i64 (JL l s).2]) (by kernel_rfl) Tryz.func42 rfl rfl ?_;obtain ⟨hl,hsm⟩:=hp;obtain ⟨w,H2,hr,hO,ha,hb,J⟩:=Fp (H:=H) hl hsm 116 s;have hask:=fun lo K=>Q6 (K:=K) (en73 (lo:=lo) rfl) hr
 unfold JL;generalize hq:Pos.ZQ Z7 Pos.zJn 0 l=q at *;by_cases c1:q.2.2=0
 · rw [if_neg (by simpa using c1)];obtain ⟨rfl,V,hR⟩:=hb c1;cases ht:q.1.reg.track? s with
   | none =>
     have hin:decide (s ∈ Zz q.1.reg 116)=false:=decide_eq_false (by rw [Pos.KL,ht];simp);have h10:Z5 true 10=10:=rfl;have h100:((10:Int)=0)=False:=eq_false (by decide);simp (maxDischargeDepth:=12) only [go_sem,reduceEqDiff,reduceAdd,reduceCtorEq,hask,hin,h10,h100]
   | some y =>
     have hin:decide (s ∈ Zz q.1.reg 116)=true:=decide_eq_true (by rw [Pos.KL,ht];rfl);have h10:Z5 false 10=0:=rfl;have hpm:=fun lo K=>AM hR ht (Old.refl H2) (lo:=lo) (K:=K)
     have htk:=fun lo K=>LO hR s (Old.refl H2) (lo:=lo) (K:=K)
     have hsi:=fun lo K=>LH hR s (Old.refl H2) (lo:=lo) (K:=K)
     have hfi:Z9 [Z5 (q.1.reg.taken s) 31,Z5 (q.1.reg.silentOn s) 32,Z5 (decide (q.1.reg.permitted s=0)) 7]=Pos.UN q.1.reg s:=by
      rw [Pos.Yf _ _ _ (by decide),Pos.Yf _ _ _ (by decide),Pos.Yf _ _ _ (by decide),Pos.Ql];unfold Pos.UN;simp only [decide_eq_true_eq]
     by_cases c2:Pos.UN q.1.reg s=0
     · simp (maxDischargeDepth:=12) only [go_sem,reduceEqDiff,reduceAdd,reduceMul,reduceLeDiff,reduceCtorEq,hask,hin,h10,hpm,htk,hsi,hfi,c2];rfl
     · simp (maxDischargeDepth:=12) only [go_sem,reduceEqDiff,reduceAdd,reduceMul,reduceLeDiff,reduceCtorEq,hask,hin,h10,hpm,htk,hsi,hfi,c2];rw [if_pos c2]
 · rw [if_pos c1];obtain rfl:=ha c1;simp (maxDischargeDepth:=12) only [go_sem,reduceEqDiff,reduceAdd,reduceCtorEq,hask,c1]
theorem e42 (l:List Ev) (s:Nm) (hp:l.length≤1000∧(∀ z ∈ l,EvS z)) {lo:Nat} {H:Heap} {K:AV→Heap→Prop}:VO (Z8 PT (R PT) lo 42 [.ps .unk (l.map Pos.Ev.row),.str s] H) K=K (.tup [i64 (JL l s).1,i64 (JL l s).2]) H:=by
 obtain ⟨w,H2,h1,h2⟩:=r42 l s hp (H:=H);exact ZF (en42 rfl) ⟨H2,h1⟩ h2 (by first | rfl | (split<;>first | rfl | (split<;>rfl)))
end Go.Sim

namespace Go.Sim
open Go Go.Proofs
open Go.Sim.Pos (Nm Trk Flt Trn Pos Mch Reg Ev)
set_option maxRecDepth 100000
set_option maxHeartbeats 8000000
theorem en75:ZG 75:=ZI
theorem ZcG {r:Reg} {tk:Int} {x:Nm} (ho:Pos.okA r tk (.leave x)=0):∃ q,r.train? x=some q:=by
 unfold Pos.okA at ho;split at ho
 · cases ho
 simp only at ho;cases h:r.train? x with
 | some q=>exact ⟨q,rfl⟩
 | none=>rw [h] at ho;simp at ho
theorem ZcH {r:Reg} {tk:Int} {x:Nm} (ho:Pos.okA r tk (.out x)=0):∃ q,r.mach? x=some q:=by
 unfold Pos.okA at ho;split at ho
 · cases ho
 simp only at ho;cases h:r.mach? x with
 | some q=>exact ⟨q,rfl⟩
 | none=>rw [h] at ho;simp at ho
theorem el_R {H:Heap} {b o:Nat} {r:Reg} {V:RegV} (h:RegIs H b o r V) {i:Nat} {x:Trn} (hx:r.trains[i]? = some x):elA V.vR 3 i=.pptr [.str x.name,.str x.track,.int .i64 x.speed]:=by
 obtain ⟨t,e,_⟩:=h.aR;rw [e];show AV.pptr _=_;rw [Y1 hx];rfl
theorem el_M {H:Heap} {b o:Nat} {r:Reg} {V:RegV} (h:RegIs H b o r V) {i:Nat} {x:Mch} (hx:r.machs[i]? = some x):elA V.vM 2 i=.pptr [.str x.name,.str x.poss]:=by
 obtain ⟨t,e,_⟩:=h.aM;rw [e];show AV.pptr _=_;rw [Y1 hx];rfl
theorem ZcI {H:Heap} {b o:Nat} {r:Reg} {V:RegV} (h:RegIs H b o r V) {num tk:Int} {t:Nm} {v:Int} (hok:Pos.okA r tk (.track t v)=0):∃ w H2,R PT (.call H.n 75 [.ptr b o,.agg [.int .i64 num,.str Pos.XR,.ps .unk (Z0 [t]),.ps .unk (Z3 [tk,v]),.str []]] H)=some (.ofVal w H2)∧w=.str (Pos.about r (.track t v)):=by
 refine Za (C:=PT) (f:=75) (lo:=H.n) (args:=[.ptr b o,.agg [.int .i64 num,.str Pos.XR,.ps .unk (Z0 [t]),.ps .unk (Z3 [tk,v]),.str []]]) (H:=H) (fn:=Tryz.f75) (Q:=fun w _=>w=.str (Pos.about r (.track t v))) (by kernel_rfl) Tryz.func75 rfl rfl ?_;have hn:Z0 [t]=[[.str t]]:=rfl;have ho:Old H.n H (H.push (.cells [.int .i64 num,.str Pos.XR,.ps .unk ([[.str t]]),.ps .unk (Z3 [tk,v]),.str []] 53)):=(Old.refl H).push _;have c0:Z6 Pos.XR [116,114,97,99,107]=true:=by decide
 simp (maxDischargeDepth:=12) only [go_sem,reduceEqDiff,reduceAdd,reduceCtorEq,hn,c0];try rfl
theorem ZcJ {H:Heap} {b o:Nat} {r:Reg} {V:RegV} (h:RegIs H b o r V) {num tk:Int} {f:Nm} {t:Nm} {x1:Int} {x2:Int} {v:Int} (hok:Pos.okA r tk (.fault f t x1 x2 v)=0):∃ w H2,R PT (.call H.n 75 [.ptr b o,.agg [.int .i64 num,.str Pos.XI,.ps .unk (Z0 [f,t]),.ps .unk (Z3 [tk,x1,x2,v]),.str []]] H)=some (.ofVal w H2)∧w=.str (Pos.about r (.fault f t x1 x2 v)):=by
 refine Za (C:=PT) (f:=75) (lo:=H.n) (args:=[.ptr b o,.agg [.int .i64 num,.str Pos.XI,.ps .unk (Z0 [f,t]),.ps .unk (Z3 [tk,x1,x2,v]),.str []]]) (H:=H) (fn:=Tryz.f75) (Q:=fun w _=>w=.str (Pos.about r (.fault f t x1 x2 v))) (by kernel_rfl) Tryz.func75 rfl rfl ?_;have hn:Z0 [f,t]=[[.str f],[.str t]]:=rfl;have ho:Old H.n H (H.push (.cells [.int .i64 num,.str Pos.XI,.ps .unk ([[.str f],[.str t]]),.ps .unk (Z3 [tk,x1,x2,v]),.str []] 53)):=(Old.refl H).push _;have c0:Z6 Pos.XI [116,114,97,99,107]=false:=by decide
 have c1:Z6 Pos.XI [102,97,117,108,116]=true:=by decide
 simp (maxDischargeDepth:=12) only [go_sem,reduceEqDiff,reduceAdd,reduceCtorEq,hn,c0,c1];try rfl
theorem ZcK {H:Heap} {b o:Nat} {r:Reg} {V:RegV} (h:RegIs H b o r V) {num tk:Int} {f:Nm} (hok:Pos.okA r tk (.answer f)=0):∃ w H2,R PT (.call H.n 75 [.ptr b o,.agg [.int .i64 num,.str Pos.Xg,.ps .unk (Z0 [f]),.ps .unk (Z3 [tk]),.str []]] H)=some (.ofVal w H2)∧w=.str (Pos.about r (.answer f)):=by
 refine Za (C:=PT) (f:=75) (lo:=H.n) (args:=[.ptr b o,.agg [.int .i64 num,.str Pos.Xg,.ps .unk (Z0 [f]),.ps .unk (Z3 [tk]),.str []]]) (H:=H) (fn:=Tryz.f75) (Q:=fun w _=>w=.str (Pos.about r (.answer f))) (by kernel_rfl) Tryz.func75 rfl rfl ?_;have hn:Z0 [f]=[[.str f]]:=rfl;have ho:Old H.n H (H.push (.cells [.int .i64 num,.str Pos.Xg,.ps .unk ([[.str f]]),.ps .unk (Z3 [tk]),.str []] 53)):=(Old.refl H).push _;have c0:Z6 Pos.Xg [116,114,97,99,107]=false:=by decide
 have c1:Z6 Pos.Xg [102,97,117,108,116]=false:=by decide
 have c2:Z6 Pos.Xg [101,110,116,101,114]=false:=by decide
 have c3:Z6 Pos.Xg [116,97,107,101]=false:=by decide
 have c4:Z6 Pos.Xg [97,110,115,119,101,114]=true:=by decide
 obtain ⟨y,hy⟩:=Pos.GW (.inl hok);obtain ⟨i,hi,hx,hlt,_⟩:=XB hy;obtain ⟨id,he,hP⟩:=el_F h hx;have e1:=fun lo K=>U3 h hi hlt ho (lo:=lo) (K:=K)
 have f1:=hP.f1 ho;have hab:Pos.about r (.answer f)=y.track:=by show ((r.fault? f).getD default).track=_;rw [hy];rfl
 rw [hab];simp (maxDischargeDepth:=12) only [go_sem,reduceEqDiff,reduceAdd,reduceCtorEq,hn,c0,c1,c2,c3,c4,e1,he,f1]
theorem ZcL {H:Heap} {b o:Nat} {r:Reg} {V:RegV} (h:RegIs H b o r V) {num tk:Int} {f:Nm} {p:Nm} (hok:Pos.okA r tk (.repair f p)=0):∃ w H2,R PT (.call H.n 75 [.ptr b o,.agg [.int .i64 num,.str Pos.X6,.ps .unk (Z0 [f,p]),.ps .unk (Z3 [tk]),.str []]] H)=some (.ofVal w H2)∧w=.str (Pos.about r (.repair f p)):=by
 refine Za (C:=PT) (f:=75) (lo:=H.n) (args:=[.ptr b o,.agg [.int .i64 num,.str Pos.X6,.ps .unk (Z0 [f,p]),.ps .unk (Z3 [tk]),.str []]]) (H:=H) (fn:=Tryz.f75) (Q:=fun w _=>w=.str (Pos.about r (.repair f p))) (by kernel_rfl) Tryz.func75 rfl rfl ?_;have hn:Z0 [f,p]=[[.str f],[.str p]]:=rfl;have ho:Old H.n H (H.push (.cells [.int .i64 num,.str Pos.X6,.ps .unk ([[.str f],[.str p]]),.ps .unk (Z3 [tk]),.str []] 53)):=(Old.refl H).push _;have c0:Z6 Pos.X6 [116,114,97,99,107]=false:=by decide
 have c1:Z6 Pos.X6 [102,97,117,108,116]=false:=by decide
 have c2:Z6 Pos.X6 [101,110,116,101,114]=false:=by decide
 have c3:Z6 Pos.X6 [116,97,107,101]=false:=by decide
 have c4:Z6 Pos.X6 [97,110,115,119,101,114]=false:=by decide
 have c5:Z6 Pos.X6 [114,101,112,97,105,114]=true:=by decide
 obtain ⟨y,hy⟩:=Pos.GW (.inr ⟨_,hok⟩);obtain ⟨i,hi,hx,hlt,_⟩:=XB hy;obtain ⟨id,he,hP⟩:=el_F h hx;have e1:=fun lo K=>U3 h hi hlt ho (lo:=lo) (K:=K)
 have f1:=hP.f1 ho;have hab:Pos.about r (.repair f p)=y.track:=by show ((r.fault? f).getD default).track=_;rw [hy];rfl
 rw [hab];simp (maxDischargeDepth:=12) only [go_sem,reduceEqDiff,reduceAdd,reduceCtorEq,hn,c0,c1,c2,c3,c4,c5,e1,he,f1]
theorem ZcM {H:Heap} {b o:Nat} {r:Reg} {V:RegV} (h:RegIs H b o r V) {num tk:Int} {x:Nm} {t:Nm} {v:Int} (hok:Pos.okA r tk (.enter x t v)=0):∃ w H2,R PT (.call H.n 75 [.ptr b o,.agg [.int .i64 num,.str Pos.Yo,.ps .unk (Z0 [x,t]),.ps .unk (Z3 [tk,v]),.str []]] H)=some (.ofVal w H2)∧w=.str (Pos.about r (.enter x t v)):=by
 refine Za (C:=PT) (f:=75) (lo:=H.n) (args:=[.ptr b o,.agg [.int .i64 num,.str Pos.Yo,.ps .unk (Z0 [x,t]),.ps .unk (Z3 [tk,v]),.str []]]) (H:=H) (fn:=Tryz.f75) (Q:=fun w _=>w=.str (Pos.about r (.enter x t v))) (by kernel_rfl) Tryz.func75 rfl rfl ?_;have hn:Z0 [x,t]=[[.str x],[.str t]]:=rfl;have ho:Old H.n H (H.push (.cells [.int .i64 num,.str Pos.Yo,.ps .unk ([[.str x],[.str t]]),.ps .unk (Z3 [tk,v]),.str []] 53)):=(Old.refl H).push _;have c0:Z6 Pos.Yo [116,114,97,99,107]=false:=by decide
 have c1:Z6 Pos.Yo [102,97,117,108,116]=false:=by decide
 have c2:Z6 Pos.Yo [101,110,116,101,114]=true:=by decide
 simp (maxDischargeDepth:=12) only [go_sem,reduceEqDiff,reduceAdd,reduceCtorEq,hn,c0,c1,c2];try rfl
theorem ZcN {H:Heap} {b o:Nat} {r:Reg} {V:RegV} (h:RegIs H b o r V) {num tk:Int} {x:Nm} (hok:Pos.okA r tk (.leave x)=0):∃ w H2,R PT (.call H.n 75 [.ptr b o,.agg [.int .i64 num,.str Pos.YW,.ps .unk (Z0 [x]),.ps .unk (Z3 [tk]),.str []]] H)=some (.ofVal w H2)∧w=.str (Pos.about r (.leave x)):=by
 refine Za (C:=PT) (f:=75) (lo:=H.n) (args:=[.ptr b o,.agg [.int .i64 num,.str Pos.YW,.ps .unk (Z0 [x]),.ps .unk (Z3 [tk]),.str []]]) (H:=H) (fn:=Tryz.f75) (Q:=fun w _=>w=.str (Pos.about r (.leave x))) (by kernel_rfl) Tryz.func75 rfl rfl ?_;have hn:Z0 [x]=[[.str x]]:=rfl;have ho:Old H.n H (H.push (.cells [.int .i64 num,.str Pos.YW,.ps .unk ([[.str x]]),.ps .unk (Z3 [tk]),.str []] 53)):=(Old.refl H).push _;have c0:Z6 Pos.YW [116,114,97,99,107]=false:=by decide
 have c1:Z6 Pos.YW [102,97,117,108,116]=false:=by decide
 have c2:Z6 Pos.YW [101,110,116,101,114]=false:=by decide
 have c3:Z6 Pos.YW [116,97,107,101]=false:=by decide
 have c4:Z6 Pos.YW [97,110,115,119,101,114]=false:=by decide
 have c5:Z6 Pos.YW [114,101,112,97,105,114]=false:=by decide
 have c6:Z6 Pos.YW [108,101,97,118,101]=true:=by decide
 obtain ⟨y,hy⟩:=ZcG hok;obtain ⟨i,hi,hx,hlt,_⟩:=XB hy;have he:=el_R h hx;have l3:=h.l3 ho;have e1:=fun lo K=>KK h 114 ho (lo:=lo) (K:=K)
 have hnm:Zz r 114=r.trains.map (·.name):=rfl;have e2:=F3 (Zz r 114) x (by rw [hnm,List.length_map];exact h.lR);rw [hnm,hi] at e2;rw [hnm] at e1;have e3:=h.sR.idx (t:=45) (by kernel_rfl) (by kernel_rfl) (Zw (by intro x;rfl) _) (by rw [List.length_map];exact hlt) .i64;rw [he] at e3;have hab:Pos.about r (.leave x)=y.track:=by show ((r.train? x).getD default).track=_;rw [hy];rfl
 have hbn:=eq_true h.bn;have hbn1:(b < H.n+1)=True:=eq_true (by have:=h.bn;omega);rw [hab];simp (maxDischargeDepth:=12) only [go_sem,reduceEqDiff,reduceAdd,reduceSub,reduceCtorEq,hn,c0,c1,c2,c3,c4,c5,c6,l3,e1,e2,e3,hbn1]
theorem ZcO {H:Heap} {b o:Nat} {r:Reg} {V:RegV} (h:RegIs H b o r V) {num tk:Int} {p:Nm} {t:Nm} {x1:Int} {x2:Int} (hok:Pos.okA r tk (.take p t x1 x2)=0):∃ w H2,R PT (.call H.n 75 [.ptr b o,.agg [.int .i64 num,.str Pos.Xr,.ps .unk (Z0 [p,t]),.ps .unk (Z3 [tk,x1,x2]),.str []]] H)=some (.ofVal w H2)∧w=.str (Pos.about r (.take p t x1 x2)):=by
 refine Za (C:=PT) (f:=75) (lo:=H.n) (args:=[.ptr b o,.agg [.int .i64 num,.str Pos.Xr,.ps .unk (Z0 [p,t]),.ps .unk (Z3 [tk,x1,x2]),.str []]]) (H:=H) (fn:=Tryz.f75) (Q:=fun w _=>w=.str (Pos.about r (.take p t x1 x2))) (by kernel_rfl) Tryz.func75 rfl rfl ?_;have hn:Z0 [p,t]=[[.str p],[.str t]]:=rfl;have ho:Old H.n H (H.push (.cells [.int .i64 num,.str Pos.Xr,.ps .unk ([[.str p],[.str t]]),.ps .unk (Z3 [tk,x1,x2]),.str []] 53)):=(Old.refl H).push _;have c0:Z6 Pos.Xr [116,114,97,99,107]=false:=by decide
 have c1:Z6 Pos.Xr [102,97,117,108,116]=false:=by decide
 have c2:Z6 Pos.Xr [101,110,116,101,114]=false:=by decide
 have c3:Z6 Pos.Xr [116,97,107,101]=true:=by decide
 simp (maxDischargeDepth:=12) only [go_sem,reduceEqDiff,reduceAdd,reduceCtorEq,hn,c0,c1,c2,c3];try rfl
theorem ZcP {H:Heap} {b o:Nat} {r:Reg} {V:RegV} (h:RegIs H b o r V) {num tk:Int} {p:Nm} (hok:Pos.okA r tk (.prot p)=0):∃ w H2,R PT (.call H.n 75 [.ptr b o,.agg [.int .i64 num,.str Pos.YA,.ps .unk (Z0 [p]),.ps .unk (Z3 [tk]),.str []]] H)=some (.ofVal w H2)∧w=.str (Pos.about r (.prot p)):=by
 refine Za (C:=PT) (f:=75) (lo:=H.n) (args:=[.ptr b o,.agg [.int .i64 num,.str Pos.YA,.ps .unk (Z0 [p]),.ps .unk (Z3 [tk]),.str []]]) (H:=H) (fn:=Tryz.f75) (Q:=fun w _=>w=.str (Pos.about r (.prot p))) (by kernel_rfl) Tryz.func75 rfl rfl ?_;have hn:Z0 [p]=[[.str p]]:=rfl;have ho:Old H.n H (H.push (.cells [.int .i64 num,.str Pos.YA,.ps .unk ([[.str p]]),.ps .unk (Z3 [tk]),.str []] 53)):=(Old.refl H).push _;have c0:Z6 Pos.YA [116,114,97,99,107]=false:=by decide
 have c1:Z6 Pos.YA [102,97,117,108,116]=false:=by decide
 have c2:Z6 Pos.YA [101,110,116,101,114]=false:=by decide
 have c3:Z6 Pos.YA [116,97,107,101]=false:=by decide
 have c4:Z6 Pos.YA [97,110,115,119,101,114]=false:=by decide
 have c5:Z6 Pos.YA [114,101,112,97,105,114]=false:=by decide
 have c6:Z6 Pos.YA [108,101,97,118,101]=false:=by decide
 have c7:Z6 Pos.YA [105,110]=false:=by decide
 have c8:Z6 Pos.YA [111,117,116]=false:=by decide
 obtain ⟨y,hy⟩:=Pos.Xx hok (p:=p) rfl;obtain ⟨i,hi,hx,hlt,_⟩:=XB hy;obtain ⟨id,he,hP⟩:=YZ h hx;have e1:=fun lo K=>XK h hi hlt ho (lo:=lo) (K:=K)
 have f1:=hP.f1 ho;have hab:Pos.about r (.prot p)=y.track:=by show ((r.poss? p).getD default).track=_;rw [hy];rfl
 rw [hab];simp (maxDischargeDepth:=12) only [go_sem,reduceEqDiff,reduceAdd,reduceCtorEq,hn,c0,c1,c2,c3,c4,c5,c6,c7,c8,e1,he,f1]
theorem ZcQ {H:Heap} {b o:Nat} {r:Reg} {V:RegV} (h:RegIs H b o r V) {num tk:Int} {p:Nm} (hok:Pos.okA r tk (.clear p)=0):∃ w H2,R PT (.call H.n 75 [.ptr b o,.agg [.int .i64 num,.str Pos.YB,.ps .unk (Z0 [p]),.ps .unk (Z3 [tk]),.str []]] H)=some (.ofVal w H2)∧w=.str (Pos.about r (.clear p)):=by
 refine Za (C:=PT) (f:=75) (lo:=H.n) (args:=[.ptr b o,.agg [.int .i64 num,.str Pos.YB,.ps .unk (Z0 [p]),.ps .unk (Z3 [tk]),.str []]]) (H:=H) (fn:=Tryz.f75) (Q:=fun w _=>w=.str (Pos.about r (.clear p))) (by kernel_rfl) Tryz.func75 rfl rfl ?_;have hn:Z0 [p]=[[.str p]]:=rfl;have ho:Old H.n H (H.push (.cells [.int .i64 num,.str Pos.YB,.ps .unk ([[.str p]]),.ps .unk (Z3 [tk]),.str []] 53)):=(Old.refl H).push _;have c0:Z6 Pos.YB [116,114,97,99,107]=false:=by decide
 have c1:Z6 Pos.YB [102,97,117,108,116]=false:=by decide
 have c2:Z6 Pos.YB [101,110,116,101,114]=false:=by decide
 have c3:Z6 Pos.YB [116,97,107,101]=false:=by decide
 have c4:Z6 Pos.YB [97,110,115,119,101,114]=false:=by decide
 have c5:Z6 Pos.YB [114,101,112,97,105,114]=false:=by decide
 have c6:Z6 Pos.YB [108,101,97,118,101]=false:=by decide
 have c7:Z6 Pos.YB [105,110]=false:=by decide
 have c8:Z6 Pos.YB [111,117,116]=false:=by decide
 obtain ⟨y,hy⟩:=Pos.Xx hok (p:=p) rfl;obtain ⟨i,hi,hx,hlt,_⟩:=XB hy;obtain ⟨id,he,hP⟩:=YZ h hx;have e1:=fun lo K=>XK h hi hlt ho (lo:=lo) (K:=K)
 have f1:=hP.f1 ho;have hab:Pos.about r (.clear p)=y.track:=by show ((r.poss? p).getD default).track=_;rw [hy];rfl
 rw [hab];simp (maxDischargeDepth:=12) only [go_sem,reduceEqDiff,reduceAdd,reduceCtorEq,hn,c0,c1,c2,c3,c4,c5,c6,c7,c8,e1,he,f1]
theorem ZcR {H:Heap} {b o:Nat} {r:Reg} {V:RegV} (h:RegIs H b o r V) {num tk:Int} {m:Nm} {p:Nm} (hok:Pos.okA r tk (.into m p)=0):∃ w H2,R PT (.call H.n 75 [.ptr b o,.agg [.int .i64 num,.str Pos.kIn,.ps .unk (Z0 [m,p]),.ps .unk (Z3 [tk]),.str []]] H)=some (.ofVal w H2)∧w=.str (Pos.about r (.into m p)):=by
 refine Za (C:=PT) (f:=75) (lo:=H.n) (args:=[.ptr b o,.agg [.int .i64 num,.str Pos.kIn,.ps .unk (Z0 [m,p]),.ps .unk (Z3 [tk]),.str []]]) (H:=H) (fn:=Tryz.f75) (Q:=fun w _=>w=.str (Pos.about r (.into m p))) (by kernel_rfl) Tryz.func75 rfl rfl ?_;have hn:Z0 [m,p]=[[.str m],[.str p]]:=rfl;have ho:Old H.n H (H.push (.cells [.int .i64 num,.str Pos.kIn,.ps .unk ([[.str m],[.str p]]),.ps .unk (Z3 [tk]),.str []] 53)):=(Old.refl H).push _;have c0:Z6 Pos.kIn [116,114,97,99,107]=false:=by decide
 have c1:Z6 Pos.kIn [102,97,117,108,116]=false:=by decide
 have c2:Z6 Pos.kIn [101,110,116,101,114]=false:=by decide
 have c3:Z6 Pos.kIn [116,97,107,101]=false:=by decide
 have c4:Z6 Pos.kIn [97,110,115,119,101,114]=false:=by decide
 have c5:Z6 Pos.kIn [114,101,112,97,105,114]=false:=by decide
 have c6:Z6 Pos.kIn [108,101,97,118,101]=false:=by decide
 have c7:Z6 Pos.kIn [105,110]=true:=by decide
 obtain ⟨y,hy⟩:=Pos.Xx hok (p:=p) rfl;obtain ⟨i,hi,hx,hlt,_⟩:=XB hy;obtain ⟨id,he,hP⟩:=YZ h hx;have e1:=fun lo K=>XK h hi hlt ho (lo:=lo) (K:=K)
 have f1:=hP.f1 ho;have hab:Pos.about r (.into m p)=y.track:=by show ((r.poss? p).getD default).track=_;rw [hy];rfl
 rw [hab];simp (maxDischargeDepth:=12) only [go_sem,reduceEqDiff,reduceAdd,reduceCtorEq,hn,c0,c1,c2,c3,c4,c5,c6,c7,e1,he,f1]
theorem ZcS {H:Heap} {b o:Nat} {r:Reg} {V:RegV} (h:RegIs H b o r V) {num tk:Int} {m:Nm} (I:Pos.Inv r) (hok:Pos.okA r tk (.out m)=0):∃ w H2,R PT (.call H.n 75 [.ptr b o,.agg [.int .i64 num,.str Pos.YC,.ps .unk (Z0 [m]),.ps .unk (Z3 [tk]),.str []]] H)=some (.ofVal w H2)∧w=.str (Pos.about r (.out m)):=by
 refine Za (C:=PT) (f:=75) (lo:=H.n) (args:=[.ptr b o,.agg [.int .i64 num,.str Pos.YC,.ps .unk (Z0 [m]),.ps .unk (Z3 [tk]),.str []]]) (H:=H) (fn:=Tryz.f75) (Q:=fun w _=>w=.str (Pos.about r (.out m))) (by kernel_rfl) Tryz.func75 rfl rfl ?_;have hn:Z0 [m]=[[.str m]]:=rfl;have ho:Old H.n H (H.push (.cells [.int .i64 num,.str Pos.YC,.ps .unk ([[.str m]]),.ps .unk (Z3 [tk]),.str []] 53)):=(Old.refl H).push _;have c0:Z6 Pos.YC [116,114,97,99,107]=false:=by decide
 have c1:Z6 Pos.YC [102,97,117,108,116]=false:=by decide
 have c2:Z6 Pos.YC [101,110,116,101,114]=false:=by decide
 have c3:Z6 Pos.YC [116,97,107,101]=false:=by decide
 have c4:Z6 Pos.YC [97,110,115,119,101,114]=false:=by decide
 have c5:Z6 Pos.YC [114,101,112,97,105,114]=false:=by decide
 have c6:Z6 Pos.YC [108,101,97,118,101]=false:=by decide
 have c7:Z6 Pos.YC [105,110]=false:=by decide
 have c8:Z6 Pos.YC [111,117,116]=true:=by decide
 obtain ⟨y,hy⟩:=ZcH hok;obtain ⟨i,hi,hx,hlt,_⟩:=XB hy;have he:=el_M h hx;have l5:=h.l5 ho;have e1:=fun lo K=>KK h 109 ho (lo:=lo) (K:=K)
 have hnm:Zz r 109=r.machs.map (·.name):=rfl;have e2:=F3 (Zz r 109) m (by rw [hnm,List.length_map];exact h.lM);rw [hnm,hi] at e2;rw [hnm] at e1;have e3:=h.sM.idx (t:=47) (by kernel_rfl) (by kernel_rfl) (Zw (by intro x;rfl) _) (by rw [List.length_map];exact hlt) .i64;rw [he] at e3;obtain ⟨z,hz⟩:=Pos.Z5a (I.rM y (List.mem_of_getElem? hx));obtain ⟨k,hk,hx2,hlt2,_⟩:=XB hz;obtain ⟨id,he2,hP⟩:=YZ h hx2;have e4:=fun lo K=>XK h hk hlt2 ho (lo:=lo) (K:=K)
 have f1:=hP.f1 ho;have hab:Pos.about r (.out m)=z.track:=by
  show ((r.poss? ((r.mach? m).getD default).poss).getD default).track=_;rw [hy];show ((r.poss? y.poss).getD default).track=_;rw [hz];rfl
 have hbn:=eq_true h.bn;have hbn1:(b < H.n+1)=True:=eq_true (by have:=h.bn;omega);rw [hab];simp (maxDischargeDepth:=12) only [go_sem,reduceEqDiff,reduceAdd,reduceSub,reduceCtorEq,hn,c0,c1,c2,c3,c4,c5,c6,c7,c8,l5,e1,e2,e3,e4,he2,f1,hbn1]
theorem ZcT {H:Heap} {b o:Nat} {r:Reg} {V:RegV} (h:RegIs H b o r V) {num tk:Int} {p:Nm} {v:Int} (hok:Pos.okA r tk (.staff p v)=0):∃ w H2,R PT (.call H.n 75 [.ptr b o,.agg [.int .i64 num,.str Pos.YD,.ps .unk (Z0 [p]),.ps .unk (Z3 [tk,v]),.str []]] H)=some (.ofVal w H2)∧w=.str (Pos.about r (.staff p v)):=by
 refine Za (C:=PT) (f:=75) (lo:=H.n) (args:=[.ptr b o,.agg [.int .i64 num,.str Pos.YD,.ps .unk (Z0 [p]),.ps .unk (Z3 [tk,v]),.str []]]) (H:=H) (fn:=Tryz.f75) (Q:=fun w _=>w=.str (Pos.about r (.staff p v))) (by kernel_rfl) Tryz.func75 rfl rfl ?_;have hn:Z0 [p]=[[.str p]]:=rfl;have ho:Old H.n H (H.push (.cells [.int .i64 num,.str Pos.YD,.ps .unk ([[.str p]]),.ps .unk (Z3 [tk,v]),.str []] 53)):=(Old.refl H).push _;have c0:Z6 Pos.YD [116,114,97,99,107]=false:=by decide
 have c1:Z6 Pos.YD [102,97,117,108,116]=false:=by decide
 have c2:Z6 Pos.YD [101,110,116,101,114]=false:=by decide
 have c3:Z6 Pos.YD [116,97,107,101]=false:=by decide
 have c4:Z6 Pos.YD [97,110,115,119,101,114]=false:=by decide
 have c5:Z6 Pos.YD [114,101,112,97,105,114]=false:=by decide
 have c6:Z6 Pos.YD [108,101,97,118,101]=false:=by decide
 have c7:Z6 Pos.YD [105,110]=false:=by decide
 have c8:Z6 Pos.YD [111,117,116]=false:=by decide
 obtain ⟨y,hy⟩:=Pos.Xx hok (p:=p) rfl;obtain ⟨i,hi,hx,hlt,_⟩:=XB hy;obtain ⟨id,he,hP⟩:=YZ h hx;have e1:=fun lo K=>XK h hi hlt ho (lo:=lo) (K:=K)
 have f1:=hP.f1 ho;have hab:Pos.about r (.staff p v)=y.track:=by show ((r.poss? p).getD default).track=_;rw [hy];rfl
 rw [hab];simp (maxDischargeDepth:=12) only [go_sem,reduceEqDiff,reduceAdd,reduceCtorEq,hn,c0,c1,c2,c3,c4,c5,c6,c7,c8,e1,he,f1]
theorem ZcU {H:Heap} {b o:Nat} {r:Reg} {V:RegV} (h:RegIs H b o r V) {num tk:Int} {p:Nm} {v:Int} (hok:Pos.okA r tk (.off p v)=0):∃ w H2,R PT (.call H.n 75 [.ptr b o,.agg [.int .i64 num,.str Pos.YE,.ps .unk (Z0 [p]),.ps .unk (Z3 [tk,v]),.str []]] H)=some (.ofVal w H2)∧w=.str (Pos.about r (.off p v)):=by
 refine Za (C:=PT) (f:=75) (lo:=H.n) (args:=[.ptr b o,.agg [.int .i64 num,.str Pos.YE,.ps .unk (Z0 [p]),.ps .unk (Z3 [tk,v]),.str []]]) (H:=H) (fn:=Tryz.f75) (Q:=fun w _=>w=.str (Pos.about r (.off p v))) (by kernel_rfl) Tryz.func75 rfl rfl ?_;have hn:Z0 [p]=[[.str p]]:=rfl;have ho:Old H.n H (H.push (.cells [.int .i64 num,.str Pos.YE,.ps .unk ([[.str p]]),.ps .unk (Z3 [tk,v]),.str []] 53)):=(Old.refl H).push _;have c0:Z6 Pos.YE [116,114,97,99,107]=false:=by decide
 have c1:Z6 Pos.YE [102,97,117,108,116]=false:=by decide
 have c2:Z6 Pos.YE [101,110,116,101,114]=false:=by decide
 have c3:Z6 Pos.YE [116,97,107,101]=false:=by decide
 have c4:Z6 Pos.YE [97,110,115,119,101,114]=false:=by decide
 have c5:Z6 Pos.YE [114,101,112,97,105,114]=false:=by decide
 have c6:Z6 Pos.YE [108,101,97,118,101]=false:=by decide
 have c7:Z6 Pos.YE [105,110]=false:=by decide
 have c8:Z6 Pos.YE [111,117,116]=false:=by decide
 obtain ⟨y,hy⟩:=Pos.Xx hok (p:=p) rfl;obtain ⟨i,hi,hx,hlt,_⟩:=XB hy;obtain ⟨id,he,hP⟩:=YZ h hx;have e1:=fun lo K=>XK h hi hlt ho (lo:=lo) (K:=K)
 have f1:=hP.f1 ho;have hab:Pos.about r (.off p v)=y.track:=by show ((r.poss? p).getD default).track=_;rw [hy];rfl
 rw [hab];simp (maxDischargeDepth:=12) only [go_sem,reduceEqDiff,reduceAdd,reduceCtorEq,hn,c0,c1,c2,c3,c4,c5,c6,c7,c8,e1,he,f1]
theorem ZcV {H:Heap} {b o:Nat} {r:Reg} {V:RegV} (h:RegIs H b o r V) {num tk:Int} {p:Nm} (hok:Pos.okA r tk (.opn p)=0):∃ w H2,R PT (.call H.n 75 [.ptr b o,.agg [.int .i64 num,.str Pos.YF,.ps .unk (Z0 [p]),.ps .unk (Z3 [tk]),.str []]] H)=some (.ofVal w H2)∧w=.str (Pos.about r (.opn p)):=by
 refine Za (C:=PT) (f:=75) (lo:=H.n) (args:=[.ptr b o,.agg [.int .i64 num,.str Pos.YF,.ps .unk (Z0 [p]),.ps .unk (Z3 [tk]),.str []]]) (H:=H) (fn:=Tryz.f75) (Q:=fun w _=>w=.str (Pos.about r (.opn p))) (by kernel_rfl) Tryz.func75 rfl rfl ?_;have hn:Z0 [p]=[[.str p]]:=rfl;have ho:Old H.n H (H.push (.cells [.int .i64 num,.str Pos.YF,.ps .unk ([[.str p]]),.ps .unk (Z3 [tk]),.str []] 53)):=(Old.refl H).push _;have c0:Z6 Pos.YF [116,114,97,99,107]=false:=by decide
 have c1:Z6 Pos.YF [102,97,117,108,116]=false:=by decide
 have c2:Z6 Pos.YF [101,110,116,101,114]=false:=by decide
 have c3:Z6 Pos.YF [116,97,107,101]=false:=by decide
 have c4:Z6 Pos.YF [97,110,115,119,101,114]=false:=by decide
 have c5:Z6 Pos.YF [114,101,112,97,105,114]=false:=by decide
 have c6:Z6 Pos.YF [108,101,97,118,101]=false:=by decide
 have c7:Z6 Pos.YF [105,110]=false:=by decide
 have c8:Z6 Pos.YF [111,117,116]=false:=by decide
 obtain ⟨y,hy⟩:=Pos.Xx hok (p:=p) rfl;obtain ⟨i,hi,hx,hlt,_⟩:=XB hy;obtain ⟨id,he,hP⟩:=YZ h hx;have e1:=fun lo K=>XK h hi hlt ho (lo:=lo) (K:=K)
 have f1:=hP.f1 ho;have hab:Pos.about r (.opn p)=y.track:=by show ((r.poss? p).getD default).track=_;rw [hy];rfl
 rw [hab];simp (maxDischargeDepth:=12) only [go_sem,reduceEqDiff,reduceAdd,reduceCtorEq,hn,c0,c1,c2,c3,c4,c5,c6,c7,c8,e1,he,f1]
theorem ZcW {H:Heap} {b o:Nat} {r:Reg} {V:RegV} (h:RegIs H b o r V) {num tk:Int} {p:Nm} {v:Int} (hok:Pos.okA r tk (.close p v)=0):∃ w H2,R PT (.call H.n 75 [.ptr b o,.agg [.int .i64 num,.str Pos.YG,.ps .unk (Z0 [p]),.ps .unk (Z3 [tk,v]),.str []]] H)=some (.ofVal w H2)∧w=.str (Pos.about r (.close p v)):=by
 refine Za (C:=PT) (f:=75) (lo:=H.n) (args:=[.ptr b o,.agg [.int .i64 num,.str Pos.YG,.ps .unk (Z0 [p]),.ps .unk (Z3 [tk,v]),.str []]]) (H:=H) (fn:=Tryz.f75) (Q:=fun w _=>w=.str (Pos.about r (.close p v))) (by kernel_rfl) Tryz.func75 rfl rfl ?_;have hn:Z0 [p]=[[.str p]]:=rfl;have ho:Old H.n H (H.push (.cells [.int .i64 num,.str Pos.YG,.ps .unk ([[.str p]]),.ps .unk (Z3 [tk,v]),.str []] 53)):=(Old.refl H).push _;have c0:Z6 Pos.YG [116,114,97,99,107]=false:=by decide
 have c1:Z6 Pos.YG [102,97,117,108,116]=false:=by decide
 have c2:Z6 Pos.YG [101,110,116,101,114]=false:=by decide
 have c3:Z6 Pos.YG [116,97,107,101]=false:=by decide
 have c4:Z6 Pos.YG [97,110,115,119,101,114]=false:=by decide
 have c5:Z6 Pos.YG [114,101,112,97,105,114]=false:=by decide
 have c6:Z6 Pos.YG [108,101,97,118,101]=false:=by decide
 have c7:Z6 Pos.YG [105,110]=false:=by decide
 have c8:Z6 Pos.YG [111,117,116]=false:=by decide
 obtain ⟨y,hy⟩:=Pos.Xx hok (p:=p) rfl;obtain ⟨i,hi,hx,hlt,_⟩:=XB hy;obtain ⟨id,he,hP⟩:=YZ h hx;have e1:=fun lo K=>XK h hi hlt ho (lo:=lo) (K:=K)
 have f1:=hP.f1 ho;have hab:Pos.about r (.close p v)=y.track:=by show ((r.poss? p).getD default).track=_;rw [hy];rfl
 rw [hab];simp (maxDischargeDepth:=12) only [go_sem,reduceEqDiff,reduceAdd,reduceCtorEq,hn,c0,c1,c2,c3,c4,c5,c6,c7,c8,e1,he,f1]
theorem ZcX {H:Heap} {b o:Nat} {r:Reg} {V:RegV} (h:RegIs H b o r V) {num tk:Int} {p:Nm} (hok:Pos.okA r tk (.ret p)=0):∃ w H2,R PT (.call H.n 75 [.ptr b o,.agg [.int .i64 num,.str Pos.Y7,.ps .unk (Z0 [p]),.ps .unk (Z3 [tk]),.str []]] H)=some (.ofVal w H2)∧w=.str (Pos.about r (.ret p)):=by
 refine Za (C:=PT) (f:=75) (lo:=H.n) (args:=[.ptr b o,.agg [.int .i64 num,.str Pos.Y7,.ps .unk (Z0 [p]),.ps .unk (Z3 [tk]),.str []]]) (H:=H) (fn:=Tryz.f75) (Q:=fun w _=>w=.str (Pos.about r (.ret p))) (by kernel_rfl) Tryz.func75 rfl rfl ?_;have hn:Z0 [p]=[[.str p]]:=rfl;have ho:Old H.n H (H.push (.cells [.int .i64 num,.str Pos.Y7,.ps .unk ([[.str p]]),.ps .unk (Z3 [tk]),.str []] 53)):=(Old.refl H).push _;have c0:Z6 Pos.Y7 [116,114,97,99,107]=false:=by decide
 have c1:Z6 Pos.Y7 [102,97,117,108,116]=false:=by decide
 have c2:Z6 Pos.Y7 [101,110,116,101,114]=false:=by decide
 have c3:Z6 Pos.Y7 [116,97,107,101]=false:=by decide
 have c4:Z6 Pos.Y7 [97,110,115,119,101,114]=false:=by decide
 have c5:Z6 Pos.Y7 [114,101,112,97,105,114]=false:=by decide
 have c6:Z6 Pos.Y7 [108,101,97,118,101]=false:=by decide
 have c7:Z6 Pos.Y7 [105,110]=false:=by decide
 have c8:Z6 Pos.Y7 [111,117,116]=false:=by decide
 obtain ⟨y,hy⟩:=Pos.Xx hok (p:=p) rfl;obtain ⟨i,hi,hx,hlt,_⟩:=XB hy;obtain ⟨id,he,hP⟩:=YZ h hx;have e1:=fun lo K=>XK h hi hlt ho (lo:=lo) (K:=K)
 have f1:=hP.f1 ho;have hab:Pos.about r (.ret p)=y.track:=by show ((r.poss? p).getD default).track=_;rw [hy];rfl
 rw [hab];simp (maxDischargeDepth:=12) only [go_sem,reduceEqDiff,reduceAdd,reduceCtorEq,hn,c0,c1,c2,c3,c4,c5,c6,c7,c8,e1,he,f1]
theorem ZcY {H:Heap} {b o:Nat} {r:Reg} {V:RegV} (h:RegIs H b o r V) {num tk:Int} {p:Nm} {v:Int} (hok:Pos.okA r tk (.raise p v)=0):∃ w H2,R PT (.call H.n 75 [.ptr b o,.agg [.int .i64 num,.str Pos.YH,.ps .unk (Z0 [p]),.ps .unk (Z3 [tk,v]),.str []]] H)=some (.ofVal w H2)∧w=.str (Pos.about r (.raise p v)):=by
 refine Za (C:=PT) (f:=75) (lo:=H.n) (args:=[.ptr b o,.agg [.int .i64 num,.str Pos.YH,.ps .unk (Z0 [p]),.ps .unk (Z3 [tk,v]),.str []]]) (H:=H) (fn:=Tryz.f75) (Q:=fun w _=>w=.str (Pos.about r (.raise p v))) (by kernel_rfl) Tryz.func75 rfl rfl ?_;have hn:Z0 [p]=[[.str p]]:=rfl;have ho:Old H.n H (H.push (.cells [.int .i64 num,.str Pos.YH,.ps .unk ([[.str p]]),.ps .unk (Z3 [tk,v]),.str []] 53)):=(Old.refl H).push _;have c0:Z6 Pos.YH [116,114,97,99,107]=false:=by decide
 have c1:Z6 Pos.YH [102,97,117,108,116]=false:=by decide
 have c2:Z6 Pos.YH [101,110,116,101,114]=false:=by decide
 have c3:Z6 Pos.YH [116,97,107,101]=false:=by decide
 have c4:Z6 Pos.YH [97,110,115,119,101,114]=false:=by decide
 have c5:Z6 Pos.YH [114,101,112,97,105,114]=false:=by decide
 have c6:Z6 Pos.YH [108,101,97,118,101]=false:=by decide
 have c7:Z6 Pos.YH [105,110]=false:=by decide
 have c8:Z6 Pos.YH [111,117,116]=false:=by decide
 obtain ⟨y,hy⟩:=Pos.Xx hok (p:=p) rfl;obtain ⟨i,hi,hx,hlt,_⟩:=XB hy;obtain ⟨id,he,hP⟩:=YZ h hx;have e1:=fun lo K=>XK h hi hlt ho (lo:=lo) (K:=K)
 have f1:=hP.f1 ho;have hab:Pos.about r (.raise p v)=y.track:=by show ((r.poss? p).getD default).track=_;rw [hy];rfl
 rw [hab];simp (maxDischargeDepth:=12) only [go_sem,reduceEqDiff,reduceAdd,reduceCtorEq,hn,c0,c1,c2,c3,c4,c5,c6,c7,c8,e1,he,f1]
end Go.Sim

namespace Go.Sim.Pos
open Go.Sim
theorem Mi:∀ (l:List Ev) (n:Nat) (e:Ev),XS n (l++[e])=XS n l++[{ e with num:=((n+l.length:Nat):Int)+1 }]
 | [],n,e=>by simp [XS]
 | x::l,n,e=>by
   have ih:=Mi l (n+1) e;show { x with num:=(n:Int)+1 }::XS (n+1) (l++[e])={ x with num:=(n:Int)+1 }::XS (n+1) l++[_]
   rw [ih];have h:n+1+l.length=n+(x::l).length:=by simp;omega
   rw [h];rfl
theorem ZcZ (r:Reg) (k:Int) (a:Act):about { r with tick:=k } a=about r a:=by cases a<;>rfl
theorem Zd0 (r:Reg) (k tk:Int) (a:Act):doA { r with tick:=k } k a={ doA r tk a with tick:=k }:=by cases a<;>rfl
theorem Mj {r:Reg} (I:Inv r) (k:Int):Inv { r with tick:=k }:=⟨I.uT,I.uF,I.uN,I.uP,I.uM,I.rF,I.rN,I.rP,I.rM⟩
theorem Zd1 {r:Reg} {tk:Int} {a:Act} (h:okA r tk a=0) (h0:0≤tk):okA { r with tick:=0 } tk a=0:=by
 unfold okA at h ⊢;split at h
 · cases h
 · rw [if_neg (show ¬ tk < 0 by omega)];cases a<;>exact h
end Go.Sim.Pos
namespace Go.Sim
open Go Go.Proofs
open Go.Sim.Pos (Nm Trk Flt Trn Pos Mch Reg Ev)
set_option maxRecDepth 100000
set_option maxHeartbeats 16000000
theorem Zd2 {H:Heap} {b o:Nat} {r:Reg} {V:RegV} (h:RegIs H b o r V) {num tk:Int} {a:Pos.Act} (I:Pos.Inv r) (hok:Pos.okA r tk a=0):∃ w H2,R PT (.call H.n 75 [.ptr b o,.agg (Pos.Zf num tk a).row] H)=some (.ofVal w H2)∧w=.str (Pos.about r a):=by
 cases a
 case track=>exact ZcI h hok
 case fault=>exact ZcJ h hok
 case answer=>exact ZcK h hok
 case repair=>exact ZcL h hok
 case enter=>exact ZcM h hok
 case leave=>exact ZcN h hok
 case take=>exact ZcO h hok
 case prot=>exact ZcP h hok
 case clear=>exact ZcQ h hok
 case into=>exact ZcR h hok
 case out=>exact ZcS h I hok
 case staff=>exact ZcT h hok
 case off=>exact ZcU h hok
 case opn=>exact ZcV h hok
 case close=>exact ZcW h hok
 case ret=>exact ZcX h hok
 case raise=>exact ZcY h hok
theorem Zd3 {H:Heap} {b o:Nat} {r:Reg} {V:RegV} (h:RegIs H b o r V) {num tk:Int} {a:Pos.Act} (I:Pos.Inv r) (hok:Pos.okA r tk a=0) {lo:Nat} {K:AV→Heap→Prop}:VO (Z8 PT (R PT) lo 75 [.ptr b o,.agg (Pos.Zf num tk a).row] H) K=K (.str (Pos.about r a)) H:=by
 obtain ⟨w,H2,h1,h2⟩:=Zd2 h (num:=num) I hok;exact ZF (en75 rfl) ⟨H2,h1⟩ (by rw [h2];rfl) rfl
end Go.Sim

namespace Go.Sim.Pos
open Go.Sim
theorem Zd4 {r:Reg} (S:Safe r) (k:Int):Safe { r with tick:=k }:=⟨S.free,S.apart,S.span,S.pers,S.closed,S.speed,S.nT,S.nF,S.nN,S.nP,S.nM⟩
theorem Zd5 (nm:Nm→Bool) {cs:List Ev} {r r':Reg} (hrun:Yr Y6 (YX cs)=some r) (hc:∀ e ∈ cs,Zp nm e=0∧e.kind ≠ ZN) {k:Nat} {e:Ev} (he:cs[k]? = some e) (hk:Yr Y6 (YX (cs.take k))=some r') :
 ∃ tk a,Qg e=some (tk,a)∧0≤tk∧e=Zf e.num tk a∧okA r' tk a=0∧Yr Y6 (YX (cs.take (k+1)))=some (doA r' tk a)∧Inv r'∧Safe r':=by
 obtain ⟨h1,h2⟩:=hc e (List.mem_of_getElem? he);obtain ⟨tk,a,ha,hev,h0,h9⟩:=Fl nm h1 h2;obtain ⟨tk',a',hev',hok,hr,I,S⟩:=Ma nm hrun hc he hk;obtain ⟨vs,hv⟩:=M8 e.num tk a;obtain ⟨vs',hv'⟩:=M8 e.num tk' a';have hact:∀ num tk a,Qg (Zf num tk a)=some (tk,a):=fun num tk a=>by cases a<;>rfl
 have e1:=hact e.num tk' a';rw [← hev',ha] at e1;cases e1;exact ⟨tk,a,ha,h0,hev,hok,hr,I,S⟩
end Go.Sim.Pos
namespace Go.Sim
open Go Go.Proofs
open Go.Sim.Pos (Nm Trk Flt Trn Pos Mch Reg Ev)
set_option maxRecDepth 100000
set_option maxHeartbeats 16000000
theorem Zj.chgX {lo b c:Nat} {H H':Heap} {t:Tok} {rows:List (List AV)} (h:Zj c H t rows 5 53) (ch:Chg lo b Yg H H') (hb:b < c):Zj c H' t rows 5 53:=by
 rcases h with h | ⟨j,h1,h2,h3,h4,h5⟩
 · exact .inl h
 · refine .inr ⟨j,h1,h2,h3,Nat.lt_of_lt_of_le h4 ch.n, ?_⟩;rcases ch.ch j h4 with h6 | ⟨_,h6 | h6⟩
   · rw [h6];exact h5
   · omega
   · obtain ⟨cs,sz,te,h7,h8⟩:=h6;rw [h5] at h7;cases h7;exact absurd rfl h8
theorem Zd6 {b:Nat} {H:Heap} {t:Tok} {rows:List (List AV)} {sz lo:Nat} {e:TypeId} (h:Zj b H t rows sz e) (hb:b≤H.n) (hlo:lo≤b) {r:List AV} (h1:rows.length+1≤Z1) (h2:XV r=true) (h3:0 < sz) (h4:rows.all (fun r=>r.length=sz)=true) :
 ∃ t' H',Xn lo H sz e (.ps t rows) [r]=some (.ps t' (rows++[r.map AV.strip0]),H')∧Zj b H' t' (rows++[r.map AV.strip0]) sz e∧H.n≤H'.n∧Old b H H'∧Chg lo H.n (Xt sz e) H H':=by
 rcases h with ⟨rfl,rfl⟩ | ⟨j,rfl,h6,hj,h7,h8⟩
 · refine ⟨.tok H.n,H.push (.row [] sz e),Dk (by simp) (by show 1≤1073741824;decide) (by simp [h2]) h3,.inr ⟨H.n,rfl,by simp,hb,by simp,by rw [Heap.get_push,if_pos rfl]⟩,by simp,⟨by simp;omega,fun i hi=>by rw [Heap.get_push,if_neg (by omega)]⟩,(Chg.refl H).push _⟩
 · refine ⟨.tok H.n,(H.set j .dead).push (.row [] sz e),Dl (by simp) (by simpa using h1) (by simp [h2]) h3 h4 h8 (by omega) h6,.inr ⟨H.n,rfl,by simp,hb,by simp,by rw [Heap.get_push,if_pos (by simp)]⟩,by simp,⟨by simp;omega,fun i hi=>by rw [Heap.get_push,if_neg (by simp;omega),Heap.get_set,if_neg (by omega)]⟩,((Chg.refl H).set (Nat.le_trans hlo hj) (.inr (.inl ⟨_,h8⟩)) _).push _⟩
theorem Mk {HX:Heap} {lo b e0:Nat} {r:Reg} {V:RegV} {vC:AV} {rowsC rowsO:List (List AV)} {tok:Tok} {num tk:Int} {kind:Nm} {names:List Nm} {vs:List Int} {a:Pos.Act} (hA:∀ n,Xu { r with tick:=0 } a num kind names (tk::vs) [] n) (hW:RegW lo HX b [] [] 49 { r with tick:=0 } V) (hC:SW lo HX vC 5 53 rowsC) (hO:Zj (b+1) HX tok rowsO 5 53) (he:e0 < HX.n) (hg:HX.get e0=.cells (evC num kind names (tk::vs) []) 53) :
 ∃ H5 nm fv f1 l1 f2 l2 w H6 V6,R PT (.call HX.n 77 [] HX)=some (.ofVal (.map HX.n) H5)∧H5.n=HX.n+17∧QC NC.P H5 176 (.map HX.n) (.str kind) false=some (.agg [.str nm,.int .i64 fv,.fn f1 [] l1,.fn f2 [] l2])∧l1.map ZO=l1∧l2.map ZO=l2∧Yi H5.n l1=true∧Yi H5.n l2=true∧H5.get e0=.cells (evC num kind names (tk::vs) []) 53 ∧
   (∀ K,VO (Z8 PT (R PT) lo f2 (.ptr b 0 :: .agg (evC num kind names (tk::vs) [])::l2) H5) K=K w H6)∧RegW lo H6 b [] [] 49 { Pos.doA r tk a with tick:=0 } V6∧SW lo H6 vC 5 53 rowsC∧Zj (b+1) H6 tok rowsO 5 53∧HX.n≤H6.n:=by
 obtain ⟨H5,hr5,hn5,hk5,hF⟩:=Ve (P:=PPT) (by rfl) (by rfl) HX.n HX (Nat.le_refl _);have hO5:Old HX.n HX H5:=⟨by omega,hk5⟩;have hW5:=hW.old hO5;obtain ⟨nm,fv,f1,l1,f2,l2,hlk,⟨hst1,hst2⟩,hu,happ⟩:=hA HX.n;obtain ⟨w,H6,V6,hcall,hW6,hch⟩:=happ lo H5 b [] [] 49 V hF (by omega) hW5;have hlk2:=(KF hF.map (KG _) kind).2;rw [hlk] at hlk2;have hd:Pos.doA { r with tick:=0 } ({ r with tick:=0 }:Reg).tick a={ Pos.doA r tk a with tick:=0 }:=Pos.Zd0 r 0 tk a
 rw [hd] at hW6;have hAX:Zj (b+1) H5 tok rowsO 5 53:=by
  rcases hO with h | ⟨j,h1,h2,h3,h4,h5⟩
  · exact .inl h
  · exact .inr ⟨j,h1,h2,h3,by omega,by rw [hk5 j h4];exact h5⟩
 exact ⟨H5,nm,fv,f1,l1,f2,l2,w,H6,V6,hr5,hn5,hlk2,hst1,hst2,(hu _ (Nat.le_of_eq hn5.symm)).1,(hu _ (Nat.le_of_eq hn5.symm)).2,by rw [hk5 _ he];exact hg,hcall,hW6,(hC.old hO5).chg hch (fun cs ⟨_,_,_,h1,h2⟩=>by cases h1;exact h2 rfl) ⟨_,_,hW5.blk⟩,hAX.chgX hch (Nat.lt_succ_self b),Nat.le_trans hO5.1 hch.n⟩
end Go.Sim

namespace Go.Sim
open Go Go.Proofs
open Go.Sim.Pos (Nm Trk Flt Trn Pos Mch Reg Ev)
set_option maxRecDepth 100000
set_option maxHeartbeats 16000000
def KO (l:List Ev) (t:Nm):List Ev × Int:=if (Pos.ZQ Z7 Pos.zJn 0 l).2.2 ≠ 0 then ([],(Pos.ZQ Z7 Pos.zJn 0 l).2.2) else match (Pos.ZQ Z7 Pos.zJn 0 l).1.reg.track? t with
 | none=>([],10)
 | some _=>(Pos.XS 0 (Pos.Jg t Pos.Y6 (Pos.ZQ Z7 Pos.zJn 0 l).1.cs),0)
theorem en16:ZG 16:=ZI
theorem r16 (l:List Ev) (s:Nm) (hp:l.length≤1000∧(∀ z ∈ l,EvS z)) {H:Heap}:∃ w H2,R PT (.call H.n 16 [.ps .unk (l.map Pos.Ev.row),.str s] H)=some (.ofVal w H2)∧w.strip=.tup [.ps .unk ((KO l s).1.map Pos.Ev.row),i64 (KO l s).2]:=by
 refine Za (C:=PT) (f:=16) (lo:=H.n) (args:=[.ps .unk (l.map Pos.Ev.row),.str s]) (H:=H) (fn:=Tryz.f16) (Q:=fun w _=>w.strip=.tup [.ps .unk ((KO l s).1.map Pos.Ev.row),i64 (KO l s).2]) (by kernel_rfl) Tryz.func16 rfl rfl ?_;obtain ⟨hl,hsm⟩:=hp;obtain ⟨w,H2,hr,hO,ha,hb,J⟩:=Fp (H:=H) hl hsm 116 s;have hask:=fun lo K=>Q6 (K:=K) (en73 (lo:=lo) rfl) hr
 obtain ⟨w3,H3,hr3,rfl,hO3,es,V3,vE,vC,hW,J3,hes⟩:=Mg (H:=H2) (v:=.ps .unk (l.map Pos.Ev.row)) (l:=l) (.inl ⟨_,rfl,rfl⟩) hl hsm;have hrep:=fun lo K=>Q6 (K:=K) (en74 (lo:=lo) rfl) hr3
 unfold KO;generalize hq:Pos.ZQ Z7 Pos.zJn 0 l=q at *;by_cases c1:q.2.2=0
 case neg =>
  rw [if_pos c1];obtain rfl:=ha c1;simp (maxDischargeDepth:=12) only [go_sem,reduceEqDiff,reduceAdd,reduceCtorEq,hask,c1];try rfl
 rw [if_neg (by simpa using c1)];obtain ⟨rfl,V,hR⟩:=hb c1;cases ht:q.1.reg.track? s with
 | none =>
   have hin:decide (s ∈ Zz q.1.reg 116)=false:=decide_eq_false (by rw [Pos.KL,ht];simp);have h10:Z5 true 10=10:=rfl;have h100:((10:Int)=0)=False:=eq_false (by decide);simp (maxDischargeDepth:=12) only [go_sem,reduceEqDiff,reduceAdd,reduceCtorEq,hask,hin,h10,h100];try rfl
 | some y =>
 have hin:decide (s ∈ Zz q.1.reg 116)=true:=decide_eq_true (by rw [Pos.KL,ht];rfl);have h10:Z5 false 10=0:=rfl;have h00:((0:Int)=0)=True:=eq_true rfl;have hh1:=fun H'=>hW.is.h1 (H':=H')
 have nC:=fun H'=>(Q7 hW.is.aC).len (t:=22) (by kernel_rfl) H'
 simp only [List.length_map] at nC;generalize hcs:q.1.cs=cs at *;have hrun:=J3.run;have hchk:=J3.chk;rw [hcs] at hrun hchk;have hlc:cs.length≤1000:=Nat.le_trans hW.lCE hW.lE;have hvid:∀ i a b c d,vC=.rs i a b c d→i < H3.n:=fun i a b c d h=>(hW.aC.row h).1
 have hbn3:H2.n < H3.n:=hW.reg.bn;simp (maxDischargeDepth:=12) only [go_sem,reduceEqDiff,reduceAdd,reduceCtorEq,hask,hin,h10,hrep,hh1,nC];refine ZK (fun k T Hc M=>M=[]∧Z2 T 1=.str s∧Z2 T 11=.ptr H3.n 0∧Z2 T 34=vC∧Z2 T 35=i64 (cs.length:Nat)∧Z2 T 36=i64 k∧SW H.n Hc vC 5 53 (cs.map Pos.Ev.row) ∧ ∃ r' V S tok,Pos.Yr Pos.Y6 (Pos.YX (cs.take k))=some r'∧RegW H.n Hc H3.n [] [] 49 { r' with tick:=0 } V∧Pos.Jg s Pos.Y6 cs=S++Pos.Jg s r' (cs.drop k)∧S.length≤k∧Z2 T 12=.ps tok ((Pos.XS 0 S).map Pos.Ev.row)∧Zj (H3.n+1) Hc tok ((Pos.XS 0 S).map Pos.Ev.row) 5 53) cs.length ?_ ?_ ?_
 · simp (maxDischargeDepth:=12) only [go_sem,reduceEqDiff,reduceCtorEq];refine ⟨?_,Pos.Y6,V0,[],.nil,rfl,Fo (by simp) (by have:=hO.1;omega) (by rw [Heap.get_push,if_pos rfl];rfl),rfl,Nat.le_refl _,rfl,.inl ⟨rfl,rfl⟩⟩;exact (hW.aC.mono hO.1).old ((Old.refl H3).push _)
 · rintro k T Hc M hk ⟨rfl,g1,g11,g34,g35,g36,hC,r',V',S,tok,hr',hWc,hst,hSl,g12,hA⟩;obtain ⟨e,he⟩:∃ e,cs[k]? = some e:=⟨cs[k],by simp⟩;obtain ⟨tk,a,hact,h0,hev,hok,hrn,I,Sf⟩:=Pos.Zd5 Z7 hrun hchk he hr';obtain ⟨kind,names,vs,hp⟩:=Pos.B0 e.num tk a;have hok0:=Pos.Zd1 hok h0;have hAp:=fun n=>AZ (Pos.Mj I 0) (Pos.Zd4 Sf 0) (num:=e.num) hok0 n
   have hnn:=hchk e (List.mem_of_getElem? he);have hes':e.names.length≤Z1∧e.vals.length≤Z1:=by
    have:=G9 hnn.1;unfold Z1;omega
   have hstep:Pos.Jg s r' (cs.drop k)=if Pos.about r' a=s then e::Pos.Jg s (Pos.doA r' tk a) (cs.drop (k+1)) else Pos.Jg s (Pos.doA r' tk a) (cs.drop (k+1)):=by
    rw [K9 he]
    conv=>lhs;unfold Pos.Jg
    simp only [hact]
   rw [hstep] at hst;have hab:=fun (H:Heap) (V:RegV) (h:RegIs H H3.n 0 { r' with tick:=0 } V) lo K=>Zd3 h (num:=e.num) (Pos.Mj I 0) hok0 (lo:=lo) (K:=K)
   rw [Pos.ZcZ] at hab;rw [hp] at hev hab;simp only [hp] at hAp;generalize e.num=num at hev hAp hab;subst hev;have hw:=ZP hk (by unfold Z1;omega:cs.length≤Z1);have hi:=(Q7 hC.1).idx (t:=22) (by kernel_rfl) (by kernel_rfl) (Zw (by intro x;rfl) cs) (by rw [List.length_map];exact hk) .i64;have hd:=(Q7 hC.1).ld (by kernel_rfl) (by kernel_rfl) (Zw (by intro x;rfl) cs) (Y1 he) (Old.refl Hc);have hHn:H3.n < Hc.n:=hWc.bn;obtain ⟨H1,hH1⟩:∃ H1,H1=(Hc.push (.cells [.int .i64 0,.str [],.ps .nil [],.ps .nil [],.str []] 53)).set Hc.n (.cells (evC num kind names (tk::vs) []) 53):=⟨_,rfl⟩;have hn1:H1.n=Hc.n+1:=by rw [hH1];simp
   have hO1:Old Hc.n Hc H1:=by rw [hH1];exact (Old.refl Hc).new _ _
   have hg1:H1.get Hc.n=.cells (evC num kind names (tk::vs) []) 53:=by rw [hH1,Heap.get_set,if_pos rfl]
   have hW1:=hWc.old hO1;have hC1:=hC.old hO1;have hA1:Zj (H3.n+1) H1 tok ((Pos.XS 0 S).map Pos.Ev.row) 5 53:=by rw [hH1];exact hA.new _ _
   have hab1:=hab H1 V' hW1.is;simp only [Pos.Ev.row] at hd hab1;have hkc:=eq_true hk;have hn1':(Hc.n < H1.n)=True:=eq_true (by omega);have hleC:(H.n≤Hc.n)=True:=eq_true (by have:=hO.1;omega);have hleA:(H.n≤H1.n)=True:=eq_true (by have:=hO.1;omega);by_cases hs:Pos.about r' a=s
   · have hbs:Z6 (Pos.about r' a) s=true:=by rw [YV,hs];simp
     rw [if_pos hs] at hst;have hown:=UX ⟨num,kind,names,tk::vs,[]⟩ hes';simp only [Pos.Ev.row] at hown;obtain ⟨HA,hHA⟩:∃ HA,HA=(H1.push (.cells [.int .i64 0,.str [],.ps .nil [],.ps .nil [],.str []] 53)).set H1.n (.cells (evC num kind names (tk::vs) []) 53):=⟨_,rfl⟩;have hnA:HA.n=H1.n+1:=by rw [hHA];simp
     have hOA:Old H1.n H1 HA:=by rw [hHA];exact (Old.refl H1).new _ _
     have hgA:HA.get H1.n=.cells (evC num kind names (tk::vs) []) 53:=by rw [hHA,Heap.get_set,if_pos rfl]
     have hWA:=hW1.old hOA;have hCA:=hC1.old hOA;have hAA:Zj (H3.n+1) HA tok ((Pos.XS 0 S).map Pos.Ev.row) 5 53:=by rw [hHA];exact hA1.new _ _
     obtain ⟨HB,hHB⟩:∃ HB,HB=HA.set H1.n (.cells (evC ((S.length:Int)+1) kind names (tk::vs) []) 53):=⟨_,rfl⟩;have hnB:HB.n=HA.n:=by rw [hHB];simp
     have hgB:HB.get H1.n=.cells (evC ((S.length:Int)+1) kind names (tk::vs) []) 53:=by rw [hHB,Heap.get_set,if_pos rfl]
     have hkB:∀ i,i ≠ H1.n→HB.get i=HA.get i:=fun i hi=>by rw [hHB,Heap.get_set,if_neg hi]
     have hWB:RegW H.n HB H3.n [] [] 49 { r' with tick:=0 } V':=by rw [hHB];exact hWA.cells hgA (by have:=hO.1;omega) (by omega) _ _
     have hCB:SW H.n HB vC 5 53 (cs.map Pos.Ev.row):=hCA.keep (by omega) fun i x y z d hv _=>hkB i (by have:=hvid i x y z d hv;omega)
     have hAB:Zj (H3.n+1) HB tok ((Pos.XS 0 S).map Pos.Ev.row) 5 53:=by rw [hHB];exact hAA.set _ (by rw [hgA];simp)
     have hgB1:HB.get Hc.n=.cells (evC num kind names (tk::vs) []) 53:=by rw [hkB _ (by omega),hOA.2 _ (by omega)];exact hg1
     have hstB:sst H.n HA 3 (.ptr H1.n 0) (.int .i64 ((S.length:Int)+1))=some HB:=by
      have hz0:(H.n≤H1.n)=True:=hleA;simp (maxDischargeDepth:=12) only [go_sem,reduceAdd,hgA,hHB,hz0]
     have hldB:sld HB 53 (.ptr H1.n 0)=some (.agg (evC ((S.length:Int)+1) kind names (tk::vs) [])):=by
      simp (maxDischargeDepth:=12) only [go_sem,reduceAdd,hgB]
     have hrl:=Pos.Ib S 0;have hwl:Zk .i64 (Int.add (S.length:Int) 1)=(S.length:Int)+1:=Ym (n:=S.length+1) (by omega);obtain ⟨tok2,HD,happ,hAD,hnD,hOD,hcD⟩:=Zd6 (lo:=H.n) hAB (by omega) (by have:=hO.1;omega) (r:=evC ((S.length:Int)+1) kind names (tk::vs) []) (by rw [List.length_map,hrl];unfold Z1;omega) rfl (by decide) (Vh _);have e1:(evC ((S.length:Int)+1) kind names (tk::vs) []).map AV.strip0=evC ((S.length:Int)+1) kind names (tk::vs) []:=rfl;have e2:(Pos.XS 0 (S++[⟨num,kind,names,tk::vs,[]⟩])).map Pos.Ev.row=(Pos.XS 0 S).map Pos.Ev.row++[evC ((S.length:Int)+1) kind names (tk::vs) []]:=by
      rw [Pos.Mi,List.map_append,Nat.zero_add];rfl
     rw [e1,← e2] at happ hAD;have hWD:=hWB.chgE hcD (hOD.2 _ (by omega));have hCD:=hCB.keep hnD fun i x y z d hv _=>hOD.2 i (by have:=hvid i x y z d hv;omega)
     have hgD:HD.get Hc.n=.cells (evC num kind names (tk::vs) []) 53:=by
      rcases hcD.ch Hc.n (by omega) with h | ⟨_,h | ⟨cs',h⟩⟩
      · rw [h];exact hgB1
      · omega
      · rw [hgB1] at h;cases h
     obtain ⟨H5,nm,fv,f1,l1,f2,l2,w6,H6,V6,hr5,hn5,hlk,hst1,hst2,hu1,hu2,hg5,hcall,hW6,hC6,hA6,hn6⟩:=Mk hAp hWD hCD hAD (by omega:Hc.n < HD.n) hgD;have q5:(Hc.n < H5.n)=True:=eq_true (by omega);have q6:(H3.n < H5.n)=True:=eq_true (by omega);have q7:(HD.n < H5.n)=True:=eq_true (by omega);have hal:=Vh (Pos.XS 0 S);simp (maxDischargeDepth:=12) only [go_sem,reduceEqDiff,reduceAdd,reduceMul,reduceSub,reduceLeDiff,g1,g11,g12,g34,g35,g36,hkc,hleC,hleA,hw,hi,hd,← hH1,hg1,hab1,hbs,hown,← hHA,hrl,hwl,hstB,hldB,ZT,happ,hgD,Xk (P:=PPT) rfl,hr5,hlk,hst2,hcall,q7];exact ⟨hC6,_,V6,S++[⟨num,kind,names,tk::vs,[]⟩],tok2,hrn,hW6,by rw [hst,List.append_assoc];rfl,by simp;omega,rfl,hA6⟩
   · have hbs:Z6 (Pos.about r' a) s=false:=by rw [YV];simpa using hs
     rw [if_neg hs] at hst;obtain ⟨H5,nm,fv,f1,l1,f2,l2,w6,H6,V6,hr5,hn5,hlk,hst1,hst2,hu1,hu2,hg5,hcall,hW6,hC6,hA6,hn6⟩:=Mk hAp hW1 hC1 hA1 (by omega:Hc.n < H1.n) hg1;have q5:(Hc.n < H5.n)=True:=eq_true (by omega);have q6:(H3.n < H5.n)=True:=eq_true (by omega);have q7:(H1.n < H5.n)=True:=eq_true (by omega);simp (maxDischargeDepth:=12) only [go_sem,reduceEqDiff,reduceAdd,reduceSub,g1,g11,g12,g34,g35,g36,hkc,hleC,hw,hi,hd,← hH1,hg1,hab1,hbs,Xk (P:=PPT) rfl,hr5,hlk,hst2,hcall,q7];exact ⟨hC6,_,V6,S,tok,hrn,hW6,hst,by omega,rfl,hA6⟩
 · rintro T Hc M ⟨rfl,g1,g11,g34,g35,g36,hC,r',V',S,tok,hr',hWc,hst,hSl,g12,hA⟩;rw [List.drop_length] at hst;have hnil:Pos.Jg s r' []=[]:=rfl;rw [hnil,List.append_nil] at hst;rw [hst];have hlt:(cs.length < cs.length)=False:=eq_false (Nat.lt_irrefl _);simp (maxDischargeDepth:=12) only [go_sem,reduceEqDiff,reduceCtorEq,g12,g35,g36,hlt];try rfl
theorem e16 (l:List Ev) (s:Nm) (hp:l.length≤1000∧(∀ z ∈ l,EvS z)) {lo:Nat} {H:Heap} {K:AV→Heap→Prop}:VO (Z8 PT (R PT) lo 16 [.ps .unk (l.map Pos.Ev.row),.str s] H) K=K (.tup [.ps .unk ((KO l s).1.map Pos.Ev.row),i64 (KO l s).2]) H:=by
 obtain ⟨w,H2,h1,h2⟩:=r16 l s hp (H:=H);exact ZF (en16 rfl) ⟨H2,h1⟩ h2 (by first | rfl | (split<;>first | rfl | (split<;>rfl)))
end Go.Sim

namespace Go.Sim
open Go.Sim.Pos (Nm Ev)
set_option maxRecDepth 100000
def awL:List (Nm × Nm × Int):=[([116,114,97,99,107,32,117,112,32,48,32,49,54,48],[100,111,110,101,32,49],0),
 ([115,112,101,101,100,32,117,112],[49,54,48],0),
 ([102,97,117,108,116,32,102,32,117,112,32,49,32,49,48,48,32,49,50,48,32,52,48],[100,111,110,101,32,50],0),
 ([115,112,101,101,100,32,117,112],[49,54,48],0),
 ([115,105,108,101,110,116],[102],0),
 ([101,110,116,101,114,32,116,32,117,112,32,49,32,51,48],[],32),
 ([97,110,115,119,101,114,32,102,32,50],[100,111,110,101,32,51],0),
 ([115,112,101,101,100,32,117,112],[52,48],0),
 ([101,110,116,101,114,32,116,32,117,112,32,50,32,53,48],[],20),
 ([116,97,107,101,32,112,32,117,112,32,51,32,57,48,32,50,48,48],[100,111,110,101,32,52],0),
 ([101,110,116,101,114,32,116,32,117,112,32,51,32,51,48],[],31),
 ([105,110,32,114,97,109,32,112,32,51],[],21),
 ([112,114,111,116,101,99,116,32,112,32,51],[100,111,110,101,32,53],0),
 ([105,110,32,116,97,109,112,101,114,32,112,32,52],[100,111,110,101,32,54],0),
 ([115,116,97,102,102,32,112,32,52,32,53],[100,111,110,101,32,55],0),
 ([116,97,107,101,32,113,32,117,112,32,52,32,49,57,57,32,51,48,48],[],15),
 ([98,97,114,114,105,101,114,32,112],[116,97,109,112,101,114,32,115,116,97,102,102,32,112,114,111,116,101,99,116,105,111,110],0),
 ([114,101,116,117,114,110,32,112,32,53],[],32),
 ([99,108,101,97,114,32,112,32,53],[],32),
 ([114,101,112,97,105,114,32,102,32,112,32,53],[100,111,110,101,32,56],0),
 ([115,112,101,101,100,32,117,112],[49,54,48],0),
 ([111,117,116,32,116,97,109,112,101,114,32,54],[100,111,110,101,32,57],0),
 ([111,102,102,32,112,32,54,32,53],[100,111,110,101,32,49,48],0),
 ([99,108,101,97,114,32,112,32,55],[100,111,110,101,32,49,49],0),
 ([98,97,114,114,105,101,114,32,112],[110,111,110,101],0),
 ([114,101,116,117,114,110,32,112,32,56],[],7),
 ([111,112,101,110,32,112,32,56],[100,111,110,101,32,49,50],0),
 ([99,108,111,115,101,32,112,32,57,32,56,48],[100,111,110,101,32,49,51],0),
 ([114,101,116,117,114,110,32,112,32,57],[100,111,110,101,32,49,52],0),
 ([117,110,100,111],[],21),
 ([115,112,101,101,100,32,117,112],[56,48],0),
 ([114,97,105,115,101,32,112,32,49,48,32,56,48],[],21),
 ([114,97,105,115,101,32,112,32,49,48,32,49,54,48],[100,111,110,101,32,49,53],0),
 ([115,112,101,101,100,32,117,112],[49,54,48],0)]
def awE:List Ev:=[⟨1,[116,114,97,99,107],[[117,112]],[0,160],[]⟩,
 ⟨2,[102,97,117,108,116],[[102],[117,112]],[1,100,120,40],[]⟩,
 ⟨3,[97,110,115,119,101,114],[[102]],[2],[]⟩,
 ⟨4,[116,97,107,101],[[112],[117,112]],[3,90,200],[]⟩,
 ⟨5,[112,114,111,116,101,99,116],[[112]],[3],[]⟩,
 ⟨6,[105,110],[[116,97,109,112,101,114],[112]],[4],[]⟩,
 ⟨7,[115,116,97,102,102],[[112]],[4,5],[]⟩,
 ⟨8,[114,101,112,97,105,114],[[102],[112]],[5],[]⟩,
 ⟨9,[111,117,116],[[116,97,109,112,101,114]],[6],[]⟩,
 ⟨10,[111,102,102],[[112]],[6,5],[]⟩,
 ⟨11,[99,108,101,97,114],[[112]],[7],[]⟩,
 ⟨12,[111,112,101,110],[[112]],[8],[]⟩,
 ⟨13,[99,108,111,115,101],[[112]],[9,80],[]⟩,
 ⟨14,[114,101,116,117,114,110],[[112]],[9],[]⟩,
 ⟨15,[114,97,105,115,101],[[112]],[10,160],[]⟩]
theorem aw_ok:Gg JM awL=true:=by decide +kernel
theorem Zd7:(QV JM awL).1=true:=by decide +kernel
theorem Zd8:(QV JM awL).2.evs=awE:=by decide +kernel
theorem Zd9:JL (awE.take 3) [117,112]=(40,0):=by decide +kernel
theorem Zda:(JL (awE.take 2) [117,112]).2=32:=by decide +kernel
theorem Zdb:(JL (awE.take 4) [117,112]).2=31:=by decide +kernel
theorem Zdc:Jp (awE.take 7) [112]=((1,5),0):=by decide +kernel
theorem Zdd:(Kd (awE.take 12) [112])=(false,0):=by decide +kernel
theorem Zde:Kd (awE.take 13) [112]=(true,0):=by decide +kernel
theorem Zdf:KO awE [117,112]=(awE,0):=by decide +kernel
theorem Zdg:Pos.ZU (Pos.Ya awE++[49])=(awE,(Pos.Ya awE).length,28):=by decide +kernel
theorem Ml:∀ e ∈ awE,Pos.Zp Z7 e=0:=by decide +kernel
theorem B3:(Pos.Ya awE).length≤10000:=by decide +kernel
theorem Zdh:∀ c ∈ Pos.Ya awE++[49],c < 256:=by decide +kernel
end Go.Sim

namespace Go.Sim
open Go Go.Proofs
open Go.Sim.Pos (Nm Trk Flt Trn Pos Mch Reg Ev)
set_option maxRecDepth 100000
set_option maxHeartbeats 32000000
theorem U7 {l:List Ev} (k:Nat) (hk:k≤l.length):Ys NC.P 22 (.ps .unk (l.map Pos.Ev.row)) none (some (.int .i64 (k:Int))) none=some (.ps .unk ((l.take k).map Pos.Ev.row)):=by
 have u1:NC.P.underlying 22=some (.slice 53):=by kernel_rfl
 have u2:Zh NC.P 53=some 5:=by kernel_rfl
 have hb:Yx (l.map Pos.Ev.row).length (l.map Pos.Ev.row).length (some (.int .i64 (k:Int)))=some k:=by
  unfold Yx;simp only [Kp];rw [List.length_map,if_pos (by omega)];try simp [hk]
 have h0:Yx 0 k none=some 0:=rfl;have hall:=Vh l;unfold Ys Gk;simp only [u1,u2,hall,if_true,hb,h0,List.drop_zero,List.map_take];rfl
theorem r15  {H:Heap}:∃ w H2,R PT (.call H.n 15 [] H)=some (.ofVal w H2)∧w.strip=.bool true:=by
 refine Za (C:=PT) (f:=15) (lo:=H.n) (args:=[]) (H:=H) (fn:=Tryz.f15) (Q:=fun w _=>w.strip=.bool true) (by kernel_rfl) Tryz.func15 rfl rfl ?_;obtain ⟨w0,H1,hr1,rfl,hO1,V1,vE1,vC1,hW1⟩:=r_New (H:=H);have hnew:=fun lo K=>Q6 (K:=K) (en70 (lo:=lo) rfl) hr1
 obtain ⟨w2,H2,hr2,rfl,⟨V2,vE2,vC2,hW2⟩,J2,hc2⟩:=Zcw hW1 (Pos.GZ Z7) (l:=awL) (by decide) aw_ok;have hev:=Zd8;have hT:=Zd7;generalize QV JM awL=A at *;obtain ⟨ok,S⟩:=A;simp only at hT hev hW2 J2 hr2;subst hT;have hans:=fun K=>X8 (K:=K) (en71 rfl) hr2
 rw [hev] at hW2;have hsm:∀ e ∈ awE,EvS e:=fun e he=>by
  have:=(G9 (Ml e he)).2;exact ⟨by unfold Z1;omega,by unfold Z1;omega⟩
 have hst:∀ k,∀ e ∈ awE.take k,EvS e:=fun k e he=>hsm e (List.mem_of_mem_take he)
 have hlt:∀ k,(awE.take k).length≤1000:=fun k=>by rw [List.length_take];exact Nat.le_trans (Nat.min_le_right _ _) (by decide)
 have hevs:=fun lo K=>ZcC hW2.is hsm (Old.refl H2) (lo:=lo) (K:=K)
 have hl15:(((awE.map Pos.Ev.row).length:Nat):Int)=15:=by decide
 have s3:Ys NC.P 22 (.ps .unk (awE.map Pos.Ev.row)) none (some (.int .i64 3)) none=_:=U7 3 (by decide);have s2:Ys NC.P 22 (.ps .unk (awE.map Pos.Ev.row)) none (some (.int .i64 2)) none=_:=U7 2 (by decide);have s4:Ys NC.P 22 (.ps .unk (awE.map Pos.Ev.row)) none (some (.int .i64 4)) none=_:=U7 4 (by decide);have s7:Ys NC.P 22 (.ps .unk (awE.map Pos.Ev.row)) none (some (.int .i64 7)) none=_:=U7 7 (by decide);have s12:Ys NC.P 22 (.ps .unk (awE.map Pos.Ev.row)) none (some (.int .i64 12)) none=_:=U7 12 (by decide);have s13:Ys NC.P 22 (.ps .unk (awE.map Pos.Ev.row)) none (some (.int .i64 13)) none=_:=U7 13 (by decide);have n3:=fun lo H K=>e42 (awE.take 3) [117,112] ⟨hlt 3,hst 3⟩ (lo:=lo) (H:=H) (K:=K)
 have n2:=fun lo H K=>e42 (awE.take 2) [117,112] ⟨hlt 2,hst 2⟩ (lo:=lo) (H:=H) (K:=K)
 have n4:=fun lo H K=>e42 (awE.take 4) [117,112] ⟨hlt 4,hst 4⟩ (lo:=lo) (H:=H) (K:=K)
 have i7:=fun lo H K=>e27 (awE.take 7) [112] ⟨hlt 7,hst 7⟩ (lo:=lo) (H:=H) (K:=K)
 have r12:=fun lo H K=>e26 (awE.take 12) [112] ⟨hlt 12,hst 12⟩ (lo:=lo) (H:=H) (K:=K)
 have r13:=fun lo H K=>e26 (awE.take 13) [112] ⟨hlt 13,hst 13⟩ (lo:=lo) (H:=H) (K:=K)
 have sto:=fun lo H K=>e16 awE [117,112] ⟨by decide,hsm⟩ (lo:=lo) (H:=H) (K:=K)
 rw [Zd9] at n3;rw [Zda] at n2;rw [Zdb] at n4;rw [Zdc] at i7;rw [Zdd] at r12;rw [Zde] at r13;rw [Zdf] at sto;have blk:Ga [.ps .unk ((awE.take 4).map Pos.Ev.row),.str [117,112]]=some (.tup [.ps .unk [[.int .i64 90,.int .i64 200]],.int .i64 0]):=Z8r;have spn:Gb [.ps .unk [[.int .i64 90,.int .i64 200]],.ps .unk [[.int .i64 90,.int .i64 200]]]=some (.bool true):=Z8t;have smm:Gc [.str [49,49]]=some (.str [48,49,51,55,52,54,49]):=Z8v;have hsame:=pe22 awE awE ⟨by decide,hsm⟩;rw [decide_eq_true rfl] at hsame;have hlg:=fun lo K=>e_Log hW2.is (fun e he=>(VX (Ml e he)).1) (by have:=B3;unfold Z1;omega) ((Old.refl H2).new (.cells [.int .i64 0,.int .i64 0] 73) (.cells [.int .i64 1,.int .i64 5] 73)) (lo:=lo) (K:=K)
 have hrc:=pe32 (Pos.Ya awE++[49]) ⟨by have:=B3;rw [List.length_append];simp;omega,Zdh⟩;rw [Zdg] at hrc;have cl:((Pos.Ya awE).length+1≤9223372036854775807)=True:=eq_true (by have:=B3;omega);have wz:Zk .i64 (Int.add 0 0)=0:=by kernel_rfl
 have t1:QA NC.P 100 73=true:=by kernel_rfl
 have tb:YU NC.P 73 [(0,.int .i64 1),(1,.int .i64 5)]=some (.agg [.int .i64 1,.int .i64 5]):=by kernel_rfl
 have t2:Y2 NC.P 100 73 (.agg [.int .i64 1,.int .i64 5]) (.agg [.int .i64 1,.int .i64 5])=some true:=by kernel_rfl
 have hle:(H.n≤H2.n)=True:=eq_true (by have:=hO1.1;have:=hc2.n;omega);simp only [awL,List.map_cons,List.map_nil,Q9] at hans;generalize awE.map Pos.Ev.row=R at *;simp (maxDischargeDepth:=12) only [go_sem,reduceEqDiff,reduceAdd,reduceMul,reduceLeDiff,reduceCtorEq,hnew,hans,hevs,hl15,s3,s2,s4,s7,s12,s13,n3,n2,n4,i7,r12,r13,sto,blk,spn,smm,hsame,hlg,hrc,cl,wz,t1,t2,tb,hle];try rfl
end Go.Sim

namespace Go.Sim
open Go Go.Proofs
theorem c15:∀ lo H,Zc NC lo 15 [] H (.bool true) H:=fun lo H=>by
 obtain ⟨w,H2,h1,h2⟩:=r15 (H:=.empty);have:=EG Z8T (f:=15) (args:=[]) h1 rfl (by rw [h2];rfl) lo H;rw [h2] at this;exact (VF LB).1 this
noncomputable def p15:List AV→Option AV:=fun l=>match l with
 | []=>some (.bool true)
 | _=>none
theorem pok15:Pok p15 15:=by
 intro args v h;cases args with
 | nil=>have e:v=.bool true:=by simpa [p15] using h.symm
        subst e;exact c15
 | cons a r=>simp [p15] at h
theorem pe15:p15 []=some (.bool true):=rfl
attribute [go_sem] pe15
end Go.Sim

namespace Go.Sim
open Go Go.Proofs
open Go.Sim.Pos (Nm Ev)
set_option maxRecDepth 100000
set_option maxHeartbeats 8000000
noncomputable def Zdi:PF:=fun _=>none
theorem Zdj:PrimsOk NC Zdi:=ZA
theorem c207 (c:Int):∀ lo H,Zc NC lo 207 [.int .u8 c] H (.bool (X5 c)) H:=by
 refine Cn Zdj Tryz.func207 rfl rfl ?_;by_cases h1:c < 65<;>by_cases h2:90 < c<;>by_cases h3:c < 97<;>by_cases h4:122 < c<;>simp (maxDischargeDepth:=12) only [go_sem,reduceEqDiff,reduceCtorEq,h1,h2,h3,h4]<;>simp [X5,h1,h2,h3,h4]
noncomputable def p207:List AV→Option AV:=Zy (α:=(Int)) (fun x=>[.int .u8 x]) (fun x=>True) (fun x=>.bool (X5 x))
theorem Zdk:Pok p207 207:=by
 intro args v h;obtain ⟨x,rfl,hp,rfl⟩:=ZD h;exact c207 x
theorem Mm (c:Int):p207 [.int .u8 c]=some (.bool (X5 c)):=ZE (by intro x y h;(simp only [List.cons.injEq,AV.int.injEq,true_and,and_true] at h;first | simpa only [Prod.ext_iff] using h | simpa only [Prod.ext_iff,and_assoc] using h)) c trivial
attribute [go_sem] Mm
noncomputable def Zdl:PF:=fun _=>none
theorem Zdm:PrimsOk NC Zdl:=ZA
theorem c208 (c:Int):∀ lo H,Zc NC lo 208 [.int .u8 c] H (.bool (ZY c)) H:=by
 refine Cn Zdm Tryz.func208 rfl rfl ?_;by_cases h1:c < 48<;>by_cases h2:57 < c<;>simp (maxDischargeDepth:=12) only [go_sem,reduceEqDiff,reduceCtorEq,h1,h2]<;>simp [ZY,h1,h2]
noncomputable def p208:List AV→Option AV:=Zy (α:=(Int)) (fun x=>[.int .u8 x]) (fun x=>True) (fun x=>.bool (ZY x))
theorem Zdn:Pok p208 208:=by
 intro args v h;obtain ⟨x,rfl,hp,rfl⟩:=ZD h;exact c208 x
theorem Mn (c:Int):p208 [.int .u8 c]=some (.bool (ZY c)):=ZE (by intro x y h;(simp only [List.cons.injEq,AV.int.injEq,true_and,and_true] at h;first | simpa only [Prod.ext_iff] using h | simpa only [Prod.ext_iff,and_assoc] using h)) c trivial
attribute [go_sem] Mn
noncomputable def PPF93:PF:=fun _=>none
theorem Zdo:PrimsOk NC PPF93:=ZA
theorem c93 (n a b:Int):∀ lo H,Zc NC lo 93 [i64 n,i64 a,i64 b] H (.bool (decide (n < a) || decide (b < n))) H:=by
 refine Cn Zdo Tryz.func93 rfl rfl ?_;by_cases h1:n < a<;>by_cases h2:b < n<;>simp (maxDischargeDepth:=12) only [go_sem,reduceEqDiff,reduceAdd,reduceCtorEq,h1,h2]
noncomputable def p93:List AV→Option AV:=Zy (α:=(Int) × (Int) × (Int)) (fun x=>[i64 x.1,i64 x.2.1,i64 x.2.2]) (fun x=>True) (fun x=>.bool (decide (x.1 < x.2.1) || decide (x.2.2 < x.1)))
theorem pok93:Pok p93 93:=by
 intro args v h;obtain ⟨x,rfl,hp,rfl⟩:=ZD h;exact c93 x.1 x.2.1 x.2.2
theorem pe93 (n a b:Int):p93 [.int .i64 n,.int .i64 a,.int .i64 b]=some (.bool (decide (n < a) || decide (b < n))):=ZE (by intro x y h;(simp only [List.cons.injEq,AV.int.injEq,true_and,and_true] at h;first | simpa only [Prod.ext_iff] using h | simpa only [Prod.ext_iff,and_assoc] using h)) (n,a,b) trivial
attribute [go_sem] pe93
noncomputable def PPF80:PF:=fun _=>none
theorem Zdp:PrimsOk NC PPF80:=ZA
theorem c80 (b:Bool) (e:Int):∀ lo H,Zc NC lo 80 [.bool b,i64 e] H (i64 (Z5 b e)) H:=by
 refine Cn Zdp Tryz.func80 rfl rfl ?_;cases b<;>simp (maxDischargeDepth:=12) only [go_sem,reduceEqDiff,reduceAdd,reduceCtorEq]<;>rfl
noncomputable def p80:List AV→Option AV:=Zy (α:=(Bool) × (Int)) (fun x=>[.bool x.1,i64 x.2]) (fun x=>True) (fun x=>i64 (Z5 x.1 x.2))
theorem pok80:Pok p80 80:=by
 intro args v h;obtain ⟨x,rfl,hp,rfl⟩:=ZD h;exact c80 x.1 x.2
theorem pe80 (b:Bool) (e:Int):p80 [.bool b,.int .i64 e]=some (.int .i64 (Z5 b e)):=ZE (by intro x y h;(simp only [List.cons.injEq,AV.int.injEq,AV.bool.injEq,true_and,and_true] at h;first | simpa only [Prod.ext_iff] using h | simpa only [Prod.ext_iff,and_assoc] using h)) (b,e) trivial
attribute [go_sem] pe80
noncomputable def Mo:PF:=Zd 80 p80 (fun _=>none)
theorem Zdq:PrimsOk NC Mo:=Pa (ZA) pok80
theorem Zdr:En Mo 80 p80:=Ze (by rfl) (by kernel_rfl)
attribute [go_sem ↓] Zdr
theorem c19 (b:Bool) (e:Int):∀ lo H,Zc NC lo 19 [.bool b,i64 e] H (i64 (Z5 b e)) H:=by
 refine Cn Zdq Tryz.func19 rfl rfl ?_;simp (maxDischargeDepth:=12) only [go_sem,reduceEqDiff,reduceAdd,reduceCtorEq]
noncomputable def p19:List AV→Option AV:=Zy (α:=(Bool) × (Int)) (fun x=>[.bool x.1,i64 x.2]) (fun x=>True) (fun x=>i64 (Z5 x.1 x.2))
theorem pok19:Pok p19 19:=by
 intro args v h;obtain ⟨x,rfl,hp,rfl⟩:=ZD h;exact c19 x.1 x.2
theorem pe19 (b:Bool) (e:Int):p19 [.bool b,.int .i64 e]=some (.int .i64 (Z5 b e)):=ZE (by intro x y h;(simp only [List.cons.injEq,AV.int.injEq,AV.bool.injEq,true_and,and_true] at h;first | simpa only [Prod.ext_iff] using h | simpa only [Prod.ext_iff,and_assoc] using h)) (b,e) trivial
attribute [go_sem] pe19
theorem Zds {es:List Int} {k:Nat} {e:Int} (h:es[k]? = some e):Z9 (es.drop k)=if e=0 then Z9 (es.drop (k+1)) else e:=by
 rw [K9 h];rfl
noncomputable def PPF79:PF:=fun _=>none
theorem Zdt:PrimsOk NC PPF79:=ZA
theorem c79 (es:List Int) (hp:es.length≤Z1):∀ lo H,Zc NC lo 79 [.ps .unk (Z3 es)] H (i64 (Z9 es)) H:=by
 refine Cn Zdt Tryz.func79 rfl rfl ?_;simp (maxDischargeDepth:=12) only [go_sem];refine ZK (fun k T H M=>M=[]∧Z2 T 0=.ps .unk (Z3 es)∧Z2 T 3=i64 k∧Z9 es=Z9 (es.drop k)) es.length ?_ ?_ ?_
 · simp (maxDischargeDepth:=12) only [go_sem,List.drop_zero]
 · rintro k T H M hk ⟨rfl,h0,h3,hf⟩;obtain ⟨e,he⟩:∃ e,es[k]? = some e:=⟨es[k],by simp⟩;have hr:=KD he;have hw:=ZP hk hp;have hfd:=Zds he;rcases Classical.propComplete (e=0) with hz | hz
   · simp (maxDischargeDepth:=12) only [go_sem,reduceEqDiff,reduceCtorEq,h0,h3,hr,Y4,hk,hw,hz];rw [hf,hfd,if_pos (of_eq_true hz)]
   · simp (maxDischargeDepth:=12) only [go_sem,reduceEqDiff,reduceCtorEq,h0,h3,hr,Y4,hk,hz];rw [hf,hfd,if_neg (of_eq_false hz)]
 · rintro T H M ⟨rfl,h0,h3,hf⟩;simp (maxDischargeDepth:=12) only [go_sem,reduceEqDiff,reduceCtorEq,h0,h3,Y4,Nat.lt_irrefl];rw [hf];simp [Z9]
noncomputable def p79:List AV→Option AV:=Zy (α:=(List Int)) (fun x=>[.ps .unk (Z3 x)]) (fun x=>x.length≤Z1) (fun x=>i64 (Z9 x))
theorem pok79:Pok p79 79:=by
 intro args v h;obtain ⟨x,rfl,hp,rfl⟩:=ZD h;exact c79 x hp
theorem pe79 (es:List Int) (hp:es.length≤Z1):p79 [.ps .unk (Z3 es)]=some (.int .i64 (Z9 es)):=ZE (by intro x y h;(simp only [List.cons.injEq,AV.ps.injEq,K7,K7,true_and,and_true] at h;first | simpa only [Prod.ext_iff] using h | simpa only [Prod.ext_iff,and_assoc] using h)) es hp
attribute [go_sem] pe79
noncomputable def Mp:PF:=Zd 79 p79 (fun _=>none)
theorem Zdu:PrimsOk NC Mp:=Pa (ZA) pok79
theorem Zdv:En Mp 79 p79:=Ze (by rfl) (by kernel_rfl)
attribute [go_sem ↓] Zdv
theorem c18 (es:List Int) (hp:es.length≤Z1):∀ lo H,Zc NC lo 18 [.ps .unk (Z3 es)] H (i64 (Z9 es)) H:=by
 refine Cn Zdu Tryz.func18 rfl rfl ?_;have h:=pe79 es hp;simp (maxDischargeDepth:=12) only [go_sem,reduceEqDiff,reduceCtorEq,h]
noncomputable def p18:List AV→Option AV:=Zy (α:=(List Int)) (fun x=>[.ps .unk (Z3 x)]) (fun x=>x.length≤Z1) (fun x=>i64 (Z9 x))
theorem pok18:Pok p18 18:=by
 intro args v h;obtain ⟨x,rfl,hp,rfl⟩:=ZD h;exact c18 x hp
theorem pe18 (es:List Int) (hp:es.length≤Z1):p18 [.ps .unk (Z3 es)]=some (.int .i64 (Z9 es)):=ZE (by intro x y h;(simp only [List.cons.injEq,AV.ps.injEq,K7,K7,true_and,and_true] at h;first | simpa only [Prod.ext_iff] using h | simpa only [Prod.ext_iff,and_assoc] using h)) es hp
attribute [go_sem] pe18
theorem Zdw {s:List Nat} (h0:s ≠ []) (h1:s.length≤24) (h2:∀ c:Nat,s[0]? = some c→X5 c=true) (h3:∀ (i c:Nat),1≤i→s[i]? = some c→YN c=true):Z7 s=true:=by
 cases s with
 | nil=>exact absurd rfl h0
 | cons c r =>
   unfold Z7;simp only [Bool.and_eq_true,decide_eq_true_eq,List.all_eq_true];refine ⟨⟨h1,h2 c rfl⟩,fun y hx => ?_⟩;obtain ⟨i,hi⟩:=List.mem_iff_getElem?.1 hx;exact h3 (i+1) y (by omega) (by simpa using hi)
theorem Zdx {s:List Nat} {c:Nat} (h:s[0]? = some c) (hl:X5 c=false):Z7 s=false:=by
 cases s with
 | nil=>simp at h
 | cons d r=>simp at h;subst h;simp [Z7,hl]
theorem Zdy {s:List Nat} {i c:Nat} (hi:1≤i) (h:s[i]? = some c) (hl:YN c=false):Z7 s=false:=by
 cases s with
 | nil=>simp at h
 | cons d r =>
   unfold Z7;have:(r.all fun y=>YN y)=false:=by
    rw [List.all_eq_false];refine ⟨c, ?_,by simp [hl]⟩;obtain ⟨j,rfl⟩:∃ j,i=j+1:=⟨i - 1,by omega⟩;exact List.mem_of_getElem? (by simpa using h)
   simp [this]
noncomputable def B4:PF:=Zd 208 p208 (Zd 207 p207 (fun _=>none))
theorem Zdz:PrimsOk NC B4:=Pa (Pa (ZA) Zdk) Zdn
theorem ZdA:En B4 207 p207:=Ze (by rfl) (by kernel_rfl)
theorem ZdB:En B4 208 p208:=Ze (by rfl) (by kernel_rfl)
attribute [go_sem ↓] ZdA ZdB
theorem c95 (s:List Nat):∀ lo H,Zc NC lo 95 [.str s] H (.bool (Z7 s)) H:=by
 refine Cn Zdz Tryz.func95 rfl rfl ?_;have e189:=fun c=>Mm c
 have e190:=fun c=>Mn c
 by_cases h0:s.length=0
 · have:s=[]:=List.length_eq_zero_iff.1 h0;subst this;simp (maxDischargeDepth:=12) only [go_sem,reduceEqDiff,reduceCtorEq];rfl
 · have h0':((s.length:Int)=0)=False:=eq_false (by omega);by_cases h1:(24:Int) < s.length
   · simp (maxDischargeDepth:=12) only [go_sem,reduceEqDiff,reduceCtorEq,h0',h1];cases s with
     | nil=>simp at h0
     | cons c r=>simp only [Z7];rw [decide_eq_false (by omega)];rfl
   · obtain ⟨c,hc⟩:∃ c,s[0]? = some c:=⟨s[0]'(by omega),by simp⟩;have hlt:0 < s.length:=by omega
     cases hb:X5 c with
     | false =>
       simp (maxDischargeDepth:=12) only [go_sem,reduceEqDiff,reduceCtorEq,h0',h1,hlt,hc,hb,e189];rw [Zdx hc hb]
     | true =>
       simp (maxDischargeDepth:=12) only [go_sem,reduceEqDiff,reduceCtorEq,h0',h1,hlt,hc,hb,e189];refine ZK (fun k T H M=>M=[]∧Z2 T 0=.str s∧Z2 T 3=i64 ((k+1:Nat):Int) ∧ ∀ (i c:Nat),1≤i→i < k+1→s[i]? = some c→YN c=true) (s.length - 1) ?_ ?_ ?_
       · simp (maxDischargeDepth:=12) only [go_sem,reduceEqDiff,reduceCtorEq];exact ⟨rfl,fun i c h1 h2=>by omega⟩
       · rintro k T H M hk ⟨rfl,g0,g3,hf⟩;have hk':k+1 < s.length:=by omega
         obtain ⟨c',hc'⟩:∃ c,s[k+1]? = some c:=⟨s[k+1],by simp⟩;have hw:=ZP (k:=k+1) (n:=24) (by omega) (by unfold Z1;omega);by_cases q1:X5 c'=true
         · simp (maxDischargeDepth:=12) only [go_sem,reduceEqDiff,reduceCtorEq,g0,g3,hk',hc',hw,e189,q1];intro i d hi hj hd;by_cases e:i=k+1
           · subst e;rw [hc'] at hd;cases hd;simp [YN,q1]
           · exact hf i d hi (by omega) hd
         · rw [Bool.not_eq_true] at q1;by_cases q2:ZY c'=true
           · simp (maxDischargeDepth:=12) only [go_sem,reduceEqDiff,reduceCtorEq,g0,g3,hk',hc',hw,e189,e190,q1,q2];intro i d hi hj hd;by_cases e:i=k+1
             · subst e;rw [hc'] at hd;cases hd;simp [YN,q2]
             · exact hf i d hi (by omega) hd
           · rw [Bool.not_eq_true] at q2;rcases Classical.propComplete (((c':Nat):Int)=95) with q3 | q3
             · simp (maxDischargeDepth:=12) only [go_sem,reduceEqDiff,reduceCtorEq,g0,g3,hk',hc',hw,e189,e190,q1,q2,q3];intro i d hi hj hd;by_cases e:i=k+1
               · subst e;rw [hc'] at hd;cases hd;simp [YN,q3]
               · exact hf i d hi (by omega) hd
             · simp (maxDischargeDepth:=12) only [go_sem,reduceEqDiff,reduceCtorEq,g0,g3,hk',hc',e189,e190,q1,q2,q3];rw [Zdy (by omega) hc' (show YN c'=false by simp [YN,q1,q2,q3])]
       · rintro T H M ⟨rfl,g0,g3,hf⟩;have hn:(s.length - 1+1 < s.length)=False:=eq_false (by omega);simp (maxDischargeDepth:=12) only [go_sem,reduceEqDiff,reduceCtorEq,g0,g3,hn];rw [Zdw (s:=s) (by intro e;rw [e] at h0;simp at h0) (by omega) (fun d hd=>by rw [hc] at hd;cases hd;exact hb) (fun i d hi hd=>hf i d hi (by have:=(List.getElem?_eq_some_iff.1 hd).1;omega) hd)]
noncomputable def p95:List AV→Option AV:=Zy (α:=(List Nat)) (fun x=>[.str x]) (fun x=>True) (fun x=>.bool (Z7 x))
theorem pok95:Pok p95 95:=by
 intro args v h;obtain ⟨x,rfl,hp,rfl⟩:=ZD h;exact c95 x
theorem pe95 (s:List Nat):p95 [.str s]=some (.bool (Z7 s)):=ZE (by intro x y h;(simp only [List.cons.injEq,AV.str.injEq,and_true] at h;first | simpa only [Prod.ext_iff] using h | simpa only [Prod.ext_iff,and_assoc] using h)) s trivial
attribute [go_sem] pe95
def YJ (k:Nm):Nm × Int × Bool:=if k=Pos.XR then ([84],2,true) else if k=Pos.XI then ([70,116],4,true) else if k=Pos.Xg then ([102],1,true) else if k=Pos.X6 then ([102,112],1,true) else if k=Pos.Yo then ([82,116],2,true) else if k=Pos.YW then ([114],1,true) else if k=Pos.Xr then ([80,116],3,true) else if k=Pos.YA then ([112],1,true) else if k=Pos.YB then ([112],1,true) else if k=Pos.YF then ([112],1,true) else if k=Pos.Y7 then ([112],1,true) else if k=Pos.YD then ([112],2,true) else if k=Pos.YE then ([112],2,true) else if k=Pos.YG then ([112],2,true) else if k=Pos.YH then ([112],2,true) else if k=Pos.kIn then ([77,112],1,true) else if k=Pos.YC then ([109],1,true) else if k=Pos.ZN then ([],0,true) else ([],0,false)
def YK (k:Nm):AV:=.agg [.str (YJ k).1,.int .i64 (YJ k).2.1,.bool (YJ k).2.2]
theorem Mq (k:Nm):Pos.YO k=if (YJ k).2.2=true then some ((YJ k).1.length,(YJ k).2.1.toNat) else none:=by
 by_cases hTrack:k=Pos.XR
 · subst hTrack;rfl
 by_cases hFault:k=Pos.XI
 · subst hFault;rfl
 by_cases hAnswer:k=Pos.Xg
 · subst hAnswer;rfl
 by_cases hRepair:k=Pos.X6
 · subst hRepair;rfl
 by_cases hEnter:k=Pos.Yo
 · subst hEnter;rfl
 by_cases hLeave:k=Pos.YW
 · subst hLeave;rfl
 by_cases hTake:k=Pos.Xr
 · subst hTake;rfl
 by_cases hProtect:k=Pos.YA
 · subst hProtect;rfl
 by_cases hClear:k=Pos.YB
 · subst hClear;rfl
 by_cases hOpen:k=Pos.YF
 · subst hOpen;rfl
 by_cases hReturn:k=Pos.Y7
 · subst hReturn;rfl
 by_cases hStaff:k=Pos.YD
 · subst hStaff;rfl
 by_cases hOff:k=Pos.YE
 · subst hOff;rfl
 by_cases hClose:k=Pos.YG
 · subst hClose;rfl
 by_cases hRaise:k=Pos.YH
 · subst hRaise;rfl
 by_cases hIn:k=Pos.kIn
 · subst hIn;rfl
 by_cases hOut:k=Pos.YC
 · subst hOut;rfl
 by_cases hUndo:k=Pos.ZN
 · subst hUndo;rfl
 unfold Pos.YO YJ;simp only [hTrack,hFault,hAnswer,hRepair,hEnter,hLeave,hTake,hProtect,hClear,hOpen,hReturn,hStaff,hOff,hClose,hRaise,hIn,hOut,hUndo,if_false];rfl
theorem ZdC:aggOf NC.P 199=some true:=by kernel_rfl
attribute [go_sem] ZdC
theorem Xl {a b:Nm} (h:a=b):Z6 a b=true:=by rw [Yu,decide_eq_true h]
theorem Xm {a b:Nm} (h:¬ a=b):Z6 a b=false:=by rw [Yu,decide_eq_false h]
noncomputable def PPF94:PF:=fun _=>none
theorem ZdD:PrimsOk NC PPF94:=ZA
theorem c94 (k:Nm):∀ lo H,Zc NC lo 94 [.str k] H (YK k) H:=by
 refine Cn ZdD Tryz.func94 rfl rfl ?_;by_cases hTrack:k=Pos.XR
 · have qTrack:=Xl hTrack;have e:YK k=.agg [.str [84],.int .i64 2,.bool true]:=by rw [hTrack];rfl
   rw [e];unfold Pos.XR at qTrack;clear hTrack e;simp (maxDischargeDepth:=12) only [go_sem,reduceEqDiff,reduceAdd,reduceLeDiff,reduceCtorEq,qTrack]
 have qTrack:=Xm hTrack;unfold Pos.XR at qTrack;by_cases hFault:k=Pos.XI
 · have qFault:=Xl hFault;have e:YK k=.agg [.str [70,116],.int .i64 4,.bool true]:=by rw [hFault];rfl
   rw [e];unfold Pos.XI at qFault;clear hFault e;simp (maxDischargeDepth:=12) only [go_sem,reduceEqDiff,reduceAdd,reduceLeDiff,reduceCtorEq,qTrack,qFault]
 have qFault:=Xm hFault;unfold Pos.XI at qFault;by_cases hAnswer:k=Pos.Xg
 · have qAnswer:=Xl hAnswer;have e:YK k=.agg [.str [102],.int .i64 1,.bool true]:=by rw [hAnswer];rfl
   rw [e];unfold Pos.Xg at qAnswer;clear hAnswer e;simp (maxDischargeDepth:=12) only [go_sem,reduceEqDiff,reduceAdd,reduceLeDiff,reduceCtorEq,qTrack,qFault,qAnswer]
 have qAnswer:=Xm hAnswer;unfold Pos.Xg at qAnswer;by_cases hRepair:k=Pos.X6
 · have qRepair:=Xl hRepair;have e:YK k=.agg [.str [102,112],.int .i64 1,.bool true]:=by rw [hRepair];rfl
   rw [e];unfold Pos.X6 at qRepair;clear hRepair e;simp (maxDischargeDepth:=12) only [go_sem,reduceEqDiff,reduceAdd,reduceLeDiff,reduceCtorEq,qTrack,qFault,qAnswer,qRepair]
 have qRepair:=Xm hRepair;unfold Pos.X6 at qRepair;by_cases hEnter:k=Pos.Yo
 · have qEnter:=Xl hEnter;have e:YK k=.agg [.str [82,116],.int .i64 2,.bool true]:=by rw [hEnter];rfl
   rw [e];unfold Pos.Yo at qEnter;clear hEnter e;simp (maxDischargeDepth:=12) only [go_sem,reduceEqDiff,reduceAdd,reduceLeDiff,reduceCtorEq,qTrack,qFault,qAnswer,qRepair,qEnter]
 have qEnter:=Xm hEnter;unfold Pos.Yo at qEnter;by_cases hLeave:k=Pos.YW
 · have qLeave:=Xl hLeave;have e:YK k=.agg [.str [114],.int .i64 1,.bool true]:=by rw [hLeave];rfl
   rw [e];unfold Pos.YW at qLeave;clear hLeave e;simp (maxDischargeDepth:=12) only [go_sem,reduceEqDiff,reduceAdd,reduceLeDiff,reduceCtorEq,qTrack,qFault,qAnswer,qRepair,qEnter,qLeave]
 have qLeave:=Xm hLeave;unfold Pos.YW at qLeave;by_cases hTake:k=Pos.Xr
 · have qTake:=Xl hTake;have e:YK k=.agg [.str [80,116],.int .i64 3,.bool true]:=by rw [hTake];rfl
   rw [e];unfold Pos.Xr at qTake;clear hTake e;simp (maxDischargeDepth:=12) only [go_sem,reduceEqDiff,reduceAdd,reduceLeDiff,reduceCtorEq,qTrack,qFault,qAnswer,qRepair,qEnter,qLeave,qTake]
 have qTake:=Xm hTake;unfold Pos.Xr at qTake;by_cases hProtect:k=Pos.YA
 · have qProtect:=Xl hProtect;have e:YK k=.agg [.str [112],.int .i64 1,.bool true]:=by rw [hProtect];rfl
   rw [e];unfold Pos.YA at qProtect;clear hProtect e;simp (maxDischargeDepth:=12) only [go_sem,reduceEqDiff,reduceAdd,reduceLeDiff,reduceCtorEq,qTrack,qFault,qAnswer,qRepair,qEnter,qLeave,qTake,qProtect]
 have qProtect:=Xm hProtect;unfold Pos.YA at qProtect;by_cases hClear:k=Pos.YB
 · have qClear:=Xl hClear;have e:YK k=.agg [.str [112],.int .i64 1,.bool true]:=by rw [hClear];rfl
   rw [e];unfold Pos.YB at qClear;clear hClear e;simp (maxDischargeDepth:=12) only [go_sem,reduceEqDiff,reduceAdd,reduceLeDiff,reduceCtorEq,qTrack,qFault,qAnswer,qRepair,qEnter,qLeave,qTake,qProtect,qClear]
 have qClear:=Xm hClear;unfold Pos.YB at qClear;by_cases hOpen:k=Pos.YF
 · have qOpen:=Xl hOpen;have e:YK k=.agg [.str [112],.int .i64 1,.bool true]:=by rw [hOpen];rfl
   rw [e];unfold Pos.YF at qOpen;clear hOpen e;simp (maxDischargeDepth:=12) only [go_sem,reduceEqDiff,reduceAdd,reduceLeDiff,reduceCtorEq,qTrack,qFault,qAnswer,qRepair,qEnter,qLeave,qTake,qProtect,qClear,qOpen]
 have qOpen:=Xm hOpen;unfold Pos.YF at qOpen;by_cases hReturn:k=Pos.Y7
 · have qReturn:=Xl hReturn;have e:YK k=.agg [.str [112],.int .i64 1,.bool true]:=by rw [hReturn];rfl
   rw [e];unfold Pos.Y7 at qReturn;clear hReturn e;simp (maxDischargeDepth:=12) only [go_sem,reduceEqDiff,reduceAdd,reduceLeDiff,reduceCtorEq,qTrack,qFault,qAnswer,qRepair,qEnter,qLeave,qTake,qProtect,qClear,qOpen,qReturn]
 have qReturn:=Xm hReturn;unfold Pos.Y7 at qReturn;by_cases hStaff:k=Pos.YD
 · have qStaff:=Xl hStaff;have e:YK k=.agg [.str [112],.int .i64 2,.bool true]:=by rw [hStaff];rfl
   rw [e];unfold Pos.YD at qStaff;clear hStaff e;simp (maxDischargeDepth:=12) only [go_sem,reduceEqDiff,reduceAdd,reduceLeDiff,reduceCtorEq,qTrack,qFault,qAnswer,qRepair,qEnter,qLeave,qTake,qProtect,qClear,qOpen,qReturn,qStaff]
 have qStaff:=Xm hStaff;unfold Pos.YD at qStaff;by_cases hOff:k=Pos.YE
 · have qOff:=Xl hOff;have e:YK k=.agg [.str [112],.int .i64 2,.bool true]:=by rw [hOff];rfl
   rw [e];unfold Pos.YE at qOff;clear hOff e;simp (maxDischargeDepth:=12) only [go_sem,reduceEqDiff,reduceAdd,reduceLeDiff,reduceCtorEq,qTrack,qFault,qAnswer,qRepair,qEnter,qLeave,qTake,qProtect,qClear,qOpen,qReturn,qStaff,qOff]
 have qOff:=Xm hOff;unfold Pos.YE at qOff;by_cases hClose:k=Pos.YG
 · have qClose:=Xl hClose;have e:YK k=.agg [.str [112],.int .i64 2,.bool true]:=by rw [hClose];rfl
   rw [e];unfold Pos.YG at qClose;clear hClose e;simp (maxDischargeDepth:=12) only [go_sem,reduceEqDiff,reduceAdd,reduceLeDiff,reduceCtorEq,qTrack,qFault,qAnswer,qRepair,qEnter,qLeave,qTake,qProtect,qClear,qOpen,qReturn,qStaff,qOff,qClose]
 have qClose:=Xm hClose;unfold Pos.YG at qClose;by_cases hRaise:k=Pos.YH
 · have qRaise:=Xl hRaise;have e:YK k=.agg [.str [112],.int .i64 2,.bool true]:=by rw [hRaise];rfl
   rw [e];unfold Pos.YH at qRaise;clear hRaise e;simp (maxDischargeDepth:=12) only [go_sem,reduceEqDiff,reduceAdd,reduceLeDiff,reduceCtorEq,qTrack,qFault,qAnswer,qRepair,qEnter,qLeave,qTake,qProtect,qClear,qOpen,qReturn,qStaff,qOff,qClose,qRaise]
 have qRaise:=Xm hRaise;unfold Pos.YH at qRaise;by_cases hIn:k=Pos.kIn
 · have qIn:=Xl hIn;have e:YK k=.agg [.str [77,112],.int .i64 1,.bool true]:=by rw [hIn];rfl
   rw [e];unfold Pos.kIn at qIn;clear hIn e;simp (maxDischargeDepth:=12) only [go_sem,reduceEqDiff,reduceAdd,reduceLeDiff,reduceCtorEq,qTrack,qFault,qAnswer,qRepair,qEnter,qLeave,qTake,qProtect,qClear,qOpen,qReturn,qStaff,qOff,qClose,qRaise,qIn]
 have qIn:=Xm hIn;unfold Pos.kIn at qIn;by_cases hOut:k=Pos.YC
 · have qOut:=Xl hOut;have e:YK k=.agg [.str [109],.int .i64 1,.bool true]:=by rw [hOut];rfl
   rw [e];unfold Pos.YC at qOut;clear hOut e;simp (maxDischargeDepth:=12) only [go_sem,reduceEqDiff,reduceAdd,reduceLeDiff,reduceCtorEq,qTrack,qFault,qAnswer,qRepair,qEnter,qLeave,qTake,qProtect,qClear,qOpen,qReturn,qStaff,qOff,qClose,qRaise,qIn,qOut]
 have qOut:=Xm hOut;unfold Pos.YC at qOut;by_cases hUndo:k=Pos.ZN
 · have qUndo:=Xl hUndo;have e:YK k=.agg [.str [],.int .i64 0,.bool true]:=by rw [hUndo];rfl
   rw [e];unfold Pos.ZN at qUndo;clear hUndo e;simp (maxDischargeDepth:=12) only [go_sem,reduceEqDiff,reduceAdd,reduceLeDiff,reduceCtorEq,qTrack,qFault,qAnswer,qRepair,qEnter,qLeave,qTake,qProtect,qClear,qOpen,qReturn,qStaff,qOff,qClose,qRaise,qIn,qOut,qUndo]
 have qUndo:=Xm hUndo;unfold Pos.ZN at qUndo;have e:YK k=.agg [.str [],.int .i64 0,.bool false]:=by
  unfold YK YJ;simp only [hTrack,hFault,hAnswer,hRepair,hEnter,hLeave,hTake,hProtect,hClear,hOpen,hReturn,hStaff,hOff,hClose,hRaise,hIn,hOut,hUndo,if_false]
 rw [e];simp (maxDischargeDepth:=12) only [go_sem,reduceEqDiff,reduceAdd,reduceCtorEq,qTrack,qFault,qAnswer,qRepair,qEnter,qLeave,qTake,qProtect,qClear,qOpen,qReturn,qStaff,qOff,qClose,qRaise,qIn,qOut,qUndo]
noncomputable def p94:List AV→Option AV:=Zy (α:=(Nm)) (fun x=>[.str x]) (fun x=>True) (fun x=>YK x)
theorem Mr:Pok p94 94:=by
 intro args v h;obtain ⟨x,rfl,hp,rfl⟩:=ZD h;exact c94 x
theorem pe94 (k:Nm):p94 [.str k]=some (YK k):=ZE (by intro x y h;(simp only [List.cons.injEq,AV.str.injEq,and_true] at h;first | simpa only [Prod.ext_iff] using h | simpa only [Prod.ext_iff,and_assoc] using h)) k trivial
attribute [go_sem] pe94
theorem Ms {l m:List Ev}:(l.map Pos.Ev.row=m.map Pos.Ev.row)=(l=m):=propext ⟨UT (fun a b h=>by rw [Pos.Ev.row_inj] at h;exact h),fun h=>by rw [h]⟩
def U8 (f:Nm × Int × Bool):Prop:=f.1.length≤2∧0≤f.2.1∧f.2.1≤4
theorem ZdE {p:Prop} [Decidable p] {a b:Nm × Int × Bool} (ha:U8 a) (hb:U8 b):U8 (if p then a else b):=by
 split
 · exact ha
 · exact hb
theorem Mt (k:Nm):(YJ k).1.length≤2∧0≤(YJ k).2.1∧(YJ k).2.1≤4:=by
 show U8 (YJ k);unfold YJ
 iterate 18 refine ZdE (by unfold U8;decide) ?_
 unfold U8
 decide
theorem ZdF (e:Ev):Pos.Zp Z7 e=if e.num < 1∨1000 < e.num then 3 else if (YJ e.kind).2.2=true then (if e.names.length ≠ (YJ e.kind).1.length∨e.vals.length ≠ (YJ e.kind).2.1.toNat then 2 else if e.names.all Z7=false then 8 else if e.vals.any (fun v=>decide (v < 0) || decide (999999999 < v))=true then 3 else if e.text ≠ [] then 1 else 0) else 13:=by
 unfold Pos.Zp;rw [Mq];split
 · rfl
 · split<;>simp_all
theorem B5 {α:Type} {p:α→Bool} {l:List α} {k:Nat} {y:α} (h:l[k]? = some y):(l.take (k+1)).all p=((l.take k).all p && p y):=by
 rw [List.take_add_one,h,List.all_append];simp
theorem ZdG {α:Type} {p:α→Bool} {l:List α} {k:Nat} {y:α} (h:l[k]? = some y):(l.take (k+1)).any p=((l.take k).any p || p y):=by
 rw [List.take_add_one,h,List.any_append];simp
theorem B6 {α:Type} {p:α→Bool} {l:List α} {k:Nat} {y:α} (h:l[k]? = some y) (hp:p y=false):l.all p=false:=by
 rw [List.all_eq_false];exact ⟨y,List.mem_of_getElem? h,by simp [hp]⟩
theorem ZdH {α:Type} {p:α→Bool} {l:List α} {k:Nat} {y:α} (h:l[k]? = some y) (hp:p y=true):l.any p=true:=by
 rw [List.any_eq_true];exact ⟨y,List.mem_of_getElem? h,hp⟩
noncomputable def Fq:PF:=Zd 95 p95 (Zd 94 p94 (Zd 93 p93 (fun _=>none)))
theorem ZdI:PrimsOk NC Fq:=Pa (Pa (Pa (ZA) pok93) Mr) pok95
theorem ZdJ:En Fq 93 p93:=Ze (by rfl) (by kernel_rfl)
theorem ZdK:En Fq 94 p94:=Ze (by rfl) (by kernel_rfl)
theorem ZdL:En Fq 95 p95:=Ze (by rfl) (by kernel_rfl)
attribute [go_sem ↓] ZdJ ZdK ZdL
theorem c34 (e:Ev):∀ lo H,Zc NC lo 34 [.agg e.row] H (i64 (Pos.Zp Z7 e)) H:=by
 refine Cn ZdI Tryz.func34 rfl rfl ?_;rw [ZdF];have hs:=Mt e.kind;have hF:=pe94 e.kind;unfold YK at hF;obtain ⟨num,kind,names,vals,text⟩:=e;simp only at hs hF ⊢;generalize YJ kind=f at hs hF ⊢;obtain ⟨ro,n,kn⟩:=f;obtain ⟨h1,h2,h3⟩:=hs;simp only at h1 h2 h3 hF ⊢;have o1:=pe93 num 1 1000;by_cases c1:num < 1∨1000 < num
 · have q:(decide (num < 1) || decide (1000 < num))=true:=by simpa using c1
   rw [q] at o1;rw [if_pos c1];simp (maxDischargeDepth:=12) only [go_sem,reduceEqDiff,reduceAdd,reduceLeDiff,reduceCtorEq,Pos.Ev.row,o1]
 have q:(decide (num < 1) || decide (1000 < num))=false:=by rw [decide_eq_false (fun h=>c1 (.inl h)),decide_eq_false (fun h=>c1 (.inr h))];rfl
 rw [q] at o1;rw [if_neg c1];clear q c1;cases kn with
 | false =>
   rw [if_neg (by decide)];simp (maxDischargeDepth:=12) only [go_sem,reduceEqDiff,reduceAdd,reduceLeDiff,reduceCtorEq,Pos.Ev.row,o1,hF]
 | true =>
   rw [if_pos rfl];obtain ⟨n,rfl⟩:∃ m:Nat,n=(m:Int):=⟨n.toNat,by omega⟩;rw [Int.toNat_natCast];by_cases c2:names.length=ro.length
   case neg =>
    rw [if_pos (.inl c2)];have q2:((names.length:Int)=(ro.length:Int))=False:=eq_false (by omega);simp (maxDischargeDepth:=12) only [go_sem,reduceEqDiff,reduceAdd,reduceLeDiff,reduceCtorEq,Pos.Ev.row,o1,hF,Zt,q2]
   by_cases c3:vals.length=n
   case neg =>
    rw [if_pos (.inr c3)];have q2:((names.length:Int)=(ro.length:Int))=True:=eq_true (by omega);have q3:((vals.length:Int)=(n:Int))=False:=eq_false (by omega);simp (maxDischargeDepth:=12) only [go_sem,reduceEqDiff,reduceAdd,reduceLeDiff,reduceCtorEq,Pos.Ev.row,o1,hF,Zt,Y4,q2,q3]
   rw [if_neg (by omega)];have q2:((names.length:Int)=(ro.length:Int))=True:=eq_true (by omega);have q3:((vals.length:Int)=(n:Int))=True:=eq_true (by omega);simp (maxDischargeDepth:=12) only [go_sem,reduceEqDiff,reduceAdd,reduceLeDiff,reduceCtorEq,Pos.Ev.row,o1,hF,Zt,Y4,q2,q3];clear o1 hF q2 q3;refine ZK (fun k T H M=>M=[]∧Z2 T 1=.ptr 0 0∧Z2 T 3=.ptr 1 0∧H.get 0=.cells [.int .i64 num,.str kind,.ps .unk (Z0 names),.ps .unk (Z3 vals),.str text] 53∧H.get 1=.cells [.str ro,.int .i64 (n:Int),.bool true] 199∧Z2 T 4=i64 k∧(names.take k).all Z7=true) ro.length ?_ ?_ ?_
   · simp (maxDischargeDepth:=12) only [go_sem,reduceEqDiff,reduceCtorEq]<;>rfl
   · rintro k T H M hk ⟨rfl,g1,g3,hg0,hg1,g4,ha⟩;obtain ⟨s,hs⟩:∃ s,names[k]? = some s:=⟨names[k]'(by omega),by simp⟩;have hr:=K8 hs;have hw:=ZP hk (by unfold Z1;omega);have hN:=pe95 s;have hkn:k < names.length:=by omega
     cases hb:Z7 s with
     | false =>
       rw [hb] at hN;rw [if_pos (B6 hs hb)];simp (maxDischargeDepth:=12) only [go_sem,reduceEqDiff,reduceAdd,reduceLeDiff,reduceCtorEq,g1,g3,hg0,hg1,g4,hk,hkn,Zt,hr,hN]
     | true =>
       rw [hb] at hN;have e1:=B5 (p:=Z7) hs;rw [ha,hb] at e1;simp (maxDischargeDepth:=12) only [go_sem,reduceEqDiff,reduceAdd,reduceLeDiff,g1,g3,hg0,hg1,g4,hk,hkn,Zt,hr,hN,hw,e1]
   · rintro T H M ⟨rfl,g1,g3,hg0,hg1,g4,ha⟩;rw [← c2,List.take_length] at ha;rw [if_neg (by rw [ha];decide)];simp (maxDischargeDepth:=12) only [go_sem,reduceEqDiff,reduceAdd,reduceLeDiff,reduceCtorEq,g3,hg1,g4,Nat.lt_irrefl];refine ZK (fun k T H M=>M=[]∧Z2 T 1=.ptr 0 0∧Z2 T 3=.ptr 1 0∧H.get 0=.cells [.int .i64 num,.str kind,.ps .unk (Z0 names),.ps .unk (Z3 vals),.str text] 53∧H.get 1=.cells [.str ro,.int .i64 (n:Int),.bool true] 199∧Z2 T 5=i64 k∧(vals.take k).any (fun v=>decide (v < 0) || decide (999999999 < v))=false) n ?_ ?_ ?_
     · simp (maxDischargeDepth:=12) only [go_sem,reduceEqDiff,g1,g3,hg0,hg1]<;>rfl
     · rintro k T H M hk ⟨rfl,g1,g3,hg0,hg1,g5,hv⟩;obtain ⟨s,hs⟩:∃ s,vals[k]? = some s:=⟨vals[k]'(by omega),by simp⟩;have hr:=KD hs;have hw:=ZP hk (by unfold Z1;omega);have hN:=pe93 s 0 999999999;have hkn:k < vals.length:=by omega
       cases hb:(decide (s < 0) || decide (999999999 < s)) with
       | true =>
         rw [hb] at hN;rw [if_pos (ZdH hs hb)];simp (maxDischargeDepth:=12) only [go_sem,reduceEqDiff,reduceAdd,reduceLeDiff,reduceCtorEq,g1,g3,hg0,hg1,g5,hk,hkn,Y4,hr,hN]
       | false =>
         rw [hb] at hN;have e1:=ZdG (p:=fun v=>decide (v < 0) || decide (999999999 < v)) hs;rw [hv] at e1;simp only [hb,Bool.or_false] at e1;simp (maxDischargeDepth:=12) only [go_sem,reduceEqDiff,reduceAdd,reduceLeDiff,g1,g3,hg0,hg1,g5,hk,hkn,Y4,hr,hN,hw,e1]
     · rintro T H M ⟨rfl,g1,g3,hg0,hg1,g5,hv⟩;rw [← c3,List.take_length] at hv;rw [if_neg (by rw [hv];decide)];by_cases c6:text=[]
       · subst c6;have b1:Z6 ([]:Nm) []=true:=rfl;simp (maxDischargeDepth:=12) only [go_sem,reduceEqDiff,reduceAdd,reduceLeDiff,reduceCtorEq,g1,g3,hg0,hg1,g5,Nat.lt_irrefl,b1];rfl
       · rw [if_pos c6];have b1:=Xm c6;simp (maxDischargeDepth:=12) only [go_sem,reduceEqDiff,reduceAdd,reduceLeDiff,reduceCtorEq,g1,g3,hg0,hg1,g5,Nat.lt_irrefl,b1]
noncomputable def p34:List AV→Option AV:=Zy (α:=(Ev)) (fun x=>[.agg x.row]) (fun x=>True) (fun x=>i64 (Pos.Zp Z7 x))
theorem Mu:Pok p34 34:=by
 intro args v h;obtain ⟨x,rfl,hp,rfl⟩:=ZD h;exact c34 x
theorem pe34 (e:Ev):p34 [.agg e.row]=some (.int .i64 (Pos.Zp Z7 e)):=ZE (by intro x y h;(simp only [List.cons.injEq,AV.agg.injEq,Pos.Ev.row_inj,and_true] at h;first | simpa only [Prod.ext_iff] using h | simpa only [Prod.ext_iff,and_assoc] using h)) e trivial
attribute [go_sem] pe34
def XU (e:Ev):Bool:=decide (e.kind.length≤40) && (decide (e.names.length≤6) && (decide (e.vals.length≤8) && (decide (e.text.length≤200) && e.names.all fun w=>decide (w.length≤40))))
def Ke (l:List Ev) (n:Int):Bool:=decide ((l.length:Int)≤n) && l.all XU
noncomputable def PPF14:PF:=fun _=>none
theorem ZdM:PrimsOk NC PPF14:=ZA
theorem c14 (l:List Ev) (n:Int) (hp:n≤1000):∀ lo H,Zc NC lo 14 [.ps .unk (l.map Pos.Ev.row),i64 n] H (.bool (Ke l n)) H:=by
 refine Cn ZdM Tryz.func14 rfl rfl ?_;by_cases c1:n < (l.length:Int)
 · have e:Ke l n=false:=by unfold Ke;rw [decide_eq_false (by omega)];rfl
   rw [e];simp (maxDischargeDepth:=12) only [go_sem,reduceEqDiff,reduceAdd,reduceCtorEq,c1]
 have e:Ke l n=l.all XU:=by unfold Ke;rw [decide_eq_true (by omega)];rfl
 rw [e];clear e;simp (maxDischargeDepth:=12) only [go_sem,reduceEqDiff,reduceAdd,reduceCtorEq,c1];refine ZK (fun k T H M=>M=[]∧Z2 T 0=.ps .unk (l.map Pos.Ev.row)∧Z2 T 5=i64 k∧(l.take k).all XU=true) l.length ?_ ?_ ?_
 · simp (maxDischargeDepth:=12) only [go_sem,reduceEqDiff,reduceCtorEq]<;>rfl
 · rintro k T H M hk ⟨rfl,g0,g5,ha⟩;obtain ⟨e,he⟩:∃ e,l[k]? = some e:=⟨l[k],by simp⟩;have hw:=ZP hk (n:=l.length) (by unfold Z1;omega);have bad:XU e=false→l.all XU=false:=B6 he;have e1:=B5 (p:=XU) he;rw [ha,Bool.true_and] at e1;rw [e1];clear e1;obtain ⟨num,kind,names,vals,text⟩:=e;have hr:(l.map Pos.Ev.row)[k]? = some [.int .i64 num,.str kind,.ps .unk (Z0 names),.ps .unk (Z3 vals),.str text]:=Y1 (f:=Pos.Ev.row) he;by_cases d1:(40:Int) < kind.length
   · rw [bad (by unfold XU;rw [decide_eq_false (by simp only;omega)];rfl)];simp (maxDischargeDepth:=12) only [go_sem,reduceEqDiff,reduceAdd,reduceLeDiff,reduceCtorEq,g0,g5,hk,hr,d1]
   by_cases d2:(6:Int) < names.length
   · rw [bad (by unfold XU;simp only;rw [decide_eq_false (p:=names.length≤6) (by omega)];simp)];simp (maxDischargeDepth:=12) only [go_sem,reduceEqDiff,reduceAdd,reduceLeDiff,reduceCtorEq,g0,g5,hk,hr,d1,d2,Zt]
   by_cases d3:(8:Int) < vals.length
   · rw [bad (by unfold XU;simp only;rw [decide_eq_false (p:=vals.length≤8) (by omega)];simp)];simp (maxDischargeDepth:=12) only [go_sem,reduceEqDiff,reduceAdd,reduceLeDiff,reduceCtorEq,g0,g5,hk,hr,d1,d2,d3,Zt,Y4]
   by_cases d4:(200:Int) < text.length
   · rw [bad (by unfold XU;simp only;rw [decide_eq_false (p:=text.length≤200) (by omega)];simp)];simp (maxDischargeDepth:=12) only [go_sem,reduceEqDiff,reduceAdd,reduceLeDiff,reduceCtorEq,g0,g5,hk,hr,d1,d2,d3,d4,Zt,Y4]
   have e2:XU ⟨num,kind,names,vals,text⟩=names.all fun w=>decide (w.length≤40):=by
    unfold XU;simp only;rw [decide_eq_true (by omega),decide_eq_true (by omega),decide_eq_true (by omega),decide_eq_true (by omega)];rfl
   rw [e2] at bad ⊢;clear e2;simp (maxDischargeDepth:=12) only [go_sem,reduceEqDiff,reduceAdd,reduceLeDiff,reduceCtorEq,g0,g5,hk,hr,d1,d2,d3,d4,Zt,Y4];refine ZK (fun j T H M=>M=[]∧Z2 T 0=.ps .unk (l.map Pos.Ev.row)∧Z2 T 5=i64 k∧Z2 T 6=i64 j∧(names.take j).all (fun w=>decide (w.length≤40))=true) names.length ?_ ?_ ?_
   · simp (maxDischargeDepth:=12) only [go_sem,reduceEqDiff,reduceCtorEq,g0,g5]<;>rfl
   · rintro j T H M hj ⟨rfl,g0,g5,g6,hb⟩;obtain ⟨s,hs⟩:∃ s,names[j]? = some s:=⟨names[j],by simp⟩;have hrs:=K8 hs;have hwj:=ZP hj (n:=names.length) (by unfold Z1;omega);by_cases d5:(40:Int) < s.length
     · rw [bad (B6 hs (decide_eq_false (by omega)))];simp (maxDischargeDepth:=12) only [go_sem,reduceEqDiff,reduceAdd,reduceLeDiff,reduceCtorEq,g0,g5,g6,hk,hr,hj,hrs,Zt,d5]
     · have e3:=B5 (p:=fun w:Nm=>decide (w.length≤40)) hs;rw [hb,decide_eq_true (by omega)] at e3;simp (maxDischargeDepth:=12) only [go_sem,reduceEqDiff,reduceAdd,reduceLeDiff,reduceCtorEq,g0,g5,g6,hk,hr,hj,hrs,Zt,d5,hwj];exact e3
   · rintro T H M ⟨rfl,g0,g5,g6,hb⟩;rw [List.take_length] at hb;simp (maxDischargeDepth:=12) only [go_sem,reduceEqDiff,reduceAdd,reduceLeDiff,reduceCtorEq,g0,g5,g6,hk,hr,Zt,Nat.lt_irrefl,hw];exact hb
 · rintro T H M ⟨rfl,g0,g5,ha⟩;rw [List.take_length] at ha;rw [ha];simp (maxDischargeDepth:=12) only [go_sem,reduceEqDiff,reduceCtorEq,g0,g5,Nat.lt_irrefl]
noncomputable def p14:List AV→Option AV:=Zy (α:=(List Ev) × (Int)) (fun x=>[.ps .unk (x.1.map Pos.Ev.row),i64 x.2]) (fun x=>x.2≤1000) (fun x=>.bool (Ke x.1 x.2))
theorem pok14:Pok p14 14:=by
 intro args v h;obtain ⟨x,rfl,hp,rfl⟩:=ZD h;exact c14 x.1 x.2 hp
theorem pe14 (l:List Ev) (n:Int) (hp:n≤1000):p14 [.ps .unk (l.map Pos.Ev.row),.int .i64 n]=some (.bool (Ke l n)):=ZE (by intro x y h;(simp only [List.cons.injEq,AV.int.injEq,AV.ps.injEq,Ms,true_and,and_true] at h;first | simpa only [Prod.ext_iff] using h | simpa only [Prod.ext_iff,and_assoc] using h)) (l,n) hp
attribute [go_sem] pe14
end Go.Sim

namespace Go.Sim
open Go Go.Proofs
open Go.Sim.Pos (Nm Ev)
set_option maxRecDepth 100000
set_option maxHeartbeats 16000000
noncomputable def ZdN:PF:=fun _=>none
theorem ZdO:PrimsOk NC ZdN:=ZA
theorem c206 (s:List Nat) (hp:s.length≤Z1 ∧ ∀ c ∈ s,c < 256):∀ lo H,Zc NC lo 206 [.str s] H (.tup [i64 (Zo s).1,.bool (Zo s).2]) H:=by
 refine Cn ZdO Tryz.func206 rfl rfl ?_;obtain ⟨hp,hb⟩:=hp;rcases Classical.propComplete ((s.length:Int)=0) with q0 | q0
 · have h0:s=[]:=List.length_eq_zero_iff.1 (by have:=of_eq_true q0;omega);subst h0;simp (maxDischargeDepth:=12) only [go_sem,reduceEqDiff,reduceCtorEq];rfl
 have hpos:0 < s.length:=by
  rcases Nat.eq_zero_or_pos s.length with h | h
  · rw [h] at q0;simp at q0
  · exact h
 have hne:s ≠ []:=fun h=>by rw [h] at hpos;simp at hpos
 rcases Classical.propComplete ((9:Int) < s.length) with q9 | q9
 · have hI:Zo s=(0,false):=by
    unfold Zo;rw [if_neg];intro h;have:=of_eq_true q9;omega
   rw [hI];simp (maxDischargeDepth:=12) only [go_sem,reduceEqDiff,reduceCtorEq,q0,q9]
 have hq:s.length≤9:=by
  have:¬ ((9:Int) < s.length):=by rw [q9];exact id
  omega
 obtain ⟨c0,hc0⟩:∃ c,s[0]? = some c:=⟨s[0],by simp⟩;rcases Classical.propComplete ((1:Int) < s.length) with q1 | q1<;>rcases Classical.propComplete ((c0:Int)=48) with q2 | q2
 · have hI:Zo s=(0,false):=by
    unfold Zo;rw [if_neg];intro h;have h1:=of_eq_true q1;have h2:c0=48:=by have:=of_eq_true q2;omega
    rcases h.2.2.2 with h | h
    · omega
    · rw [hc0,h2] at h;exact h rfl
   rw [hI];simp (maxDischargeDepth:=12) only [go_sem,reduceEqDiff,reduceCtorEq,q0,q9,q1,hpos,hc0,q2]
 all_goals
  have hz:s.length=1∨s[0]? ≠ some 48:=by
   rw [hc0]
   first
   | (refine .inr fun h => ?_
      cases h;simp at q2
      done)
   | (refine .inl ?_
      have:¬ ((1:Int) < s.length):=by rw [q1];exact id
      omega)
  simp (maxDischargeDepth:=12) only [go_sem,reduceEqDiff,reduceCtorEq,q0,q9,q1,hpos,hc0,q2];clear q1 q2;refine ZK (fun k T H M=>M=[]∧Z2 T 0=.str s∧Z2 T 5=i64 k∧Z2 T 4=.int .i64 (Yj (s.take k) 0)∧Yc (s.take k)=true) s.length ?_ ?_ ?_
  · simp (maxDischargeDepth:=12) only [go_sem,reduceEqDiff,reduceCtorEq];exact ⟨rfl,rfl⟩
  · rintro k T H M hk ⟨rfl,g0,g5,g4,hd⟩;obtain ⟨c,hc⟩:∃ c,s[k]? = some c:=⟨s[k],by simp⟩;have hc8:=hb c (List.mem_of_getElem? hc);have hdt:=Ah hc;have hnt:=II hc;have hns:=IJ hd (by omega);have hw:=ZP hk hp;rw [hd] at hdt;rw [hnt,hdt];generalize Yj (s.take k) 0=N at g4 hns ⊢;by_cases d1:(c:Int) < 48
    · have hdg:ZY (c:Int)=false:=by simp [ZY,d1]
      have hI:Zo s=(0,false):=by
       unfold Zo;rw [if_neg];intro h';rw [G4 hc hdg] at h';cases h'.2.2.1
      rw [hI];simp (maxDischargeDepth:=12) only [go_sem,reduceEqDiff,reduceCtorEq,g0,g5,hk,hc,d1]
    by_cases d2:(57:Int) < c
    · have hdg:ZY (c:Int)=false:=by simp [ZY,d1,d2]
      have hI:Zo s=(0,false):=by
       unfold Zo;rw [if_neg];intro h';rw [G4 hc hdg] at h';cases h'.2.2.1
      rw [hI];simp (maxDischargeDepth:=12) only [go_sem,reduceEqDiff,reduceCtorEq,g0,g5,hk,hc,d1,d2]
    have hdg:ZY (c:Int)=true:=by simp [ZY,d1,d2]
    have w1:Zk .i64 (Int.mul 10 N)=10 * N:=Qx (by show _≤10 * N;omega) (by show 10 * N≤_;omega);have w2:Zk .u8 (Int.sub (c:Int) 48)=((c - 48:Nat):Int):=by
     have e:Int.sub (c:Int) 48=((c - 48:Nat):Int):=by show (c:Int) - 48=_;omega
     rw [e];exact Z74 (by omega) (by omega)
    have w3:=Al (c:=c - 48) (by omega);have w4:Zk .i64 (Int.add (10 * N) ((c - 48:Nat):Int))=10 * N+((c:Int) - 48):=by
     have e:Int.add (10 * N) ((c - 48:Nat):Int)=10 * N+((c:Int) - 48):=by show 10 * N+((c - 48:Nat):Int)=_;omega
     rw [e];exact Qx (by omega) (by omega)
    simp (maxDischargeDepth:=12) only [go_sem,reduceEqDiff,reduceCtorEq,g0,g5,g4,hk,hc,d1,d2,w1,w2,w3,w4,hw,hdg]
  · rintro T H M ⟨rfl,g0,g5,g4,hd⟩;rw [List.take_length] at g4 hd;have hI:Zo s=(Yj s 0,true):=by unfold Zo;rw [if_pos ⟨hne,hq,hd,hz⟩]
    rw [hI];simp (maxDischargeDepth:=12) only [go_sem,reduceEqDiff,reduceCtorEq,g0,g5,g4,Nat.lt_irrefl]
noncomputable def U9:List AV→Option AV:=Zy (α:=(List Nat)) (fun x=>[.str x]) (fun x=>x.length≤Z1 ∧ ∀ c ∈ x,c < 256) (fun x=>.tup [i64 (Zo x).1,.bool (Zo x).2])
theorem Mv:Pok U9 206:=by
 intro args v h;obtain ⟨x,rfl,hp,rfl⟩:=ZD h;exact c206 x hp
theorem B7 (s:List Nat) (hp:s.length≤Z1 ∧ ∀ c ∈ s,c < 256):U9 [.str s]=some (.tup [.int .i64 (Zo s).1,.bool (Zo s).2]):=ZE (by intro x y h;(simp only [List.cons.injEq,AV.str.injEq,and_true] at h;first | simpa only [Prod.ext_iff] using h | simpa only [Prod.ext_iff,and_assoc] using h)) s hp
attribute [go_sem] B7
noncomputable def ZdP:PF:=fun _=>none
theorem ZdQ:PrimsOk NC ZdP:=ZA
theorem c205 (s:List Nat) (hp:s.length≤Z1):∀ lo H,Zc NC lo 205 [.str s] H (.bool (Yc s && decide (s.length=7))) H:=by
 refine Cn ZdQ Tryz.func205 rfl rfl ?_;simp (maxDischargeDepth:=12) only [go_sem];refine ZK (fun k T H M=>M=[]∧Z2 T 0=.str s∧Z2 T 3=i64 k∧Yc (s.take k)=true) s.length ?_ ?_ ?_
 · simp (maxDischargeDepth:=12) only [go_sem]<;>rfl
 · rintro k T H M hk ⟨rfl,g0,g3,hd⟩;obtain ⟨c,hc⟩:∃ c,s[k]? = some c:=⟨s[k],by simp⟩;have hdt:=Ah hc;have hw:=ZP hk hp;rw [hd] at hdt;rw [hdt];by_cases d1:(c:Int) < 48
   · have hdg:ZY (c:Int)=false:=by simp [ZY,d1]
     rw [G4 hc hdg];simp (maxDischargeDepth:=12) only [go_sem,reduceEqDiff,reduceCtorEq,g0,g3,hk,hc,d1]
   by_cases d2:(57:Int) < c
   · have hdg:ZY (c:Int)=false:=by simp [ZY,d1,d2]
     rw [G4 hc hdg];simp (maxDischargeDepth:=12) only [go_sem,reduceEqDiff,reduceCtorEq,g0,g3,hk,hc,d1,d2]
   have hdg:ZY (c:Int)=true:=by simp [ZY,d1,d2]
   simp (maxDischargeDepth:=12) only [go_sem,reduceEqDiff,reduceCtorEq,g0,g3,hk,hc,d1,d2,hdg,hw]
 · rintro T H M ⟨rfl,g0,g3,hd⟩;rw [List.take_length] at hd;rw [hd];rcases Classical.propComplete ((s.length:Int)=7) with q | q
   · have e:decide (s.length=7)=true:=decide_eq_true (by have:=of_eq_true q;omega);simp (maxDischargeDepth:=12) only [go_sem,reduceEqDiff,reduceCtorEq,g0,g3,Nat.lt_irrefl,q,e]
   · have e:decide (s.length=7)=false:=decide_eq_false (by have:=of_eq_false q;omega);simp (maxDischargeDepth:=12) only [go_sem,reduceEqDiff,reduceCtorEq,g0,g3,Nat.lt_irrefl,q,e]
noncomputable def p205:List AV→Option AV:=Zy (α:=(List Nat)) (fun x=>[.str x]) (fun x=>x.length≤Z1) (fun x=>.bool (Yc x && decide (x.length=7)))
theorem ZdR:Pok p205 205:=by
 intro args v h;obtain ⟨x,rfl,hp,rfl⟩:=ZD h;exact c205 x hp
theorem Mw (s:List Nat) (hp:s.length≤Z1):p205 [.str s]=some (.bool (Yc s && decide (s.length=7))):=ZE (by intro x y h;(simp only [List.cons.injEq,AV.str.injEq,and_true] at h;first | simpa only [Prod.ext_iff] using h | simpa only [Prod.ext_iff,and_assoc] using h)) s hp
attribute [go_sem] Mw
def B8:Nm:=[48,49,50,51,52,53,54,55,56,57]
theorem ZdS:Ks #[48,49,50,51,52,53,54,55,56,57] B8:=rfl
theorem ZdT:Ks #[45] [45]:=rfl
theorem ZdU:Ks #[] []:=rfl
theorem kZero:Ks #[48] [48]:=rfl
theorem ZdV {d:Nat} (h:d < 10):(B8.take (d+1)).drop d=[48+d]:=by
 have:d=0∨d=1∨d=2∨d=3∨d=4∨d=5∨d=6∨d=7∨d=8∨d=9:=by omega
 rcases this with rfl | rfl | rfl | rfl | rfl | rfl | rfl | rfl | rfl | rfl<;>rfl
attribute [go_sem ↓ 3000] ZdS ZdT ZdU kZero
noncomputable def ZdW:PF:=fun _=>none
theorem ZdX:PrimsOk NC ZdW:=ZA
theorem c210 (a:Int) (hp:0≤a∧a < 1000000000):∀ lo H,Zc NC lo 210 [i64 a] H (.str (Zi a)) H:=by
 refine Cn ZdX Tryz.func210 rfl rfl ?_;obtain ⟨n,rfl⟩:∃ n:Nat,a=(n:Int):=⟨a.toNat,by have:=hp.1;omega⟩;have hn:n < 1000000000:=by have:=hp.2;omega
 have hneg:((n:Int) < 0)=False:=eq_false (by omega);rw [GU];simp (maxDischargeDepth:=12) only [go_sem,reduceEqDiff,reduceCtorEq,hneg];refine Ae (fun y T H M=>H=.empty∧M=[] ∧ ∃ (f:Nat) (acc:Nm),y < 10 ^ (f+1)∧y < 1000000000∧acc.length+f=19∧Qf (f+1) y++acc=Qf 20 n∧Z2 T 0=.int .i64 (y:Int)∧Z2 T 3=.str []∧Z2 T 4=.str acc) ?_ n _ _ _ ?_
 · rintro y T H M ⟨rfl,rfl,f,acc,hy,hy9,hf,hi,g0,g3,g4⟩;have rm:rqI .rem 3 (.int .i64 (y:Int)) (.int .i64 10)=some (.int .i64 ((y % 10:Nat):Int)):=F5 y 10 (by decide);have qm:rqI .quo 3 (.int .i64 (y:Int)) (.int .i64 10)=some (.int .i64 ((y / 10:Nat):Int)):=IX y 10 (by decide) (by omega);have hd10:y % 10 < 10:=Nat.mod_lt _ (by decide);have hdg:=ZdV hd10;rw [Jd] at hi;have s0:Zk .i64 (Int.sub 0 ((y % 10:Nat):Int)) = -((y % 10:Nat):Int):=by
    have e:Int.sub 0 ((y % 10:Nat):Int) = -((y % 10:Nat):Int):=Int.zero_sub _;rw [e];exact Qx (by omega) (by omega)
   have s1:JV ((y % 10:Nat):Int) (-((y % 10:Nat):Int))=((y % 10:Nat):Int):=by unfold JV;split<;>omega
   have s2:Zk .i64 (Int.add ((y % 10:Nat):Int) 1)=((y % 10+1:Nat):Int):=Ym (n:=y % 10+1) (by omega);have hsl:Ys NC.P 9 (.str B8) (some (.int .i64 ((y % 10:Nat):Int))) (some (.int .i64 ((y % 10+1:Nat):Int))) none=some (.str [48+y % 10]):=by
    rw [Af (by omega) (by show y % 10+1≤10;omega),hdg]
   have hle:1+acc.length≤9223372036854775807:=by omega
   have hle2:acc.length+1≤9223372036854775807:=by omega
   by_cases h10:y < 10
   · have q0:y / 10=0:=by omega
     have q1:y % 10=y:=by omega
     rw [if_pos h10] at hi;rw [q1] at rm s0 s1 s2 hsl;rw [q0] at qm;simp (maxDischargeDepth:=12) only [go_sem,reduceEqDiff,reduceCtorEq,g0,g3,g4,rm,qm,s0,s1,s2,hsl,hle,hle2];rw [← hi];rfl
   · have q0:(((y / 10:Nat):Int)=0)=False:=eq_false (by omega);rw [if_neg h10] at hi;simp (maxDischargeDepth:=12) only [go_sem,reduceEqDiff,reduceCtorEq,g0,g3,g4,rm,qm,s0,s1,s2,hsl,hle,q0];obtain ⟨f,rfl⟩:∃ f',f=f'+1:=⟨f - 1,by
      cases f with
      | zero=>simp at hy;omega
      | succ f=>simp⟩
     exact ⟨y / 10,by omega,f,(48+y % 10)::acc,by rw [Nat.pow_succ] at hy;omega,by omega,by simp;omega,by rw [← hi];simp,rfl,rfl⟩
 · simp (maxDischargeDepth:=12) only [go_sem,reduceCtorEq];exact ⟨19,[],by omega,hn,rfl,by simp,rfl⟩
noncomputable def p210:List AV→Option AV:=Zy (α:=(Int)) (fun x=>[i64 x]) (fun x=>0≤x∧x < 1000000000) (fun x=>.str (Zi x))
theorem ZdY:Pok p210 210:=by
 intro args v h;obtain ⟨x,rfl,hp,rfl⟩:=ZD h;exact c210 x hp
theorem Mx (a:Int) (hp:0≤a∧a < 1000000000):p210 [.int .i64 a]=some (.str (Zi a)):=ZE (by intro x y h;(simp only [List.cons.injEq,AV.int.injEq,true_and,and_true] at h;first | simpa only [Prod.ext_iff] using h | simpa only [Prod.ext_iff,and_assoc] using h)) a hp
attribute [go_sem] Mx
noncomputable def My:PF:=Zd 210 p210 (fun _=>none)
theorem ZdZ:PrimsOk NC My:=Pa (ZA) ZdY
theorem Ze0:En My 210 p210:=Ze (by rfl) (by kernel_rfl)
attribute [go_sem ↓] Ze0
theorem c101 (a:Int) (hp:0≤a∧a < 1000000000):∀ lo H,Zc NC lo 101 [i64 a] H (.str (Zi a)) H:=by
 refine Cn ZdZ Tryz.func101 rfl rfl ?_;have h:=Mx a hp;simp (maxDischargeDepth:=12) only [go_sem,reduceEqDiff,reduceCtorEq,h]
noncomputable def Ua:List AV→Option AV:=Zy (α:=(Int)) (fun x=>[i64 x]) (fun x=>0≤x∧x < 1000000000) (fun x=>.str (Zi x))
theorem Mz:Pok Ua 101:=by
 intro args v h;obtain ⟨x,rfl,hp,rfl⟩:=ZD h;exact c101 x hp
theorem Fr (a:Int) (hp:0≤a∧a < 1000000000):Ua [.int .i64 a]=some (.str (Zi a)):=ZE (by intro x y h;(simp only [List.cons.injEq,AV.int.injEq,true_and,and_true] at h;first | simpa only [Prod.ext_iff] using h | simpa only [Prod.ext_iff,and_assoc] using h)) a hp
attribute [go_sem] Fr
theorem B9 (l:List Nm) (w:Nm):Z0 l++[[AV.str w]]=Z0 (l++[w]):=by simp [Z0]
theorem Ba (l:List Nm):(Z0 l).all (fun r=>decide (r.length=1))=true:=JF (f:=fun w:Nm=>[AV.str w]) (sz:=1) (fun _=>rfl) l
noncomputable def PPF98:PF:=fun _=>none
theorem Ze1:PrimsOk NC PPF98:=ZA
theorem c98 (s:List Nat) (c:Nat) (hp:s.length+1≤Z1):∀ lo H,Zc NC lo 98 [.str s,.int .u8 c] H (.ps .unk (Z0 (Zu c s))) H:=by
 refine Cn Ze1 Tryz.func98 rfl rfl ?_;simp (maxDischargeDepth:=12) only [go_sem,reduceAdd];refine ZK (fun k T H M=>M=[]∧Z2 T 0=.str s∧Z2 T 1=.int .u8 c∧Z2 T 7=i64 k ∧ ∃ (fr:Nat) (done:List (List Nat)) (t:Tok),Z2 T 6=i64 fr∧fr≤k∧done.length≤k∧Z2 T 5=.ps t (Z0 done)∧Zj 0 H t (Z0 done) 1 9∧Zu c s=done++Xw c ((s.take k).drop fr) (s.drop k)) s.length ?_ ?_ ?_
 · simp (maxDischargeDepth:=12) only [go_sem,reduceEqDiff,reduceCtorEq];exact ⟨0,[],.nil,rfl,Nat.le_refl _,Nat.le_refl _,rfl,.inl ⟨rfl,rfl⟩,rfl⟩
 · rintro k T H M hk ⟨rfl,g0,g1,g7,fr,done,t,g6,hfk,hdl,g5,hA,hs⟩;obtain ⟨y,hx⟩:∃ c,s[k]? = some c:=⟨s[k],by simp⟩;have hw:=ZP (k:=k) (n:=Z1) (by omega) (Nat.le_refl _);have sl:=Af (s:=s) (i:=fr) (j:=k) hfk (by omega);rw [K9 hx,Kv] at hs;rcases Classical.propComplete ((y:Int)=(c:Int)) with q | q
   · have hxc:y=c:=by have:=of_eq_true q;omega
     rw [if_pos hxc] at hs;obtain ⟨t',H1,ha,hB,hn1,hO1,_⟩:=YR (lo:=0) hA (Nat.zero_le _) (Nat.zero_le _) (r:=[.str ((s.take k).drop fr)]) (by rw [Zt];omega) rfl (by decide) (Ba _);have hmap:Z0 done++[[AV.str ((s.take k).drop fr)].map AV.strip0]=Z0 (done++[(s.take k).drop fr]):=B9 _ _;rw [hmap] at ha hB;generalize (s.take k).drop fr=cur at sl ha hB hs;simp (maxDischargeDepth:=12) only [go_sem,reduceEqDiff,reduceMul,reduceLeDiff,reduceCtorEq,g0,g1,g5,g6,g7,hk,hx,q,sl,hw,ZT,ha];refine ⟨k+1,done++[cur],t',rfl,Nat.le_refl _,by simp;omega,rfl,hB, ?_⟩;rw [hs];have:(s.take (k+1)).drop (k+1)=[]:=List.drop_eq_nil_of_le (by rw [List.length_take];omega);rw [this];simp
   · have hxc:¬ (y=c):=by intro h;rw [h] at q;simp at q
     rw [if_neg hxc] at hs;simp (maxDischargeDepth:=12) only [go_sem,reduceEqDiff,reduceCtorEq,g0,g1,g5,g6,g7,hk,hx,q,hw];refine ⟨fr,done,t,rfl,by omega,by omega,rfl,hA, ?_⟩;rw [hs,List.take_add_one,hx]
     congr 2
     rw [List.drop_append_of_le_length (by rw [List.length_take];omega)];rfl
 · rintro T H M ⟨rfl,g0,g1,g7,fr,done,t,g6,hfk,hdl,g5,hA,hs⟩;have sl:=Vf (s:=s) (i:=fr) hfk;rw [List.take_length,List.drop_length] at hs;have hs:Zu c s=done++[s.drop fr]:=hs;obtain ⟨t',H1,ha,hB,hn1,hO1,_⟩:=YR (lo:=0) hA (Nat.zero_le _) (Nat.zero_le _) (r:=[.str (s.drop fr)]) (by rw [Zt];omega) rfl (by decide) (Ba _);have hmap:Z0 done++[[AV.str (s.drop fr)].map AV.strip0]=Z0 (Zu c s):=by rw [hs];exact B9 _ _
   rw [hmap] at ha;simp (maxDischargeDepth:=12) only [go_sem,reduceEqDiff,reduceMul,reduceLeDiff,reduceCtorEq,g0,g5,g6,g7,Nat.lt_irrefl,sl,ZT,ha]
noncomputable def p98:List AV→Option AV:=Zy (α:=(List Nat) × (Nat)) (fun x=>[.str x.1,.int .u8 x.2]) (fun x=>x.1.length+1≤Z1) (fun x=>.ps .unk (Z0 (Zu x.2 x.1)))
theorem MA:Pok p98 98:=by
 intro args v h;obtain ⟨x,rfl,hp,rfl⟩:=ZD h;exact c98 x.1 x.2 hp
theorem pe98 (s:List Nat) (c:Nat) (hp:s.length+1≤Z1):p98 [.str s,.int .u8 c]=some (.ps .unk (Z0 (Zu c s))):=ZE (by intro x y h;(simp only [List.cons.injEq,AV.str.injEq,AV.int.injEq,Int.natCast_inj,true_and,and_true] at h;first | simpa only [Prod.ext_iff] using h | simpa only [Prod.ext_iff,and_assoc] using h)) (s,c) hp
attribute [go_sem] pe98
theorem pad7 (n:Nat) (h:n < 10000000):(Qf 20 n).length≤7∧List.replicate (7 - (Qf 20 n).length) 48++Qf 20 n=Pos.QQ n:=by
 rw [Jd];split
 · refine ⟨by simp, ?_⟩;simp [Pos.QQ,List.replicate];omega
 rw [Jd];split
 · refine ⟨by simp, ?_⟩;simp [Pos.QQ,List.replicate];omega
 rw [Jd];split
 · refine ⟨by simp, ?_⟩;simp [Pos.QQ,List.replicate];omega
 rw [Jd];split
 · refine ⟨by simp, ?_⟩;simp [Pos.QQ,List.replicate];omega
 rw [Jd];split
 · refine ⟨by simp, ?_⟩;simp [Pos.QQ,List.replicate];omega
 rw [Jd];split
 · refine ⟨by simp, ?_⟩;simp [Pos.QQ];omega
 rw [Jd,if_pos (by omega)];refine ⟨by simp, ?_⟩;simp [Pos.QQ];omega
noncomputable def MB:PF:=Zd 101 Ua (fun _=>none)
theorem Ze2:PrimsOk NC MB:=Pa (ZA) Mz
theorem Ze3:En MB 101 Ua:=Ze (by rfl) (by kernel_rfl)
attribute [go_sem ↓] Ze3
theorem c72 (s:Nm) (hp:s.length≤Z1 ∧ ∀ c ∈ s,c < 256):∀ lo H,Zc NC lo 72 [.str s] H (.str (Pos.X7 s)) H:=by
 refine Cn Ze2 Tryz.func72 rfl rfl ?_;obtain ⟨hl,hb⟩:=hp;simp (maxDischargeDepth:=12) only [go_sem];refine ZK (fun k T H M=>M=[]∧Z2 T 0=.str s∧Z2 T 3=.int .i64 ((Pos.Qy 1 (s.take k):Nat):Int)∧Z2 T 4=.int .i64 (k:Int)) s.length ?_ ?_ ?_
 · simp (maxDischargeDepth:=12) only [go_sem,reduceCtorEq]<;>rfl
 · rintro k T H M hk ⟨rfl,g0,g3,g4⟩;obtain ⟨c,hc⟩:∃ c,s[k]? = some c:=⟨s[k],by simp⟩;have hc8:=hb c (List.mem_of_getElem? hc);have hs:=Pos.UO (s.take k) (x:=1) (by decide);rw [IZ hc];generalize Pos.Qy 1 (s.take k)=X at g3 hs ⊢;have w1:Zk .i64 (Int.mul 347 (X:Int))=((347 * X:Nat):Int):=Ym (n:=347 * X) (by omega);have w2:Zk .i64 (Int.add ((347 * X:Nat):Int) (c:Int))=((347 * X+c:Nat):Int):=Ym (n:=347 * X+c) (by omega);have r1':rqI .rem 3 (.int .i64 ((347 * X+c:Nat):Int)) (.int .i64 9999677)=some (.int .i64 (((347 * X+c) % 9999677:Nat):Int)):=F5 (347 * X+c) 9999677 (by decide);have v1:=Al hc8;have hw:=ZP hk hl;generalize hQ:(347 * X+c) % 9999677=Q at r1' ⊢;simp (maxDischargeDepth:=12) only [go_sem,reduceEqDiff,reduceCtorEq,g0,g3,g4,hk,hc,w1,w2,r1',v1,hw]
 · rintro T H M ⟨rfl,g0,g3,g4⟩;rw [List.take_length] at g3;have hs:=Pos.UO s (x:=1) (by decide);unfold Pos.X7;generalize Pos.Qy 1 s=X at g3 hs ⊢;have hT:=Fr (X:Int) ⟨by omega,by omega⟩;rw [GU] at hT;obtain ⟨h7,hpad⟩:=pad7 X (by omega);generalize Qf 20 X=w at hT h7 hpad;simp (maxDischargeDepth:=12) only [go_sem,reduceEqDiff,reduceCtorEq,g0,g3,g4,Nat.lt_irrefl,hT];refine Ae (fun y T H M=>M=[]∧y+w.length≤7∧Z2 T 5=.str (List.replicate (7 - w.length - y) 48++w)) ?_ (7 - w.length) _ _ _ ?_
   · rintro y T H M ⟨rfl,hy,g5⟩;have hlen:(List.replicate (7 - w.length - y) 48++w).length=7 - y:=by simp;omega
     by_cases h0:y=0
     · subst h0;have q:((((List.replicate (7 - w.length - 0) 48++w).length:Nat):Int) < 7)=False:=eq_false (by rw [hlen];omega);simp (maxDischargeDepth:=12) only [go_sem,reduceEqDiff,reduceCtorEq,g5,q];rw [← hpad];simp
     · have q:((((List.replicate (7 - w.length - y) 48++w).length:Nat):Int) < 7)=True:=eq_true (by rw [hlen];omega);have hle:1+(List.replicate (7 - w.length - y) 48++w).length≤9223372036854775807:=by rw [hlen];omega
       have e:48::(List.replicate (7 - w.length - y) 48++w)=List.replicate (7 - w.length - (y - 1)) 48++w:=by
        have:7 - w.length - (y - 1)=(7 - w.length - y)+1:=by omega
        rw [this,List.replicate_succ];rfl
       generalize hZ:List.replicate (7 - w.length - y) 48++w=Z at g5 q hle e;simp (maxDischargeDepth:=12) only [go_sem,reduceEqDiff,g5,q,hle];exact ⟨y - 1,by omega,by omega,by rw [e]⟩
   · simp (maxDischargeDepth:=12) only [go_sem,reduceEqDiff];refine ⟨by omega, ?_⟩;have:7 - w.length - (7 - w.length)=0:=by omega
     rw [this];rfl
noncomputable def p72:List AV→Option AV:=Zy (α:=(Nm)) (fun x=>[.str x]) (fun x=>x.length≤Z1 ∧ ∀ c ∈ x,c < 256) (fun x=>.str (Pos.X7 x))
theorem MC:Pok p72 72:=by
 intro args v h;obtain ⟨x,rfl,hp,rfl⟩:=ZD h;exact c72 x hp
theorem pe72 (s:Nm) (hp:s.length≤Z1 ∧ ∀ c ∈ s,c < 256):p72 [.str s]=some (.str (Pos.X7 s)):=ZE (by intro x y h;(simp only [List.cons.injEq,AV.str.injEq,and_true] at h;first | simpa only [Prod.ext_iff] using h | simpa only [Prod.ext_iff,and_assoc] using h)) s hp
attribute [go_sem] pe72
theorem Bb (c:Nat):∀ {a b:List Nm},a ≠ []→b ≠ []→ZV c (a++b)=ZV c a++c::ZV c b
 | [],_,h,_=>absurd rfl h
 | [w],[],_,h=>absurd rfl h
 | [w],y::r,_,_=>rfl
 | w::v::r,b,_,hb=>by
   have ih:=Bb c (a:=v::r) (b:=b) (by simp) hb;show w++c::ZV c (v::r++b)=(w++c::ZV c (v::r))++c::ZV c b;rw [ih];simp
theorem MD (c:Nat) {l:List Nm} {m:Nat} {w:Nm} (h:l[m]? = some w) (hm:0 < m):ZV c (l.take (m+1))=ZV c (l.take m)++c::w:=by
 have hlt:=(List.getElem?_eq_some_iff.1 h).1;rw [List.take_add_one,h];rw [Bb c (a:=l.take m) (b:=(some w).toList) (by intro e;have:=congrArg List.length e;rw [List.length_take] at this;simp only [List.length_nil] at this;omega) (by simp)];rfl
theorem Ze4 (c:Nat) (l:List Nm) (m:Nat):(ZV c (l.take m)).length≤(ZV c l).length:=by
 by_cases h0:l.take m=[]
 · rw [h0];exact Nat.zero_le _
 by_cases h1:l.drop m=[]
 · have:=List.take_append_drop m l;rw [h1,List.append_nil] at this;rw [this];exact Nat.le_refl _
 have h:=Bb c h0 h1;rw [List.take_append_drop] at h;rw [h];simp
theorem Ze5 {e:Ev} (h:Pos.Zp Z7 e=0):(1≤e.num∧e.num≤1000) ∧ ∀ v ∈ e.vals,0≤v∧v < 1000000000:=by
 unfold Pos.Zp at h;split at h
 · cases h
 split at h
 · cases h
 split at h
 · cases h
 split at h
 · cases h
 split at h
 · cases h
 rename_i h1 _ _ _ _ _ _ h2
 refine ⟨by omega,fun v hv => ?_⟩;have:=h2;rw [Bool.not_eq_true,List.any_eq_false] at this;have:=this v hv;simp at this;omega
noncomputable def ME:PF:=Zd 101 Ua (fun _=>none)
theorem Ze6:PrimsOk NC ME:=Pa (ZA) Mz
theorem Ze7:En ME 101 Ua:=Ze (by rfl) (by kernel_rfl)
attribute [go_sem ↓] Ze7
theorem c96 (e:Ev) (hp:Pos.Zp Z7 e=0):∀ lo H,Zc NC lo 96 [.agg e.row] H (.str (Pos.YP e)) H:=by
 refine Cn Ze6 Tryz.func96 rfl rfl ?_;obtain ⟨hpr,hlen⟩:=VX hp;obtain ⟨hnum,hvals⟩:=Ze5 hp;obtain ⟨hw4,hnl,hvl⟩:=G9 hp;have hT0:=Fr e.num ⟨by omega,by omega⟩;clear hpr hp;unfold Pos.YP Pos.Kx at hlen ⊢;obtain ⟨num,kind,names,vals,text⟩:=e;simp only at hlen hnum hvals hnl hvl hT0 ⊢;clear hw4;have pre:∀ m,(ZV 32 ((Zi num::kind::(names++vals.map Zi)).take m)).length≤200:=fun m=>Nat.le_trans (Ze4 _ _ _) hlen
 have p2:=pre 2;have e2:ZV 32 ((Zi num::kind::(names++vals.map Zi)).take 2)=Zi num++32::kind:=rfl;rw [e2] at p2;have p2':(Zi num).length+1+kind.length≤200:=by simp at p2;omega
 have l1:(Zi num).length+1≤9223372036854775807:=by omega
 have l2:(Zi num++[32]).length+kind.length≤9223372036854775807:=by simp;omega
 have e3:Zi num++[32]++kind=Zi num++32::kind:=by simp
 simp (maxDischargeDepth:=12) only [go_sem,reduceEqDiff,reduceAdd,reduceSub,reduceLeDiff,reduceCtorEq,Pos.Ev.row,hT0,l1,l2,e3];refine ZK (fun k T H M=>M=[]∧Z2 T 1=.ptr 0 0∧H.get 0=.cells [.int .i64 num,.str kind,.ps .unk (Z0 names),.ps .unk (Z3 vals),.str text] 53∧Z2 T 3=.str (ZV 32 ((Zi num::kind::(names++vals.map Zi)).take (k+2)))∧Z2 T 4=i64 k) names.length ?_ ?_ ?_
 · simp (maxDischargeDepth:=12) only [go_sem,reduceEqDiff,reduceCtorEq]<;>rfl
 · rintro k T H M hk ⟨rfl,g1,hg,g3,g4⟩;obtain ⟨s,hs⟩:∃ s,names[k]? = some s:=⟨names[k],by simp⟩;have hr:=K8 hs;have hw:=ZP hk (by unfold Z1;omega);have hat:(Zi num::kind::(names++vals.map Zi))[k+2]? = some s:=by simp;rw [List.getElem?_append_left hk];exact hs
   have hj:=MD 32 hat (by omega);have hlk:=pre (k+2);have hlk1:=pre (k+2+1);have e5:k+1+2=k+2+1:=by omega
   rw [e5];rw [hj] at hlk1 ⊢;generalize ZV 32 ((Zi num::kind::(names++vals.map Zi)).take (k+2))=A at g3 hlk hlk1 ⊢;have hl3:A.length+1+s.length≤200:=by simp at hlk1;omega
   have l1:A.length+1≤9223372036854775807:=by omega
   have l2:(A++[32]).length+s.length≤9223372036854775807:=by simp;omega
   have e3:A++[32]++s=A++32::s:=by simp
   simp (maxDischargeDepth:=12) only [go_sem,reduceEqDiff,reduceAdd,reduceLeDiff,g1,hg,g3,g4,Zt,hk,hr,l1,l2,e3,hw]
 · rintro T H M ⟨rfl,g1,hg,g3,g4⟩;simp (maxDischargeDepth:=12) only [go_sem,reduceEqDiff,reduceAdd,reduceLeDiff,reduceCtorEq,g1,hg,g4,Zt,Nat.lt_irrefl];refine ZK (fun k T H M=>M=[]∧Z2 T 1=.ptr 0 0∧H.get 0=.cells [.int .i64 num,.str kind,.ps .unk (Z0 names),.ps .unk (Z3 vals),.str text] 53∧Z2 T 3=.str (ZV 32 ((Zi num::kind::(names++vals.map Zi)).take (k+names.length+2)))∧Z2 T 5=i64 k) vals.length ?_ ?_ ?_
   · simp (maxDischargeDepth:=12) only [go_sem,reduceEqDiff,g1,hg,g3,Nat.zero_add]
   · rintro k T H M hk ⟨rfl,g1,hg,g3,g5⟩;obtain ⟨s,hs⟩:∃ s,vals[k]? = some s:=⟨vals[k],by simp⟩;have hv:=hvals s (List.mem_of_getElem? hs);have hT:=Fr s ⟨by omega,by omega⟩;have hr:=KD hs;have hw:=ZP hk (by unfold Z1;omega);have hat:(Zi num::kind::(names++vals.map Zi))[k+names.length+2]? = some (Zi s):=by
      simp;rw [List.getElem?_append_right (by omega)];simp [hs]
     have hj:=MD 32 hat (by omega);have hlk:=pre (k+names.length+2);have hlk1:=pre (k+names.length+2+1);have e5:k+1+names.length+2=k+names.length+2+1:=by omega
     rw [e5];rw [hj] at hlk1 ⊢;generalize ZV 32 ((Zi num::kind::(names++vals.map Zi)).take (k+names.length+2))=A at g3 hlk hlk1 ⊢;generalize Zi s=w at *;have hl3:A.length+1+w.length≤200:=by simp at hlk1;omega
     have l1:A.length+1≤9223372036854775807:=by omega
     have l2:(A++[32]).length+w.length≤9223372036854775807:=by simp;omega
     have e3:A++[32]++w=A++32::w:=by simp
     simp (maxDischargeDepth:=12) only [go_sem,reduceEqDiff,reduceAdd,reduceLeDiff,g1,hg,g3,g5,Y4,hk,hr,hT,l1,l2,e3,hw]
   · rintro T H M ⟨rfl,g1,hg,g3,g5⟩;have e6:(Zi num::kind::(names++vals.map Zi)).take (vals.length+names.length+2)=Zi num::kind::(names++vals.map Zi):=List.take_of_length_le (by simp;omega);rw [e6] at g3;simp (maxDischargeDepth:=12) only [go_sem,reduceEqDiff,reduceAdd,reduceLeDiff,reduceCtorEq,g1,hg,g3,g5,Y4,Nat.lt_irrefl]
noncomputable def p96:List AV→Option AV:=Zy (α:=(Ev)) (fun x=>[.agg x.row]) (fun x=>Pos.Zp Z7 x=0) (fun x=>.str (Pos.YP x))
theorem pok96:Pok p96 96:=by
 intro args v h;obtain ⟨x,rfl,hp,rfl⟩:=ZD h;exact c96 x hp
theorem pe96 (e:Ev) (hp:Pos.Zp Z7 e=0):p96 [.agg e.row]=some (.str (Pos.YP e)):=ZE (by intro x y h;(simp only [List.cons.injEq,AV.agg.injEq,Pos.Ev.row_inj,and_true] at h;first | simpa only [Prod.ext_iff] using h | simpa only [Prod.ext_iff,and_assoc] using h)) e hp
attribute [go_sem] pe96
theorem Ze8 {l:List Ev} {k:Nat} {e:Ev} (h:l[k]? = some e):Pos.Ya (l.take (k+1))=Pos.Ya (l.take k)++(Pos.Xy e++[10]):=by
 unfold Pos.Ya;rw [List.take_add_one,h,List.flatMap_append];simp
theorem Bc (l:List Ev):(l.map Pos.Ev.row).all (fun r=>decide (r.length=5))=true:=JF (f:=Pos.Ev.row) (sz:=5) (fun _=>rfl) l
theorem kHash:Ks #[35] [35]:=rfl
attribute [go_sem ↓ 3000] kHash
noncomputable def Bd:PF:=Zd 72 p72 (Zd 96 p96 (fun _=>none))
theorem Ze9:PrimsOk NC Bd:=Pa (Pa (ZA) pok96) MC
theorem Zea:En Bd 96 p96:=Ze (by rfl) (by kernel_rfl)
theorem Zeb:En Bd 72 p72:=Ze (by rfl) (by kernel_rfl)
attribute [go_sem ↓] Zea Zeb
theorem c35 (l:List Ev) (hp:(∀ e ∈ l,Pos.Zp Z7 e=0)∧l.length≤100000000):∀ lo H,Zc NC lo 35 [.ps .unk (l.map Pos.Ev.row)] H (.str (Pos.Ya l)) H:=by
 refine Cn Ze9 Tryz.func35 rfl rfl ?_;obtain ⟨hc,hl⟩:=hp;simp (maxDischargeDepth:=12) only [go_sem];refine ZK (fun k T H M=>M=[]∧Z2 T 0=.ps .unk (l.map Pos.Ev.row)∧Z2 T 3=.str (Pos.Ya (l.take k))∧(Pos.Ya (l.take k)).length≤300 * k∧Z2 T 4=i64 k) l.length ?_ ?_ ?_
 · simp (maxDischargeDepth:=12) only [go_sem,reduceMul,reduceCtorEq];exact ⟨rfl,Nat.le_refl _⟩
 · rintro k T H M hk ⟨rfl,g0,g3,hlen,g4⟩;obtain ⟨e,he⟩:∃ e,l[k]? = some e:=⟨l[k],by simp⟩;have hr:=Y1 (f:=Pos.Ev.row) he;have hce:=hc e (List.mem_of_getElem? he);obtain ⟨hpr,hbl⟩:=VX hce;have hB:=pe96 e hce;have hS:=pe72 (Pos.YP e) ⟨by unfold Z1;omega,hpr.small⟩;have hS7:(Pos.X7 (Pos.YP e)).length=7:=rfl;have hw:=ZP hk (by unfold Z1;omega);have hsr:List.map AV.strip0 e.row=e.row:=rfl;have hone:e.row.all AV.one=true:=rfl;have h5:e.row.length=5:=rfl;have e8:e.row.take 5=e.row:=rfl;have hu:∀ n,Yi n e.row=true:=fun n=>by unfold Pos.Ev.row;rfl
   rw [Ze8 he];unfold Pos.Xy;generalize Pos.Ya (l.take k)=A at g3 hlen ⊢;generalize Pos.X7 (Pos.YP e)=S at hS hS7 ⊢;generalize Pos.YP e=B at hB hS hbl ⊢;clear hpr;have l1:A.length+B.length≤9223372036854775807:=by omega
   have l2:(A++B).length+1≤9223372036854775807:=by simp;omega
   have l3:(A++B++[35]).length+S.length≤9223372036854775807:=by simp;omega
   have l4:(A++B++[35]++S).length+1≤9223372036854775807:=by simp;omega
   have e3:A++B++[35]++S++[10]=A++(B++35::S++[10]):=by simp
   simp (maxDischargeDepth:=12) only [go_sem,reduceEqDiff,reduceAdd,reduceSub,reduceCtorEq,g0,g3,g4,hk,hr,h5,e8,hu,hsr,hB,hS,l1,l2,l3,l4,e3,hw];simp;omega
 · rintro T H M ⟨rfl,g0,g3,hlen,g4⟩;rw [List.take_length] at g3;simp (maxDischargeDepth:=12) only [go_sem,reduceEqDiff,reduceCtorEq,g0,g3,g4,Nat.lt_irrefl]
noncomputable def p35:List AV→Option AV:=Zy (α:=(List Ev)) (fun x=>[.ps .unk (x.map Pos.Ev.row)]) (fun x=>(∀ e ∈ x,Pos.Zp Z7 e=0)∧x.length≤100000000) (fun x=>.str (Pos.Ya x))
theorem pok35:Pok p35 35:=by
 intro args v h;obtain ⟨x,rfl,hp,rfl⟩:=ZD h;exact c35 x hp
theorem pe35 (l:List Ev) (hp:(∀ e ∈ l,Pos.Zp Z7 e=0)∧l.length≤100000000):p35 [.ps .unk (l.map Pos.Ev.row)]=some (.str (Pos.Ya l)):=ZE (by intro x y h;(simp only [List.cons.injEq,AV.ps.injEq,Ms,true_and,and_true] at h;first | simpa only [Prod.ext_iff] using h | simpa only [Prod.ext_iff,and_assoc] using h)) l hp
attribute [go_sem] pe35
theorem Be {c:Nat}:∀ (s cur:List Nat),∀ w ∈ Xw c cur s,∀ y ∈ w,y ∈ cur∨y ∈ s
 | [],cur,w,h,y,hy=>by
   have:w=cur:=by simpa [Xw] using h
   subst this;exact .inl hy
 | d::r,cur,w,h,y,hy=>by
   rw [Kv] at h;split at h
   · rcases List.mem_cons.1 h with rfl | h
     · exact .inl hy
     · rcases Be r [] w h y hy with h | h
       · cases h
       · exact .inr (List.mem_cons_of_mem _ h)
   · rcases Be r _ w h y hy with h | h
     · rcases List.mem_append.1 h with h | h
       · exact .inl h
       · have:y=d:=by simpa using h
         exact .inr (by rw [this];simp)
     · exact .inr (List.mem_cons_of_mem _ h)
theorem MF {c:Nat} {s w:List Nat} (h:w ∈ Zu c s):∀ y ∈ w,y ∈ s:=fun y hy=>by
 rcases Be s [] w h y hy with h | h
 · cases h
 · exact h
def QW (ws:List Nm):Ev × Bool:=match Pos.Q4 0 ws with
 | some e=>(e,true)
 | none=>(Ka,false)
theorem Bf {w:Nm} {r:List Nm} (h:Pos.Q4 0 (w::r)=none):QW (w::r)=(Ka,false):=by
 unfold QW;rw [h]
theorem Bg (n:Int) (w:Nm) (r:List Nm):Pos.Q4 n (w::r)=if (YJ w).2.2=true then (if r.length=(YJ w).1.length+(YJ w).2.1.toNat∧(r.all fun x=>!x.isEmpty)=true∧((r.drop (YJ w).1.length).all fun x=>(Zo x).2)=true then some ⟨n,w,r.take (YJ w).1.length,(r.drop (YJ w).1.length).map fun x=>(Zo x).1,[]⟩ else none) else none:=by
 unfold Pos.Q4;simp only [];rw [Mq];by_cases h:(YJ w).2.2=true
 · rw [if_pos h,if_pos h]
 · rw [if_neg h,if_neg h]
theorem Zec (l:List Int):(Z3 l).all (fun r=>decide (r.length=1))=true:=JF (f:=fun w:Int=>[i64 w]) (sz:=1) (fun _=>rfl) l
theorem Zed (l:List Int) (w:Int):Z3 l++[[.int .i64 w]]=Z3 (l++[w]):=by simp [Z3]
theorem QX:AV.agg Ka.row=.agg [.int .i64 0,.str [],.ps .unk [],.ps .unk [],.str []]:=rfl
noncomputable def Fs:PF:=Zd 206 U9 (Zd 94 p94 (Zd 98 p98 (fun _=>none)))
theorem Zee:PrimsOk NC Fs:=Pa (Pa (Pa (ZA) MA) Mr) Mv
theorem Zef:En Fs 98 p98:=Ze (by rfl) (by kernel_rfl)
theorem Zeg:En Fs 94 p94:=Ze (by rfl) (by kernel_rfl)
theorem Zeh:En Fs 206 U9:=Ze (by rfl) (by kernel_rfl)
attribute [go_sem ↓] Zef Zeg Zeh
theorem c100 (s:Nm) (hp:s.length≤100000000 ∧ ∀ c ∈ s,c < 256):∀ lo H,Zc NC lo 100 [.str s] H (.tup [.agg (QW (Zu 32 s)).1.row,.bool (QW (Zu 32 s)).2]) H:=by
 refine Cn Zee Tryz.func100 rfl rfl ?_;obtain ⟨hl,hb⟩:=hp;have hS:p98 [.str s,.int .u8 32]=some (.ps .unk (Z0 (Zu 32 s))):=pe98 s 32 (by unfold Z1;omega);have hwl:∀ w ∈ Zu 32 s,w.length≤100000000:=fun w hw=>Nat.le_trans (Fc hw) hl
 have hwb:∀ w ∈ Zu 32 s,∀ c ∈ w,c < 256:=fun w hw c hc=>hb c (MF hw c hc)
 have hnz:=G8 32 s;have hle:=Fd 32 s;generalize Zu 32 s=ws at *
 match ws,hnz with
 | w::r,_ =>
 have hF:=pe94 w;unfold YK at hF;have hsm:=Mt w;have hpc:=Bg 0 w r;generalize hf:YJ w=f at hF hsm hpc;obtain ⟨ro,nv,kn⟩:=f;obtain ⟨h1,h2,h3⟩:=hsm;simp only at h1 h2 h3 hF hpc;obtain ⟨nv,rfl⟩:∃ m:Nat,nv=(m:Int):=⟨nv.toNat,by omega⟩;rw [Int.toNat_natCast] at hpc;have hat0:(Z0 (w::r))[0]? = some [.str w]:=rfl;have hpos:0 < r.length+1:=by omega
 have wA:Zk .i64 (Int.add 1 (ro.length:Int))=((1+ro.length:Nat):Int):=Ym (n:=1+ro.length) (by omega);have wB:Zk .i64 (Int.add ((1+ro.length:Nat):Int) (nv:Int))=((1+ro.length+nv:Nat):Int):=Ym (n:=1+ro.length+nv) (by omega);cases kn with
 | false =>
   rw [if_neg (by decide)] at hpc;rw [Bf hpc,QX];simp (maxDischargeDepth:=12) only [go_sem,reduceEqDiff,reduceAdd,reduceLeDiff,reduceCtorEq,hS,Zt,hpos,hat0,hF,wA,wB]
 | true =>
 rw [if_pos rfl] at hpc;by_cases hn:r.length=ro.length+nv
 case neg =>
  rw [if_neg (fun h=>hn h.1)] at hpc;rw [Bf hpc,QX];have q1:(((w::r).length:Int)=((1+ro.length+nv:Nat):Int))=False:=eq_false (by simp only [List.length_cons];omega);simp only [List.length_cons] at q1;simp (maxDischargeDepth:=12) only [go_sem,reduceEqDiff,reduceAdd,reduceLeDiff,reduceCtorEq,hS,Zt,hpos,hat0,hF,wA,wB,q1]
 have q1:(((r.length+1:Nat):Int)=((1+ro.length+nv:Nat):Int))=True:=eq_true (by omega);have bad:∀ {i:Nat} {u:Nm},r[i]? = some u→(u=[]∨(ro.length≤i∧(Zo u).2=false))→QW (w::r)=(Ka,false):=fun {i u} hu h=>by
  refine Bf (hpc.trans (if_neg fun hg => ?_));rcases h with h | ⟨h,h'⟩
  · have:=List.all_eq_true.1 hg.2.1 u (List.mem_of_getElem? hu);rw [h] at this;cases this
  · have:u ∈ r.drop ro.length:=List.mem_of_getElem? (i:=i - ro.length) (by rw [List.getElem?_drop];rw [Nat.add_sub_cancel' h];exact hu);have:=List.all_eq_true.1 hg.2.2 u this;rw [h'] at this;cases this
 simp (maxDischargeDepth:=12) only [go_sem,reduceEqDiff,reduceAdd,reduceLeDiff,reduceCtorEq,hS,Zt,hpos,hat0,hF,wA,wB,q1];clear hS hF hat0 hpos wA wB q1;refine ZK (fun k T H M=>M=[]∧Z2 T 4=.ps .unk (Z0 (w::r))∧Z2 T 2=.ptr 0 0∧Z2 T 5=.ptr 1 0∧Z2 T 7=.ptr 2 0∧Z2 T 6=.int .i64 ((1+ro.length+nv:Nat):Int)∧Z2 T 8=.int .i64 ((k+1:Nat):Int)∧3≤H.n∧(∃ c,H.get 0=.cells c 53∧c.length=5)∧H.get 1=.cells [.str ro,.int .i64 (nv:Int),.bool true] 199 ∧
  (∀ i,i < k → ∀ u,r[i]? = some u→u ≠ []∧(ro.length≤i→(Zo u).2=true)) ∧ ∃ t1 t2,H.get 2=.cells [.int .i64 0,.str w,.ps t1 (Z0 (r.take (min k ro.length))),.ps t2 (Z3 (((r.take k).drop ro.length).map fun u=>(Zo u).1)),.str []] 53∧(k≤ro.length→t2=.nil∧Zj 3 H t1 (Z0 (r.take (min k ro.length))) 1 9)∧(ro.length≤k→Zj 3 H t2 (Z3 (((r.take k).drop ro.length).map fun u=>(Zo u).1)) 1 3)) (ro.length+nv) ?_ ?_ ?_
 · simp (maxDischargeDepth:=12) only [go_sem,reduceEqDiff,reduceAdd,reduceCtorEq];refine ⟨by first | rfl | omega,⟨_,rfl,rfl⟩,fun i hi=>by omega,.nil,.nil,by simp [Z0,Z3],fun _=>⟨rfl,.inl ⟨rfl,by simp [Z0]⟩⟩,fun _=>.inl ⟨rfl,by simp [Z3]⟩⟩
 · rintro k T H M hk ⟨rfl,g4,g2,g5,g7,g6,g8,h3n,⟨c0,hc0,hc05⟩,hg1,hG,t1,t2,hg2,hA1,hA2⟩;obtain ⟨u,hu⟩:∃ u,r[k]? = some u:=⟨r[k]'(by omega),by simp⟩;have hr:(Z0 (w::r))[k+1]? = some [.str u]:=K8 (l:=w::r) (i:=k+1) hu;have hkr:k+1 < r.length+1:=by omega
   have hlt:(((k+1:Nat):Int) < ((1+ro.length+nv:Nat):Int))=True:=eq_true (by omega);have hw:=ZP (k:=k+1) (n:=Z1) (by have:=hl;unfold Z1;omega) (Nat.le_refl _);by_cases hue:u=[]
   · have b1:=Xl hue;rw [bad hu (.inl hue),QX];simp (maxDischargeDepth:=12) only [go_sem,reduceEqDiff,reduceAdd,reduceLeDiff,reduceCtorEq,g4,g2,g6,g8,Zt,hlt,hkr,hr,b1,hc0,hc05]
   have b1:=Xm hue;by_cases hka:k < ro.length
   · have q2:(((k+1:Nat):Int)≤(ro.length:Int))=True:=eq_true (by omega);have q3:((ro.length:Int) < ((k+1:Nat):Int))=False:=eq_false (by omega);obtain ⟨rfl,hA⟩:=hA1 (by omega);have hm:min k ro.length=k:=by omega
     have hm1:min (k+1) ro.length=k+1:=by omega
     rw [hm] at hA hg2;obtain ⟨t',H1,ha,hB,hn1,hO1,hC1⟩:=YR (lo:=0) hA h3n (Nat.zero_le _) (r:=[.str u]) (by rw [Zt,List.length_take];unfold Z1;omega) rfl (by decide) (Ba _);have hmap:Z0 (r.take k)++[[AV.str u].map AV.strip0]=Z0 (r.take (k+1)):=by rw [List.take_add_one,hu];exact B9 _ _
     rw [hmap] at ha hB;have hg2':=hC1 2 _ _ (by omega) hg2;have hg1':=hC1 1 _ _ (by omega) hg1;have hg0':=hC1 0 _ _ (by omega) hc0;have hd0:(r.take k).drop ro.length=[]:=List.drop_eq_nil_of_le (by rw [List.length_take];omega);have hd1:(r.take (k+1)).drop ro.length=[]:=List.drop_eq_nil_of_le (by rw [List.length_take];omega);rw [hm1];rw [hd0] at hg2';simp (maxDischargeDepth:=12) only [go_sem,reduceEqDiff,reduceAdd,reduceMul,reduceSub,reduceLeDiff,reduceCtorEq,g4,g2,g5,g7,g6,g8,Zt,hlt,hkr,hr,b1,hg1,hg2,q2,q3,ZT,ha,hg2',hw];refine ⟨by omega,⟨c0,hg0',hc05⟩,hg1',fun i hi v hv => ?_,t',.nil,by rw [hd1];rfl,fun _=>⟨rfl,hB.set _ (by rw [hg2'];intro h;cases h)⟩,fun _=>.inl ⟨rfl,by rw [hd1];rfl⟩⟩;by_cases e:i=k
     · subst e;rw [hu] at hv;cases hv;exact ⟨hue,fun h=>by omega⟩
     · exact hG i (by omega) v hv
   · have q2:(((k+1:Nat):Int)≤(ro.length:Int))=False:=eq_false (by omega);have q3:((ro.length:Int) < ((k+1:Nat):Int))=True:=eq_true (by omega);have hmem:u ∈ w::r:=List.mem_cons_of_mem _ (List.mem_of_getElem? hu);have hI:=B7 u ⟨Nat.le_trans (hwl u hmem) (by unfold Z1;decide),hwb u hmem⟩;cases hib:(Zo u).2 with
     | false =>
       rw [bad hu (.inr ⟨by omega,hib⟩),QX];rw [hib] at hI;simp (maxDischargeDepth:=12) only [go_sem,reduceEqDiff,reduceAdd,reduceLeDiff,reduceCtorEq,g4,g2,g5,g6,g8,Zt,hlt,hkr,hr,b1,hg1,q2,q3,hI,hc0,hc05]
     | true =>
       rw [hib] at hI;have hA:=hA2 (by omega);have hm:min k ro.length=ro.length:=by omega
       have hm1:min (k+1) ro.length=ro.length:=by omega
       rw [hm] at hg2;obtain ⟨t',H1,ha,hB,hn1,hO1,hC1⟩:=YR (lo:=0) hA h3n (Nat.zero_le _) (r:=[.int .i64 (Zo u).1]) (by rw [Y4,List.length_map,List.length_drop,List.length_take];unfold Z1;omega) rfl (by decide) (Zec _);have hdd:(r.take (k+1)).drop ro.length=(r.take k).drop ro.length++[u]:=by
        rw [List.take_add_one,hu,List.drop_append_of_le_length (by rw [List.length_take];omega)];rfl
       have hmap:Z3 (((r.take k).drop ro.length).map fun u=>(Zo u).1)++[[AV.int .i64 (Zo u).1].map AV.strip0]=Z3 (((r.take (k+1)).drop ro.length).map fun u=>(Zo u).1):=by rw [hdd,List.map_append];exact Zed _ _
       rw [hmap] at ha hB;have hg2':=hC1 2 _ _ (by omega) hg2;have hg1':=hC1 1 _ _ (by omega) hg1;have hg0':=hC1 0 _ _ (by omega) hc0;rw [hm1];generalize Z3 (((r.take (k+1)).drop ro.length).map fun u=>(Zo u).1)=V' at ha hB ⊢;generalize Z3 (((r.take k).drop ro.length).map fun u=>(Zo u).1)=V at ha hg2 hg2';generalize (Zo u).1=iu at hI ha;simp (maxDischargeDepth:=12) only [go_sem,reduceEqDiff,reduceAdd,reduceMul,reduceLeDiff,g4,g2,g5,g7,g6,g8,Zt,hlt,hkr,hr,b1,hg1,hg2,q2,q3,hI,ZT,ha,hg2',hw];refine ⟨by omega,⟨c0,hg0',hc05⟩,hg1',fun i hi v hv => ?_,t1,t',by rfl,fun h=>by omega,fun _=>hB.set _ (by rw [hg2'];intro h;cases h)⟩;by_cases e:i=k
       · subst e;rw [hu] at hv;cases hv;exact ⟨hue,fun _=>hib⟩
       · exact hG i (by omega) v hv
 · rintro T H M ⟨rfl,g4,g2,g5,g7,g6,g8,h3n,⟨c0,hc0,hc05⟩,hg1,hG,t1,t2,hg2,hA1,hA2⟩;have hlt:(((ro.length+nv+1:Nat):Int) < ((1+ro.length+nv:Nat):Int))=False:=eq_false (by omega);have hq:QW (w::r)=(⟨0,w,r.take ro.length,(r.drop ro.length).map fun u=>(Zo u).1,[]⟩,true):=by
    unfold QW;rw [hpc,if_pos];refine ⟨hn, ?_, ?_⟩
    · rw [List.all_eq_true];intro u hu;obtain ⟨i,hi⟩:=List.mem_iff_getElem?.1 hu;have:=(hG i (by have:=(List.getElem?_eq_some_iff.1 hi).1;omega) u hi).1;cases u with
      | nil=>exact absurd rfl this
      | cons a b=>rfl
    · rw [List.all_eq_true];intro u hu;obtain ⟨i,hi⟩:=List.mem_iff_getElem?.1 hu;rw [List.getElem?_drop] at hi;exact (hG (ro.length+i) (by have:=(List.getElem?_eq_some_iff.1 hi).1;omega) u hi).2 (by omega)
   have hm:min (ro.length+nv) ro.length=ro.length:=Nat.min_eq_right (Nat.le_add_right _ _);have ht:r.take (ro.length+nv)=r:=List.take_of_length_le (by omega);rw [hm,ht] at hg2;rw [hq];simp only [Pos.Ev.row];simp (maxDischargeDepth:=12) only [go_sem,reduceEqDiff,reduceAdd,reduceLeDiff,reduceCtorEq,g2,g7,g6,g8,hlt,hg2,hc0,hc05]
noncomputable def Ub:List AV→Option AV:=Zy (α:=(Nm)) (fun x=>[.str x]) (fun x=>x.length≤100000000 ∧ ∀ c ∈ x,c < 256) (fun x=>.tup [.agg (QW (Zu 32 x)).1.row,.bool (QW (Zu 32 x)).2])
theorem Zei:Pok Ub 100:=by
 intro args v h;obtain ⟨x,rfl,hp,rfl⟩:=ZD h;exact c100 x hp
theorem MG (s:Nm) (hp:s.length≤100000000 ∧ ∀ c ∈ s,c < 256):Ub [.str s]=some (.tup [.agg (QW (Zu 32 s)).1.row,.bool (QW (Zu 32 s)).2]):=ZE (by intro x y h;(simp only [List.cons.injEq,AV.str.injEq,and_true] at h;first | simpa only [Prod.ext_iff] using h | simpa only [Prod.ext_iff,and_assoc] using h)) s hp
attribute [go_sem] MG
def Qa (s:Nm):Ev × Int:=match Pos.YQ s with
 | (some e,_)=>(e,0)
 | (none,c)=>(Ka,c)
theorem KP {s:Nm} {c:Int} (h:Pos.YQ s=(none,c)):Qa s=(Ka,c):=by unfold Qa;rw [h]
theorem Zej {c:Nat} {s w:List Nat} {r:List (List Nat)} (h:Zu c s=w::r) (hr:r ≠ []):s[w.length]? = some c∧s.take w.length=w∧Zu c (s.drop (w.length+1))=r:=by
 rcases VM c s with ⟨_,h2⟩ | ⟨m,h1,h2,h3,h4⟩
 · rw [GQ h2] at h;exact absurd (List.cons.inj h).2.symm hr
 · rw [GR h3 h4] at h;obtain ⟨e1,e2⟩:=List.cons.inj h;have hm:m < s.length:=(List.getElem?_eq_some_iff.1 h3).1;have hw:w.length=m:=by rw [← e1,List.length_take];omega
   rw [hw];exact ⟨h3,e1,e2⟩
theorem Zek (n:Int) (ws:List Nm):Pos.Q4 n ws=(Pos.Q4 0 ws).map fun e=>{ e with num:=n }:=by
 cases ws with
 | nil=>rfl
 | cons w r =>
   rw [Bg,Bg];split
   · split<;>rfl
   · rfl
theorem i8 {n:Nat} (h:n≤1000000000):Zk .i64 (Int.sub (n:Int) 8)=(n:Int) - 8:=Qx (by show _≤(n:Int) - 8;omega) (by show (n:Int) - 8≤_;omega)
noncomputable def Vp:PF:=Zd 34 p34 (Zd 100 Ub (Zd 206 U9 (Zd 98 p98 (Zd 72 p72 (Zd 205 p205 (fun _=>none))))))
theorem Zel:PrimsOk NC Vp:=ZX (ZX (ZX (Pa (Pa (Pa (ZA) ZdR) MC) MA) (by kernel_rfl) (by kernel_rfl) Mv) (by kernel_rfl) (by kernel_rfl) Zei) (by kernel_rfl) (by kernel_rfl) Mu
theorem Zem:En Vp 205 p205:=Ze (by rfl) (by kernel_rfl)
theorem Zen:En Vp 72 p72:=Ze (by rfl) (by kernel_rfl)
theorem Zeo:En Vp 98 p98:=Ze (by rfl) (by kernel_rfl)
theorem Zep:En Vp 206 U9:=Ze (by rfl) (by kernel_rfl)
theorem Zeq:En Vp 100 Ub:=Ze (by rfl) (by kernel_rfl)
theorem Zer:En Vp 34 p34:=Ze (by rfl) (by kernel_rfl)
attribute [go_sem ↓] Zem Zen Zeo Zep Zeq Zer
theorem c92 (s:Nm) (hp:s.length≤1000000 ∧ ∀ c ∈ s,c < 256):∀ lo H,Zc NC lo 92 [.str s] H (.tup [.agg (Qa s).1.row,i64 (Qa s).2]) H:=by
 refine Cn Zel Tryz.func92 rfl rfl ?_;obtain ⟨hl,hb⟩:=hp;have w8:=i8 (n:=s.length) (by omega);by_cases h8:s.length < 8
 · have q1:((s.length:Int) - 8 < 0)=True:=eq_true (by omega);have hq:Qa s=(Ka,25):=KP (by unfold Pos.YQ;rw [if_pos h8]);rw [hq,QX];simp (maxDischargeDepth:=12) only [go_sem,reduceEqDiff,reduceAdd,reduceCtorEq,w8,q1]
 have e8:(s.length:Int) - 8=((s.length - 8:Nat):Int):=by omega
 rw [e8] at w8;have q1:(((s.length - 8:Nat):Int) < 0)=False:=eq_false (by omega);have hread:Pos.YQ s=match s.drop (s.length - 8) with
  | []=>(none,25)
  | c::d=>if c=35∧Yc d=true then (if d=Pos.X7 (s.take (s.length - 8)) then (match Pos.Va (Zu 32 (s.take (s.length - 8))) with
    | some e=>if Pos.Zp Z7 e=0 then (some e,0) else (none,25)
    | none=>(none,25)) else (none,27)) else (none,25):=by unfold Pos.YQ;rw [if_neg h8];rfl
 obtain ⟨c,hc⟩:∃ c,s[s.length - 8]? = some c:=⟨s[s.length - 8],by simp⟩;have hcd:=K9 hc;rw [hcd] at hread;simp only at hread;have hlt:s.length - 8 < s.length:=by omega
 have hw9:Zk .i64 (Int.add ((s.length - 8:Nat):Int) 1)=((s.length - 8+1:Nat):Int):=Ym (n:=s.length - 8+1) (by omega);have sl1:=Vf (s:=s) (i:=s.length - 8+1) (by omega);have sl2:=F4 (s:=s) (i:=s.length - 8) (by omega);have hdl:(s.drop (s.length - 8+1)).length=7:=by rw [List.length_drop];omega
 have hD:=Mw (s.drop (s.length - 8+1)) (by rw [hdl];unfold Z1;decide);rw [hdl] at hD;have hbt:∀ c ∈ s.take (s.length - 8),c < 256:=fun c h=>hb c (List.mem_of_mem_take h)
 have hlt8:(s.take (s.length - 8)).length≤1000000:=by rw [List.length_take];omega
 generalize hat:s.length - 8=at' at *;generalize hdd:s.drop (at'+1)=d at *;by_cases h35:c=35
 case neg =>
  have q2:((c:Int)=35)=False:=eq_false (by omega);rw [if_neg (fun h=>h35 h.1)] at hread;rw [KP hread,QX];simp (maxDischargeDepth:=12) only [go_sem,reduceEqDiff,reduceAdd,reduceCtorEq,w8,q1,hlt,hc,q2]
 have q2:((c:Int)=35)=True:=eq_true (by omega);cases hdg:Yc d with
 | false =>
   rw [hdg] at hD hread;rw [if_neg (fun h=>by cases h.2)] at hread;rw [KP hread,QX];simp (maxDischargeDepth:=12) only [go_sem,reduceEqDiff,reduceAdd,reduceCtorEq,w8,q1,hlt,hc,q2,hw9,sl1,hD]
 | true =>
 rw [hdg] at hD hread;rw [if_pos ⟨h35,rfl⟩] at hread;have hS:=pe72 (s.take at') ⟨by unfold Z1;omega,hbt⟩;generalize hbody:s.take at'=b at *;by_cases hsum:d=Pos.X7 b
 case neg =>
  rw [if_neg hsum] at hread;have b1:=Xm hsum;rw [KP hread,QX];generalize Pos.X7 b=S at hS b1;simp (maxDischargeDepth:=12) only [go_sem,reduceEqDiff,reduceAdd,reduceSub,reduceCtorEq,w8,q1,hlt,hc,q2,hw9,sl1,sl2,hD,hS,b1]
 rw [if_pos hsum] at hread;have b1:=Xl hsum;generalize Pos.X7 b=S at hS b1;clear hsum hdg;have hSp:p98 [.str b,.int .u8 32]=some (.ps .unk (Z0 (Zu 32 b))):=pe98 b 32 (by unfold Z1;omega);have hwl:∀ w ∈ Zu 32 b,w.length≤1000000:=fun w hw=>Nat.le_trans (Fc hw) hlt8
 have hwb:∀ w ∈ Zu 32 b,∀ c ∈ w,c < 256:=fun w hw c hc=>hbt c (MF hw c hc)
 have hnz:=G8 32 b;have hhd:=fun w r=>Zej (c:=32) (s:=b) (w:=w) (r:=r)
 generalize Zu 32 b=ws at *
 match ws,hnz with
 | w::r,_ =>
 have hI:=B7 w ⟨Nat.le_trans (hwl w (by simp)) (by unfold Z1;decide),hwb w (by simp)⟩;have hat0:(Z0 (w::r))[0]? = some [.str w]:=rfl;have hpos:0 < r.length+1:=by omega
 rw [Lp] at hread;cases hi:(Zo w).2 with
 | false =>
   rw [hi] at hI hread;rw [if_neg (by decide)] at hread;rw [KP hread,QX];simp (maxDischargeDepth:=12) only [go_sem,reduceEqDiff,reduceAdd,reduceSub,reduceCtorEq,w8,q1,hlt,hc,q2,hw9,sl1,sl2,hD,hS,b1,hSp,Zt,hpos,hat0,hI]
 | true =>
 rw [hi] at hI hread;rw [if_pos rfl] at hread;by_cases hr:r=[]
 · subst hr;have hread:Pos.YQ s=(none,25):=hread;rw [KP hread,QX];have q3:(((1:Nat):Int) < 2)=True:=eq_true (by decide);simp (maxDischargeDepth:=12) only [go_sem,reduceEqDiff,reduceAdd,reduceSub,reduceCtorEq,w8,q1,hlt,hc,q2,hw9,sl1,sl2,hD,hS,b1,hSp,Zt,hat0,hI,q3]
 obtain ⟨g1,g2,g3⟩:=hhd w r rfl hr;have hwlt:w.length < b.length:=(List.getElem?_eq_some_iff.1 g1).1;have q3:(((r.length+1:Nat):Int) < 2)=False:=eq_false (by have:=List.length_pos_iff.2 hr;omega);have hw10:Zk .i64 (Int.add (w.length:Int) 1)=((w.length+1:Nat):Int):=Ym (n:=w.length+1) (by omega);have sl3:=Vf (s:=b) (i:=w.length+1) (by omega);have hP:=MG (b.drop (w.length+1)) ⟨by rw [List.length_drop];omega,fun c h=>hbt c (List.mem_of_mem_drop h)⟩;rw [g3] at hP;rw [Zek] at hread;unfold QW at hP;have hone:∀ e:Ev,e.row.all AV.one=true:=fun e=>rfl
 cases hpc:Pos.Q4 0 r with
 | none =>
   rw [hpc] at hP hread;have hread:Pos.YQ s=(none,25):=hread;rw [KP hread,QX];have hP:Ub [.str (b.drop (w.length+1))]=some (.tup [.agg [.int .i64 0,.str [],.ps .unk [],.ps .unk [],.str []],.bool false]):=hP;simp (maxDischargeDepth:=12) only [go_sem,reduceEqDiff,reduceAdd,reduceSub,reduceLeDiff,reduceCtorEq,w8,q1,hlt,hc,q2,hw9,sl1,sl2,hD,hS,b1,hSp,Zt,hpos,hat0,hI,q3,hw10,sl3,hP]
 | some e =>
   rw [hpc] at hP hread;have hC:=pe34 { e with num:=(Zo w).1 }
   obtain ⟨num,kind,names,vals,text⟩:=e;have hP:Ub [.str (b.drop (w.length+1))]=some (.tup [.agg [.int .i64 num,.str kind,.ps .unk (Z0 names),.ps .unk (Z3 vals),.str text],.bool true]):=hP;have hC:p34 [.agg [.int .i64 (Zo w).1,.str kind,.ps .unk (Z0 names),.ps .unk (Z3 vals),.str text]]=some (.int .i64 (Pos.Zp Z7 ⟨(Zo w).1,kind,names,vals,text⟩)):=hC;have hread:Pos.YQ s=if Pos.Zp Z7 ⟨(Zo w).1,kind,names,vals,text⟩=0 then (some ⟨(Zo w).1,kind,names,vals,text⟩,0) else (none,25):=hread
   generalize (Zo w).1=num' at *;rcases Classical.propComplete (Pos.Zp Z7 ⟨num',kind,names,vals,text⟩=0) with q4 | q4
   · rw [if_pos (of_eq_true q4)] at hread;have hq:Qa s=(⟨num',kind,names,vals,text⟩,0):=by unfold Qa;rw [hread]
     rw [hq];simp only [Pos.Ev.row];generalize Pos.Zp Z7 ⟨num',kind,names,vals,text⟩=ck at hC q4;simp (maxDischargeDepth:=12) only [go_sem,reduceEqDiff,reduceAdd,reduceSub,reduceLeDiff,reduceCtorEq,w8,q1,hlt,hc,q2,hw9,sl1,sl2,hD,hS,b1,hSp,Zt,hpos,hat0,hI,q3,hw10,sl3,hP,hC,q4]
   · rw [if_neg (of_eq_false q4)] at hread;rw [KP hread,QX];generalize Pos.Zp Z7 ⟨num',kind,names,vals,text⟩=ck at hC q4;simp (maxDischargeDepth:=12) only [go_sem,reduceEqDiff,reduceAdd,reduceSub,reduceLeDiff,reduceCtorEq,w8,q1,hlt,hc,q2,hw9,sl1,sl2,hD,hS,b1,hSp,Zt,hpos,hat0,hI,q3,hw10,sl3,hP,hC,q4]
noncomputable def p92:List AV→Option AV:=Zy (α:=(Nm)) (fun x=>[.str x]) (fun x=>x.length≤1000000 ∧ ∀ c ∈ x,c < 256) (fun x=>.tup [.agg (Qa x).1.row,i64 (Qa x).2])
theorem pok92:Pok p92 92:=by
 intro args v h;obtain ⟨x,rfl,hp,rfl⟩:=ZD h;exact c92 x hp
theorem pe92 (s:Nm) (hp:s.length≤1000000 ∧ ∀ c ∈ s,c < 256):p92 [.str s]=some (.tup [.agg (Qa s).1.row,.int .i64 (Qa s).2]):=ZE (by intro x y h;(simp only [List.cons.injEq,AV.str.injEq,and_true] at h;first | simpa only [Prod.ext_iff] using h | simpa only [Prod.ext_iff,and_assoc] using h)) s hp
attribute [go_sem] pe92
theorem Zes (s:Nm):Pos.YQ s=(if (Qa s).2=0 then some (Qa s).1 else none,(Qa s).2):=by
 unfold Qa;cases hr:Pos.YQ s with
 | mk o c=>cases o with
   | none =>
     rcases Ls hr with rfl | rfl<;>rfl
   | some e =>
     have:c=0:=by
      unfold Pos.YQ at hr;split at hr
      · cases hr
      split at hr
      · cases hr
      split at hr
      · split at hr
        · split at hr
          · split at hr
            · exact (Prod.mk.inj hr).2.symm
            · cases hr
          · cases hr
        · cases hr
      · cases hr
     subst this;rfl
theorem Zet (s:Nm) (a m:Nat):(s.take (a+m)).drop a=(s.drop a).take m:=by
 rw [List.drop_take,Nat.add_sub_cancel_left]
noncomputable def MH:PF:=Zd 92 p92 (fun _=>none)
theorem Zeu:PrimsOk NC MH:=Pa (ZA) pok92
theorem Zev:En MH 92 p92:=Ze (by rfl) (by kernel_rfl)
attribute [go_sem ↓] Zev
theorem c33 (s:Nm) (hp:s.length≤100000000 ∧ ∀ c ∈ s,c < 256):∀ lo H,Zc NC lo 33 [.str s] H (.tup [.ps .unk ((Pos.ZU s).1.map Pos.Ev.row),i64 (((Pos.ZU s).2.1:Nat):Int),i64 (Pos.ZU s).2.2]) H:=by
 refine Cn Zeu Tryz.func33 rfl rfl ?_;obtain ⟨hl,hb⟩:=hp;by_cases hbig:1000000 < s.length
 · have q1:((1000000:Int) < (s.length:Int))=True:=eq_true (by omega);have hR:Pos.ZU s=([],0,26):=by unfold Pos.ZU;rw [if_pos hbig]
   rw [hR];simp (maxDischargeDepth:=12) only [go_sem,reduceEqDiff,reduceCtorEq,q1];try rfl
 have q1:((1000000:Int) < (s.length:Int))=False:=eq_false (by omega);have hR:Pos.ZU s=XJ s [] 0:=by unfold Pos.ZU XJ;rw [if_neg hbig];rfl
 rw [hR];simp (maxDischargeDepth:=12) only [go_sem,reduceEqDiff,reduceCtorEq,q1];refine ZK (fun k T H M=>M=[]∧Z2 T 0=.str s∧Z2 T 7=.int .i64 (k:Int) ∧ ∃ (out:List Ev) (pos:Nat) (t:Tok),pos≤k∧out.length≤pos∧Z2 T 6=.int .i64 (pos:Int)∧Z2 T 5=.ps t (out.map Pos.Ev.row)∧Zj 0 H t (out.map Pos.Ev.row) 5 53∧10 ∉ (s.drop pos).take (k - pos)∧XJ s [] 0=XJ s out pos) s.length ?_ ?_ ?_
 · simp (maxDischargeDepth:=12) only [go_sem,reduceEqDiff,reduceCtorEq];exact ⟨[],0,.nil,Nat.le_refl _,Nat.le_refl _,rfl,rfl,.inl ⟨rfl,rfl⟩,by simp,rfl⟩
 · rintro k T H M hk ⟨rfl,g0,g7,out,pos,t,hpk,hol,g6,g5,hA,hno,hrec⟩;obtain ⟨c,hc⟩:∃ c,s[k]? = some c:=⟨s[k],by simp⟩;have hw:=ZP hk (by unfold Z1;omega);have hat:(s.drop pos)[k - pos]? = some c:=by rw [List.getElem?_drop,Nat.add_sub_cancel' hpk];exact hc
   by_cases h10:c=10
   case neg =>
    have q2:((c:Int)=10)=False:=eq_false (by omega);simp (maxDischargeDepth:=12) only [go_sem,reduceEqDiff,reduceCtorEq,g0,g7,g5,g6,hk,hc,q2,hw];refine ⟨out,pos,t,by omega,hol,rfl,rfl,hA, ?_,hrec⟩;have e:k+1 - pos=k - pos+1:=by omega
    rw [e,List.take_add_one,hat];intro h;rcases List.mem_append.1 h with h | h
    · exact hno h
    · have:(10:Nat)=c:=by simpa using h
      exact h10 this.symm
   have q2:((c:Int)=10)=True:=eq_true (by omega);rw [h10] at hat;have hline:=AC (s:=s) (out:=out) hat hno;have sl:Ys NC.P 9 (.str s) (some (.int .i64 (pos:Int))) (some (.int .i64 (k:Int))) none=some (.str ((s.drop pos).take (k - pos))):=by
    rw [Af hpk (by omega)];have:=Zet s pos (k - pos);rw [Nat.add_sub_cancel' hpk] at this;rw [this]
   have hlm:((s.drop pos).take (k - pos)).length≤1000000:=by rw [List.length_take,List.length_drop];omega
   have hbm:∀ c ∈ (s.drop pos).take (k - pos),c < 256:=fun c h=>hb c (List.mem_of_mem_drop (List.mem_of_mem_take h))
   have hQ:=pe92 ((s.drop pos).take (k - pos)) ⟨hlm,hbm⟩;rw [Zes] at hline;generalize (s.drop pos).take (k - pos)=ln at *;have hw2:Zk .i64 (Int.add (out.length:Int) 1)=((out.length+1:Nat):Int):=Ym (n:=out.length+1) (by omega);have hone:∀ e:Ev,e.row.all AV.one=true:=fun e=>rfl
   have hsr:∀ e:Ev,List.map AV.strip0 e.row=e.row:=fun e=>rfl
   generalize Qa ln=q at hQ hline;obtain ⟨e,bad⟩:=q;simp only at hQ hline;rcases Classical.propComplete (bad=0) with hz | hz
   case inr =>
    have hne:=of_eq_false hz;rw [if_neg hne] at hline;have hline:XJ s out pos=(out,pos,bad):=hline;rw [hrec,hline];obtain ⟨num,kind,names,vals,text⟩:=e;simp only [Pos.Ev.row] at hQ;simp (maxDischargeDepth:=12) only [go_sem,reduceEqDiff,reduceAdd,reduceCtorEq,g0,g7,g5,g6,hk,hc,q2,sl,hQ,hz]
   have hz0:=of_eq_true hz;subst hz0;have hline:XJ s out pos=if e.num=(out.length:Int)+1 then XJ s (out++[e]) (pos+(k - pos+1)) else (out,pos,11):=hline
   by_cases hnum:e.num=(out.length:Int)+1
   case neg =>
    rw [if_neg hnum] at hline;rw [hrec,hline];have q3:(e.num=((out.length+1:Nat):Int))=False:=eq_false (by omega);have q110:((11:Int)=0)=False:=eq_false (by decide);obtain ⟨num,kind,names,vals,text⟩:=e;simp only at q3;simp only [Pos.Ev.row] at hQ;simp (maxDischargeDepth:=12) only [go_sem,reduceEqDiff,reduceAdd,reduceLeDiff,reduceCtorEq,g0,g7,g5,g6,hk,hc,q2,sl,hQ,List.length_map,hw2,q3,q110]
   rw [if_pos hnum] at hline;have q3:(e.num=((out.length+1:Nat):Int))=True:=eq_true (by omega);obtain ⟨t',H1,ha,hB,hn1,hO1,hC1⟩:=YR (lo:=0) (hA.new (.cells [.int .i64 0,.str [],.ps .nil [],.ps .nil [],.str []] 53) (.cells e.row 53)) (Nat.zero_le _) (Nat.zero_le _) (r:=e.row) (by rw [List.length_map];unfold Z1;omega) rfl (by decide) (Bc _);rw [hsr] at ha hB;have hmap:out.map Pos.Ev.row++[e.row]=(out++[e]).map Pos.Ev.row:=by simp
   rw [hmap] at ha hB;have e1:pos+(k - pos+1)=k+1:=by omega
   rw [e1] at hline;generalize hM:(out++[e]).map Pos.Ev.row=R' at ha hB;obtain ⟨num,kind,names,vals,text⟩:=e;simp only at q3;simp only [Pos.Ev.row] at hQ ha hB;have hg:=hC1 H.n _ _ (by simp) (by rw [Heap.get_set,if_pos rfl]);simp only [Pos.Ev.row] at hg;simp (maxDischargeDepth:=12) only [go_sem,reduceEqDiff,reduceAdd,reduceMul,reduceLeDiff,reduceCtorEq,g0,g7,g5,g6,hk,hc,q2,sl,hQ,List.length_map,hw2,q3,ZT,ha,hw];exact ⟨out++[⟨num,kind,names,vals,text⟩],k+1,t',Nat.le_refl _,by simp;omega,rfl,by rw [hM],by rw [hM];exact hB,by simp,hrec.trans hline⟩
 · rintro T H M ⟨rfl,g0,g7,out,pos,t,hpk,hol,g6,g5,hA,hno,hrec⟩;rw [hrec];by_cases hend:pos=s.length
   · have q2:((pos:Int) < (s.length:Int))=False:=eq_false (by omega);rw [Lt hend];simp (maxDischargeDepth:=12) only [go_sem,reduceEqDiff,reduceCtorEq,g0,g7,g5,g6,Nat.lt_irrefl,q2]
   · have q2:((pos:Int) < (s.length:Int))=True:=eq_true (by omega);have ht:(s.drop pos).take (s.length - pos)=s.drop pos:=List.take_of_length_le (by rw [List.length_drop];omega);rw [ht] at hno;rw [Lu (by omega) hno];simp (maxDischargeDepth:=12) only [go_sem,reduceEqDiff,reduceCtorEq,g0,g7,g5,g6,Nat.lt_irrefl,q2]
noncomputable def p33:List AV→Option AV:=Zy (α:=(Nm)) (fun x=>[.str x]) (fun x=>x.length≤100000000 ∧ ∀ c ∈ x,c < 256) (fun x=>.tup [.ps .unk ((Pos.ZU x).1.map Pos.Ev.row),i64 (((Pos.ZU x).2.1:Nat):Int),i64 (Pos.ZU x).2.2])
theorem pok33:Pok p33 33:=by
 intro args v h;obtain ⟨x,rfl,hp,rfl⟩:=ZD h;exact c33 x hp
theorem pe33 (s:Nm) (hp:s.length≤100000000 ∧ ∀ c ∈ s,c < 256):p33 [.str s]=some (.tup [.ps .unk ((Pos.ZU s).1.map Pos.Ev.row),.int .i64 (((Pos.ZU s).2.1:Nat):Int),.int .i64 (Pos.ZU s).2.2]):=ZE (by intro x y h;(simp only [List.cons.injEq,AV.str.injEq,and_true] at h;first | simpa only [Prod.ext_iff] using h | simpa only [Prod.ext_iff,and_assoc] using h)) s hp
attribute [go_sem] pe33
end Go.Sim

namespace Go.Sim.Pos
open Go.Sim
theorem MI (e:Ev) (l:List Ev):Ya (e::l)=Xy e++10::Ya l:=by
 unfold Ya;rw [List.flatMap_cons];simp
end Go.Sim.Pos

namespace Go.Sim.Pos
open Go.Sim
theorem Zew {l:List Wd} (h:(l.all fun x=>(Zo x).2)=true):(l.map fun x=>(Zo x).1).map Zi=l:=by
 induction l with
 | nil=>rfl
 | cons w r ih =>
   rw [List.all_cons,Bool.and_eq_true] at h;show Zi (Zo w).1::((r.map fun x=>(Zo x).1).map Zi)=w::r;rw [ih h.2,(I0 h.1).1]
theorem Zex {ws:List Wd} {e:Ev} (h:Va ws=some e):Kx e=ws:=by
 unfold Va at h;split at h
 · rename_i w k rest
   split at h
   · cases h
   · rename_i a b _
     split at h
     · rename_i hc
       cases h;unfold Kx;simp only;rw [(I0 hc.1).1,Zew hc.2.2.2,List.take_append_drop]
     · cases h
 · cases h
theorem MJ {s:Wd} {e:Ev} {c:Int} (h:YQ s=(some e,c)):Zp Z7 e=0∧Xy e=s:=by
 unfold YQ at h;split at h
 · cases h
 rename_i hlen
 split at h
 · cases h
 rename_i x d hd
 split at h
 · rename_i hx
   split at h
   · rename_i hs
     split at h
     · rename_i e' he
       split at h
       · rename_i hck
         cases h;refine ⟨hck, ?_⟩;have hb:YP e=s.take (s.length - 8):=by
          unfold YP;rw [Zex he];have:=GS 32 (s.take (s.length - 8)) [];rw [List.nil_append] at this;exact this
         unfold Xy;rw [hb,← hs,← hx.1,← hd,List.take_append_drop]
       · cases h
     · cases h
   · cases h
 · cases h
theorem Zey {s:Wd} {c:Int} (h:YQ s=(none,c)):c ≠ 0:=by
 unfold YQ at h;intro hc;subst hc
 repeat' (split at h)
 all_goals cases h
theorem Zez (a b:List Ev):Ya (a++b)=Ya a++Ya b:=by unfold Ya;rw [List.flatMap_append]
theorem MK:∀ (l:List Wd) (out:List Ev) (pos:Nat) (la:Wd) (out':List Ev) (p:Nat),QH out pos la l=(out',p,0)→la=[] ∧ ∃ m,out'=out++m∧Ya m=l.flatMap (fun w=>w++[10])∧p=pos+(Ya m).length ∧ ∀ e ∈ m,Zp Z7 e=0
 | [],out,pos,la,out',p,h=>by
   unfold QH at h;split at h
   · rename_i hl
     cases h;exact ⟨hl,[],by simp,rfl,by simp [Ya],by simp⟩
   · cases h
 | w::r,out,pos,la,out',p,h=>by
   unfold QH at h;cases hr:YQ w with
   | mk o c =>
     rw [hr] at h;cases o with
     | none =>
       simp only at h;cases h;exact absurd rfl (Zey hr)
     | some e =>
       simp only at h;split at h
       · obtain ⟨h1,m,h2,h3,h4,h5⟩:=MK r _ _ _ _ _ h;obtain ⟨k1,k2⟩:=MJ hr;refine ⟨h1,e::m,by rw [h2];simp, ?_, ?_, ?_⟩
         · rw [MI,h3,k2];simp
         · rw [h4,MI,k2];simp;omega
         · intro x hx;rcases List.mem_cons.1 hx with rfl | hx
           · exact k1
           · exact h5 x hx
       · cases h
theorem ML {s:Wd} {out:List Ev} {p:Nat} (h:ZU s=(out,p,0)):Ya out=s∧(∀ e ∈ out,Zp Z7 e=0)∧p=s.length:=by
 unfold ZU at h;split at h
 · cases h
 obtain ⟨h1,m,h2,h3,h4,h5⟩:=MK _ _ _ _ _ _ h;have hj:=Z59 s;rw [h1,List.append_nil,← h3] at hj;rw [List.nil_append] at h2;subst h2;rw [← hj] at h4;exact ⟨hj.symm,h5,by omega⟩
theorem MM:∀ (l:List Wd) (out:List Ev) (pos:Nat) (la:Wd),(∀ e ∈ out,Zp Z7 e=0) → ∀ e ∈ (QH out pos la l).1,Zp Z7 e=0
 | [],out,pos,la,h=>by
   unfold QH;split<;>exact h
 | w::r,out,pos,la,h=>by
   unfold QH;cases hr:YQ w with
   | mk o c=>cases o with
     | none=>exact h
     | some e =>
       simp only;split
       · refine MM r _ _ _ fun x hx => ?_
         rcases List.mem_append.1 hx with hx | hx
         · exact h x hx
         · rw [List.mem_singleton.1 hx];exact (MJ hr).1
       · exact h
theorem ZeA (s:Wd):∀ e ∈ (ZU s).1,Zp Z7 e=0:=by
 unfold ZU;split
 · intro e he;cases he
 · exact MM _ _ _ _ fun e he=>by cases he
end Go.Sim.Pos

namespace Go.Sim
open Go Go.Proofs
def Ft (b:Nat) (H:Heap) (t:Tok) (rows:List (List AV)) (sz:Nat) (e:TypeId):Prop:=t=.exact ∨ ∃ j,t=.tok j∧rows ≠ []∧b≤j∧j < H.n∧H.get j=.row [] sz e
theorem MN {b:Nat} {H:Heap} {t:Tok} {rows rx:List (List AV)} {sz lo:Nat} {e:TypeId} (h:Ft b H t rows sz e) (hb:b≤H.n) (hlo:lo≤b) (h1:rows.length+rx.length≤Z1) (h2:rx.all XV=true) (h3:0 < sz) (h4:rows.all (fun r=>r.length=sz)=true) (h5:rx.map (List.map AV.strip0)=rx) :
 ∃ t' H',Xn lo H sz e (.ps t rows) rx=some (.ps t' (rows++rx),H')∧Ft b H' t' (rows++rx) sz e∧H.n≤H'.n∧Old b H H'∧(∀ i c u,i < H.n→H.get i=.cells c u→H'.get i=.cells c u):=by
 cases rx with
 | nil=>rw [List.append_nil];exact ⟨t,H,rfl,h,Nat.le_refl _,⟨hb,fun _ _=>rfl⟩,fun _ _ _ _ h=>h⟩
 | cons a r =>
   rcases h with rfl | ⟨j,rfl,h6,hj,h7,h8⟩
   · refine ⟨.tok H.n,H.push (.row [] sz e), ?_,.inr ⟨H.n,rfl,by simp,hb,by simp,by rw [Heap.get_push,if_pos rfl]⟩,by simp,⟨by simp;omega,fun i hi=>by rw [Heap.get_push,if_neg (by omega)]⟩,fun i c u hi hc => ?_⟩
     · unfold Xn;simp only [h1,h2,h3,h4,h5,decide_true,Bool.and_self,if_true]
     · rw [Heap.get_push,if_neg (by omega)];exact hc
   · have h6':rows.isEmpty=false:=by cases rows with | nil=>exact absurd rfl h6 | cons b q=>rfl
     have h9:lo≤j:=by omega
     refine ⟨.tok H.n,(H.set j .dead).push (.row [] sz e), ?_,.inr ⟨H.n,rfl,by simp,hb,by simp,by rw [Heap.get_push,if_pos (by simp)]⟩,by simp,⟨by simp;omega,fun i hi=>by rw [Heap.get_push,if_neg (by simp;omega),Heap.get_set,if_neg (by omega)]⟩,fun i c u hi hc => ?_⟩
     · unfold Xn;simp only [h1,h2,h3,h4,h5,h8,h9,h6',decide_true,Bool.and_self,if_true,Bool.not_false]
     · rw [Heap.get_push,if_neg (by simp;omega),Heap.get_set,if_neg (fun he=>by rw [he,h8] at hc;cases hc)];exact hc
theorem Ft.under {b:Nat} {H:Heap} {t:Tok} {rows rows':List (List AV)} {sz:Nat} {e:TypeId} (h:Ft b H t rows sz e):AV.under H.n (.ps t rows')=true:=by
 rcases h with rfl | ⟨j,rfl,_,_,hj,_⟩
 · rfl
 · show Nat.blt j H.n=true;rw [Nat.blt_eq];exact hj
end Go.Sim

namespace Go.Sim
open Go Go.Proofs
open Go.Sim.Pos (Nm Ev)
set_option maxRecDepth 100000
set_option maxHeartbeats 32000000
theorem ZeB {e:Ev} (h:XU e=true):e.kind.length≤40∧e.names.length≤6∧e.vals.length≤8:=by
 unfold XU at h;simp only [Bool.and_eq_true,decide_eq_true_eq] at h;exact ⟨h.1,h.2.1,h.2.2.1⟩
theorem ZeC (e:Ev):Ke [e] 1=XU e:=by
 unfold Ke;rw [decide_eq_true (by simp)];simp
theorem MO (a b c:Int):Z9 [a,b,c]=if a ≠ 0 then a else if b ≠ 0 then b else c:=by
 unfold Z9 Z9 Z9 Z9;by_cases h1:a=0<;>by_cases h2:b=0<;>by_cases h3:c=0<;>simp [h1,h2,h3]
theorem ZeD (l:List Ev):(l.map Pos.Ev.row).all XV=true:=by
 rw [List.all_eq_true];intro r hr;obtain ⟨e,_,rfl⟩:=List.mem_map.1 hr;rfl
theorem ZeE (l:List Ev):(l.map Pos.Ev.row).map (List.map AV.strip0)=l.map Pos.Ev.row:=by
 rw [List.map_map];rfl
theorem ZeF {s:Nm} {e:Ev} (hl:s.length≤1500):Kb s e=(if Z9 [(Pos.ZU s).2.2,Pos.Zp Z7 e,Z5 (!decide (e.num=((Pos.ZU s).1.length:Int)+1)) 11]=0 then Pos.Ya ((Pos.ZU s).1++[e]) else [],Z9 [(Pos.ZU s).2.2,Pos.Zp Z7 e,Z5 (!decide (e.num=((Pos.ZU s).1.length:Int)+1)) 11]):=by
 rw [MO];unfold Kb;cases hR:Pos.ZU s with
 | mk out pc =>
 obtain ⟨p,c⟩:=pc;simp only;by_cases h1:c=0
 case neg=>simp only [ne_eq,h1,not_false_eq_true,if_true,if_false]
 subst h1;obtain ⟨g1,g2,g3⟩:=Pos.ML hR;by_cases h2:Pos.Zp Z7 e=0
 case neg=>simp only [ne_eq,h2,not_false_eq_true,not_true_eq_false,if_true,if_false]
 by_cases h3:e.num=(out.length:Int)+1
 case neg =>
  have:Z5 (!decide (e.num=(out.length:Int)+1)) 11=11:=by rw [decide_eq_false h3];rfl
  rw [this];simp only [ne_eq,h2,h3,not_false_eq_true,not_true_eq_false,if_true,if_false];rfl
 have h4:Z5 (!decide (e.num=(out.length:Int)+1)) 11=0:=by rw [decide_eq_true h3];rfl
 rw [h4];have hb:=(VX h2).2;have h5:¬ 1000000 < (s++(Pos.Xy e++[10])).length:=by
  unfold Pos.Xy;simp only [List.length_append,List.length_cons,List.length_nil,Pos.Ia];omega
 simp only [ne_eq,h2,h3,h5,not_true_eq_false,if_true,if_false];rw [Pos.Zez,g1];simp [Pos.Ya]
noncomputable def Jq:PF:=Zd 22 p22 (Zd 35 p35 (Zd 18 p18 (Zd 19 p19 (Zd 34 p34 (Zd 33 p33 (Zd 32 p32 (Zd 31 p31 (Zd 15 p15 (Zd 14 p14 (fun _=>none))))))))))
theorem ZeG:PrimsOk NC Jq:=ZX (ZX (ZX (ZX (ZX (ZX (ZX (Pa (Pa (Pa (ZA) pok14) pok15) pok31) (by kernel_rfl) (by kernel_rfl) AE) (by kernel_rfl) (by kernel_rfl) pok33) (by kernel_rfl) (by kernel_rfl) Mu) (by kernel_rfl) (by kernel_rfl) pok19) (by kernel_rfl) (by kernel_rfl) pok18) (by kernel_rfl) (by kernel_rfl) pok35) (by kernel_rfl) (by kernel_rfl) Lz
theorem ZeH:En Jq 14 p14:=Ze (by rfl) (by kernel_rfl)
theorem ZeI:En Jq 15 p15:=Ze (by rfl) (by kernel_rfl)
theorem ZeJ:En Jq 31 p31:=Ze (by rfl) (by kernel_rfl)
theorem ZeK:En Jq 32 p32:=Ze (by rfl) (by kernel_rfl)
theorem ZeL:En Jq 33 p33:=Ze (by rfl) (by kernel_rfl)
theorem ZeM:En Jq 34 p34:=Ze (by rfl) (by kernel_rfl)
theorem ZeN:En Jq 19 p19:=Ze (by rfl) (by kernel_rfl)
theorem ZeO:En Jq 18 p18:=Ze (by rfl) (by kernel_rfl)
theorem ZeP:En Jq 35 p35:=Ze (by rfl) (by kernel_rfl)
theorem ZeQ:En Jq 22 p22:=Ze (by rfl) (by kernel_rfl)
attribute [go_sem ↓] ZeH ZeI ZeJ ZeK ZeL ZeM ZeN ZeO ZeP ZeQ
theorem c6 (e:Ev) (s:Nm) (hp:∀ c ∈ s,c < 256):∀ lo H,Zc NC lo 6 [.agg e.row,.str s] H (.bool true) H:=by
 refine Cn ZeG Tryz.func6 rfl rfl ?_;have hS:=pe14 [e] 1 (by decide);rw [ZeC] at hS;have hS:p14 [.ps .unk [e.row],.int .i64 1]=some (.bool (XU e)):=hS;have hsr:List.map AV.strip0 e.row=e.row:=rfl;have hone:e.row.all AV.one=true:=rfl;have h5:e.row.length=5:=rfl;have e8:e.row.take 5=e.row:=rfl;cases hsh:XU e with
 | false =>
   rw [hsh] at hS;clear hsh h5 e8 hone hsr;obtain ⟨num,kind,names,vals,text⟩:=e;simp only [Pos.Ev.row] at hS;simp (maxDischargeDepth:=12) only [go_sem,reduceEqDiff,reduceAdd,reduceMul,reduceLeDiff,reduceCtorEq,Pos.Ev.row,hS]
 | true =>
 rw [hsh] at hS;obtain ⟨k1,k2,k3⟩:=ZeB hsh;by_cases hbig:(1500:Int) < s.length
 · clear hsh h5 e8 hone hsr k1 k2 k3;obtain ⟨num,kind,names,vals,text⟩:=e;simp only [Pos.Ev.row] at hS;simp (maxDischargeDepth:=12) only [go_sem,reduceEqDiff,reduceAdd,reduceMul,reduceLeDiff,reduceCtorEq,Pos.Ev.row,hS,hbig]
 have hl:s.length≤1500:=by omega
 have hA:=pe31 s e ⟨by omega,hp,by unfold Z1;omega,by unfold Z1;omega⟩;rw [ZeF hl] at hA;have hR:=pe32 s ⟨by omega,hp⟩;have hR2:=pe33 s ⟨by omega,hp⟩;have hC:=pe34 e;have hrl:=Ly s;have hwb:=fun out p=>Pos.ML (s:=s) (out:=out) (p:=p)
 cases hrec:Pos.ZU s with
 | mk out pc =>
 obtain ⟨p,c⟩:=pc;rw [hrec] at hA hR hR2 hrl hwb;simp only at hA hR hR2 hrl;have hw:Zk .i64 (Int.add (out.length:Int) 1)=(out.length:Int)+1:=Ym (n:=out.length+1) (by omega);have hF:=pe18 [c,Pos.Zp Z7 e,Z5 (!decide (e.num=(out.length:Int)+1)) 11] (by simp;unfold Z1;omega);have hints:Z3 [c,Pos.Zp Z7 e,Z5 (!decide (e.num=(out.length:Int)+1)) 11]=[[.int .i64 c],[.int .i64 (Pos.Zp Z7 e)],[.int .i64 (Z5 (!decide (e.num=(out.length:Int)+1)) 11)]]:=rfl;rw [hints] at hF;have hchk:=Pos.ZeA s;rw [hrec] at hchk;have hSE:=pe22 out out ⟨by unfold Z1;omega,fun z hz=>by
  have:=G9 (hchk z hz);unfold Z1;omega⟩
 rw [decide_eq_true rfl] at hSE;have hself:∀ l:Nm,Z6 l l=true:=fun l=>Xl rfl
 have hel:(out.map Pos.Ev.row).length=out.length:=List.length_map _;have hrows:(out.map Pos.Ev.row).all (fun r=>decide (r.length=5))=true:=Bc out;have hn:∀ n:Int,(n=n)=True:=fun n=>eq_true rfl
 generalize hbad:Z9 [c,Pos.Zp Z7 e,Z5 (!decide (e.num=(out.length:Int)+1)) 11]=bad at hA hF;rcases Classical.propComplete (bad=0) with hz | hz
 · have hz0:=of_eq_true hz;rw [if_pos hz0] at hA;have hcz:c=0∧Pos.Zp Z7 e=0:=by
    rw [MO] at hbad;by_cases h1:c=0
    · refine ⟨h1, ?_⟩;rw [if_neg (by simpa using h1)] at hbad;by_cases h2:Pos.Zp Z7 e=0
      · exact h2
      · rw [if_pos h2] at hbad;exact absurd (hbad.trans hz0) h2
    · rw [if_pos h1] at hbad;exact absurd (hbad.trans hz0) h1
   have hL:=pe35 (out++[e]) ⟨fun z hz=>by
    rcases List.mem_append.1 hz with h | h
    · exact hchk z h
    · rw [List.mem_singleton.1 h];exact hcz.2,by simp;omega⟩
   have hmap:(out++[e]).map Pos.Ev.row=out.map Pos.Ev.row++[e.row]:=by simp
   rw [hmap] at hL;generalize Pos.Ya (out++[e])=L at hA hL;obtain ⟨t1,H1,ha1,hB1,hn1,hO1,hC1⟩:=MN (b:=0) (lo:=0) (H:=Heap.empty.push (.cells e.row 53)) (t:=.exact) (rows:=[]) (rx:=out.map Pos.Ev.row) (sz:=5) (e:=53) (.inl rfl) (Nat.zero_le _) (Nat.le_refl _) (by simp;unfold Z1;omega) (ZeD out) (by decide) rfl (ZeE out);rw [List.nil_append] at ha1 hB1;obtain ⟨t2,H2,ha2,hB2,hn2,hO2,hC2⟩:=MN (lo:=0) hB1 (Nat.zero_le _) (Nat.le_refl _) (rx:=[e.row]) (by simp;unfold Z1;omega) rfl (by decide) (Bc out) rfl;have hg1:=hC1 0 _ _ (by simp) (by rw [Heap.get_push];rfl);have hg2:=hC2 0 _ _ (by have:1≤H1.n:=hn1;omega) hg1;have hu1:=fun r=>hB1.under (rows':=r)
   have hu2:=fun r=>hB2.under (rows':=r)
   clear hB1 hn1 hO1 hC1 hB2 hn2 hO2 hC2;clear hbad hchk hwb hrec hrl hp k1 k2 k3 hsh h5 e8 hone hsr;obtain ⟨num,kind,names,vals,text⟩:=e;simp only [Pos.Ev.row] at hS hA hC hF;have e9:(⟨num,kind,names,vals,text⟩:Ev).row=[.int .i64 num,.str kind,.ps .unk (Z0 names),.ps .unk (Z3 vals),.str text]:=rfl;rw [e9] at hL ha1 ha2 hg1 hg2 ⊢;clear e9;simp (maxDischargeDepth:=12) only [go_sem,reduceEqDiff,reduceAdd,reduceMul,reduceSub,reduceLeDiff,reduceCtorEq,hS,hbig,hA,hR,hR2,hC,hw,hel,hF,hz,hL,hSE,hself,hrows,ZT,ha1,ha2,hu2]
 · rw [if_neg (of_eq_false hz)] at hA;clear hbad hchk hwb hrec hrl hp k1 k2 k3 hsh h5 e8 hone hsr hrows;obtain ⟨num,kind,names,vals,text⟩:=e;simp only [Pos.Ev.row] at hS hA hC hF;simp only [Pos.Ev.row];simp (maxDischargeDepth:=12) only [go_sem,reduceEqDiff,reduceAdd,reduceMul,reduceSub,reduceLeDiff,reduceCtorEq,hS,hbig,hA,hR,hR2,hC,hw,hel,hF,hz,hSE,hself]
end Go.Sim
