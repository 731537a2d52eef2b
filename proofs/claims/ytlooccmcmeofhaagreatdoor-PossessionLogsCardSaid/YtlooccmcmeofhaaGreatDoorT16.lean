/-
Lemmas of one proof, the texts Chk3 to Sq4 joined.
-/
import Derived.Test.YtlooccmcmeofhaaGreatDoorT15
set_option linter.unusedSimpArgs false
set_option linter.unusedVariables false
open Nat (reduceEqDiff reduceAdd reduceMul reduceSub reduceLeDiff reduceLT)

namespace Go.Sim
open Go Go.Proofs
open Go.Sim.Pos (Nm Trk Flt Trn Pos Mch Reg Ev Len ZW Yd Y8 Ye)
set_option maxRecDepth 100000
set_option maxHeartbeats 8000000
theorem Zax {H:Heap} {f:Trn} {id:Nat} {s:Nm} (hid:id < H.n) (hg:H.get id=.cells [.str s] 9) {lo:Nat} {K:AV→Heap→Prop}:VO (Z8 PT (R PT) lo 271 [.agg [.str f.name,.str f.track,.int .i64 f.speed],.ptr id 0] H) K=K (.bool (decide (f.track=s))) H:=by
 obtain ⟨w,H2,h1,h2⟩:=Za (C:=PT) (f:=271) (lo:=H.n) (args:=[.agg [.str f.name,.str f.track,.int .i64 f.speed],.ptr id 0]) (H:=H) (fn:=Tryz.f271) (Q:=fun w _=>w=.bool (decide (f.track=s))) (by kernel_rfl) Tryz.func271 rfl rfl (by
  have hne:(id=H.n)=False:=eq_false (by omega);simp (maxDischargeDepth:=12) only [go_sem,reduceEqDiff,reduceAdd,reduceCtorEq,hne,hg,Yu])
 exact ZF (en271 rfl) ⟨H2,h1⟩ (by rw [h2];rfl) rfl
theorem Zay {H:Heap} {b o:Nat} {r:Reg} {V:RegV} (h:RegIs H b o r V) {num:Int} {kind text:Nm} {p t:Nm} {tk x y:Int}:∃ w H2,R PT (.call H.n 169 [.ptr b o,.agg (evC num kind [p,t] [tk,x,y] text)] H)=some (.ofVal w H2)∧w=.int .i64 (Z9 [Pos.spanI x y,Z5 (r.manned t) 31,Z5 (ovR r t x y) 15,Z5 (decide ((r.poss.length:Int)=16)) 5]):=by
 refine Za (C:=PT) (f:=169) (lo:=H.n) (args:=[.ptr b o,.agg (evC num kind [p,t] [tk,x,y] text)]) (H:=H) (fn:=Tryz.f169) (Q:=fun w _=>w=.int .i64 (Z9 [Pos.spanI x y,Z5 (r.manned t) 31,Z5 (ovR r t x y) 15,Z5 (decide ((r.poss.length:Int)=16)) 5])) (by kernel_rfl) Tryz.func169 rfl rfl ?_;have l1:=fun H'=>h.l1 (H':=H')
 have l2:=fun H'=>h.l2 (H':=H')
 have l3:=fun H'=>h.l3 (H':=H')
 have l4:=fun H'=>h.l4 (H':=H')
 have l5:=fun H'=>h.l5 (H':=H')
 have nT:=fun H'=>h.sT.len (t:=43) (by kernel_rfl) H'
 have nF:=fun H'=>h.sF.len (t:=44) (by kernel_rfl) H'
 have nR:=fun H'=>h.sR.len (t:=45) (by kernel_rfl) H'
 have nP:=fun H'=>h.sP.len (t:=46) (by kernel_rfl) H'
 have nM:=fun H'=>h.sM.len (t:=47) (by kernel_rfl) H'
 simp only [List.length_map] at nT nF nR nP nM;have uT:=fun n (hn:H.n≤n)=>h.sT.under hn
 have uF:=fun n (hn:H.n≤n)=>h.sF.under hn
 have uR:=fun n (hn:H.n≤n)=>h.sR.under hn
 have uP:=fun n (hn:H.n≤n)=>h.sP.under hn
 have uM:=fun n (hn:H.n≤n)=>h.sM.under hn
 have hb:=eq_true h.bn;have en:(Z0 [p,t]).length=2:=rfl;have ei:(Z3 [tk,x,y]).length=3:=rfl;have en0:(Z0 [p,t])[0]? = some [.str p]:=rfl;have en1:(Z0 [p,t])[1]? = some [.str t]:=rfl;have ei0:(Z3 [tk,x,y])[0]? = some [.int .i64 tk]:=rfl;have ei1:(Z3 [tk,x,y])[1]? = some [.int .i64 x]:=rfl;have ei2:(Z3 [tk,x,y])[2]? = some [.int .i64 y]:=rfl;have hsp:=UY ⟨num,kind,[p,t],[tk,x,y],text⟩ (by show 3≤3;decide);simp only [Pos.Ev.row,List.getD_cons_succ,List.getD_cons_zero] at hsp;have e1:=fun Hc (ho:Old H.n H Hc) lo K=>Zaf h t x y ho (lo:=lo) (K:=K)
 have e2:∀ Hc,Old H.n H Hc→H.n+1+1 < Hc.n→Hc.get (H.n+1+1)=.cells [.str t] 9 → ∀ lo K,VO (Z8 PT (R PT) lo 270 [ZO V.vR,.fn 271 [] [.ptr (H.n+1+1) 0]] Hc) K=K (.bool (r.manned t)) Hc:=fun Hc ho hlt hg lo K =>
  Z9Q (h.sR.old ho) h.lR rfl (fun x _ H2 ho2 lo K=>Zax (Nat.lt_of_lt_of_le hlt ho2.1) (by rw [ho2.2 _ hlt,hg]))
 simp (maxDischargeDepth:=12) only [go_sem,reduceEqDiff,reduceAdd,reduceMul,reduceSub,reduceLeDiff,reduceCtorEq,en,en1,l3,l4,nP,hb,hsp,e1,e2]
theorem Zaz {H:Heap} {b o:Nat} {r:Reg} {V:RegV} (h:RegIs H b o r V) {num:Int} {kind text:Nm} {p t:Nm} {tk x y:Int} {lo:Nat} {K:AV→Heap→Prop}:VO (Z8 PT (R PT) lo 169 [.ptr b o,.agg (evC num kind [p,t] [tk,x,y] text)] H) K=K (.int .i64 (Z9 [Pos.spanI x y,Z5 (r.manned t) 31,Z5 (ovR r t x y) 15,Z5 (decide ((r.poss.length:Int)=16)) 5])) H:=by
 obtain ⟨w,H2,h1,h2⟩:=Zay h ;exact ZF (en169 rfl) ⟨H2,h1⟩ (by rw [h2];rfl) rfl
theorem LT {H:Heap} {b o:Nat} {r:Reg} {V:RegV} (h:RegIs H b o r V) {num:Int} {kind text:Nm} {ns:List Nm} {vs:List Int} {lo:Nat} {K:AV→Heap→Prop}:VO (Z8 PT (R PT) lo 165 [.ptr b o,.agg (evC num kind ns vs text)] H) K=K (.int .i64 0) H:=by
 obtain ⟨w,H2,h1,h2⟩:=Za (C:=PT) (f:=165) (lo:=H.n) (args:=[.ptr b o,.agg (evC num kind ns vs text)]) (H:=H) (fn:=Tryz.f165) (Q:=fun w _=>w=.int .i64 0) (by kernel_rfl) Tryz.func165 rfl rfl (by simp (maxDischargeDepth:=12) only [go_sem,reduceAdd,reduceCtorEq]);exact ZF (en165 rfl) ⟨H2,h1⟩ (by rw [h2];rfl) rfl
theorem ZaA {H:Heap} {b o:Nat} {r:Reg} {V:RegV} (h:RegIs H b o r V) {num:Int} {kind text:Nm} {id off:Nat} {y:Pos} (hP:PtP H id off y) {p:Nm} {tk:Int}:∃ w H2,R PT (.call H.n 172 [.ptr b o,.ptr id off,.agg (evC num kind [p] [tk] text)] H)=some (.ofVal w H2)∧w=.int .i64 (Z5 y.prot 9):=by
 refine Za (C:=PT) (f:=172) (lo:=H.n) (args:=[.ptr b o,.ptr id off,.agg (evC num kind [p] [tk] text)]) (H:=H) (fn:=Tryz.f172) (Q:=fun w _=>w=.int .i64 (Z5 y.prot 9)) (by kernel_rfl) Tryz.func172 rfl rfl ?_;have l1:=fun H'=>h.l1 (H':=H')
 have l2:=fun H'=>h.l2 (H':=H')
 have l3:=fun H'=>h.l3 (H':=H')
 have l4:=fun H'=>h.l4 (H':=H')
 have l5:=fun H'=>h.l5 (H':=H')
 have nT:=fun H'=>h.sT.len (t:=43) (by kernel_rfl) H'
 have nF:=fun H'=>h.sF.len (t:=44) (by kernel_rfl) H'
 have nR:=fun H'=>h.sR.len (t:=45) (by kernel_rfl) H'
 have nP:=fun H'=>h.sP.len (t:=46) (by kernel_rfl) H'
 have nM:=fun H'=>h.sM.len (t:=47) (by kernel_rfl) H'
 simp only [List.length_map] at nT nF nR nP nM;have uT:=fun n (hn:H.n≤n)=>h.sT.under hn
 have uF:=fun n (hn:H.n≤n)=>h.sF.under hn
 have uR:=fun n (hn:H.n≤n)=>h.sR.under hn
 have uP:=fun n (hn:H.n≤n)=>h.sP.under hn
 have uM:=fun n (hn:H.n≤n)=>h.sM.under hn
 have hb:=eq_true h.bn;have en:(Z0 [p]).length=1:=rfl;have ei:(Z3 [tk]).length=1:=rfl;have en0:(Z0 [p])[0]? = some [.str p]:=rfl;have ei0:(Z3 [tk])[0]? = some [.int .i64 tk]:=rfl;simp (maxDischargeDepth:=12) only [go_sem,reduceEqDiff,reduceAdd,reduceCtorEq,hP.f5]
theorem ZaB {H:Heap} {b o:Nat} {r:Reg} {V:RegV} (h:RegIs H b o r V) {num:Int} {kind text:Nm} {id off:Nat} {y:Pos} (hP:PtP H id off y) {p:Nm} {tk:Int} {lo:Nat} {K:AV→Heap→Prop}:VO (Z8 PT (R PT) lo 172 [.ptr b o,.ptr id off,.agg (evC num kind [p] [tk] text)] H) K=K (.int .i64 (Z5 y.prot 9)) H:=by
 obtain ⟨w,H2,h1,h2⟩:=ZaA h hP;exact ZF (en172 rfl) ⟨H2,h1⟩ (by rw [h2];rfl) rfl
theorem ZaC {H:Heap} {b o:Nat} {r:Reg} {V:RegV} (h:RegIs H b o r V) {num:Int} {kind text:Nm} {id off:Nat} {y:Pos} (hP:PtP H id off y) {p:Nm} {tk:Int} (hp:r.poss? y.name=some y):∃ w H2,R PT (.call H.n 175 [.ptr b o,.ptr id off,.agg (evC num kind [p] [tk] text)] H)=some (.ofVal w H2)∧w=.int .i64 (Z9 [Z5 (!y.prot) 22,Z5 (!(decide (((r.within y.name).length:Int)=0) && decide (y.pers=0))) 32]):=by
 refine Za (C:=PT) (f:=175) (lo:=H.n) (args:=[.ptr b o,.ptr id off,.agg (evC num kind [p] [tk] text)]) (H:=H) (fn:=Tryz.f175) (Q:=fun w _=>w=.int .i64 (Z9 [Z5 (!y.prot) 22,Z5 (!(decide (((r.within y.name).length:Int)=0) && decide (y.pers=0))) 32])) (by kernel_rfl) Tryz.func175 rfl rfl ?_;have l1:=fun H'=>h.l1 (H':=H')
 have l2:=fun H'=>h.l2 (H':=H')
 have l3:=fun H'=>h.l3 (H':=H')
 have l4:=fun H'=>h.l4 (H':=H')
 have l5:=fun H'=>h.l5 (H':=H')
 have nT:=fun H'=>h.sT.len (t:=43) (by kernel_rfl) H'
 have nF:=fun H'=>h.sF.len (t:=44) (by kernel_rfl) H'
 have nR:=fun H'=>h.sR.len (t:=45) (by kernel_rfl) H'
 have nP:=fun H'=>h.sP.len (t:=46) (by kernel_rfl) H'
 have nM:=fun H'=>h.sM.len (t:=47) (by kernel_rfl) H'
 simp only [List.length_map] at nT nF nR nP nM;have uT:=fun n (hn:H.n≤n)=>h.sT.under hn
 have uF:=fun n (hn:H.n≤n)=>h.sF.under hn
 have uR:=fun n (hn:H.n≤n)=>h.sR.under hn
 have uP:=fun n (hn:H.n≤n)=>h.sP.under hn
 have uM:=fun n (hn:H.n≤n)=>h.sM.under hn
 have hb:=eq_true h.bn;have en:(Z0 [p]).length=1:=rfl;have ei:(Z3 [tk]).length=1:=rfl;have en0:(Z0 [p])[0]? = some [.str p]:=rfl;have ei0:(Z3 [tk])[0]? = some [.int .i64 tk]:=rfl;have e3:=fun Hc (ho:Old H.n H Hc) lo K=>AQ h hp ho (lo:=lo) (K:=K)
 have hi:=eq_true hP.lt;simp (maxDischargeDepth:=12) only [go_sem,reduceEqDiff,reduceAdd,reduceMul,reduceSub,reduceLeDiff,reduceCtorEq,hb,hP.f0,hP.f5,e3]
theorem ZaD {H:Heap} {b o:Nat} {r:Reg} {V:RegV} (h:RegIs H b o r V) {num:Int} {kind text:Nm} {id off:Nat} {y:Pos} (hP:PtP H id off y) {p:Nm} {tk:Int} (hp:r.poss? y.name=some y) {lo:Nat} {K:AV→Heap→Prop}:VO (Z8 PT (R PT) lo 175 [.ptr b o,.ptr id off,.agg (evC num kind [p] [tk] text)] H) K=K (.int .i64 (Z9 [Z5 (!y.prot) 22,Z5 (!(decide (((r.within y.name).length:Int)=0) && decide (y.pers=0))) 32])) H:=by
 obtain ⟨w,H2,h1,h2⟩:=ZaC h hP hp;exact ZF (en175 rfl) ⟨H2,h1⟩ (by rw [h2];rfl) rfl
theorem r_iIn {H:Heap} {b o:Nat} {r:Reg} {V:RegV} (h:RegIs H b o r V) {num:Int} {kind text:Nm} {id off:Nat} {y:Pos} (hP:PtP H id off y) {m p:Nm} {tk:Int}:∃ w H2,R PT (.call H.n 177 [.ptr b o,.ptr id off,.agg (evC num kind [m,p] [tk] text)] H)=some (.ofVal w H2)∧w=.int .i64 (Z9 [Z5 (!y.prot) 21,Z5 (decide ((r.machs.length:Int)=16)) 5]):=by
 refine Za (C:=PT) (f:=177) (lo:=H.n) (args:=[.ptr b o,.ptr id off,.agg (evC num kind [m,p] [tk] text)]) (H:=H) (fn:=Tryz.f177) (Q:=fun w _=>w=.int .i64 (Z9 [Z5 (!y.prot) 21,Z5 (decide ((r.machs.length:Int)=16)) 5])) (by kernel_rfl) Tryz.func177 rfl rfl ?_;have l1:=fun H'=>h.l1 (H':=H')
 have l2:=fun H'=>h.l2 (H':=H')
 have l3:=fun H'=>h.l3 (H':=H')
 have l4:=fun H'=>h.l4 (H':=H')
 have l5:=fun H'=>h.l5 (H':=H')
 have nT:=fun H'=>h.sT.len (t:=43) (by kernel_rfl) H'
 have nF:=fun H'=>h.sF.len (t:=44) (by kernel_rfl) H'
 have nR:=fun H'=>h.sR.len (t:=45) (by kernel_rfl) H'
 have nP:=fun H'=>h.sP.len (t:=46) (by kernel_rfl) H'
 have nM:=fun H'=>h.sM.len (t:=47) (by kernel_rfl) H'
 simp only [List.length_map] at nT nF nR nP nM;have uT:=fun n (hn:H.n≤n)=>h.sT.under hn
 have uF:=fun n (hn:H.n≤n)=>h.sF.under hn
 have uR:=fun n (hn:H.n≤n)=>h.sR.under hn
 have uP:=fun n (hn:H.n≤n)=>h.sP.under hn
 have uM:=fun n (hn:H.n≤n)=>h.sM.under hn
 have hb:=eq_true h.bn;have en:(Z0 [m,p]).length=2:=rfl;have ei:(Z3 [tk]).length=1:=rfl;have en0:(Z0 [m,p])[0]? = some [.str m]:=rfl;have en1:(Z0 [m,p])[1]? = some [.str p]:=rfl;have ei0:(Z3 [tk])[0]? = some [.int .i64 tk]:=rfl;simp (maxDischargeDepth:=12) only [go_sem,reduceEqDiff,reduceAdd,reduceMul,reduceSub,reduceLeDiff,reduceCtorEq,l5,nM,hP.f5]
theorem e_iIn {H:Heap} {b o:Nat} {r:Reg} {V:RegV} (h:RegIs H b o r V) {num:Int} {kind text:Nm} {id off:Nat} {y:Pos} (hP:PtP H id off y) {m p:Nm} {tk:Int} {lo:Nat} {K:AV→Heap→Prop}:VO (Z8 PT (R PT) lo 177 [.ptr b o,.ptr id off,.agg (evC num kind [m,p] [tk] text)] H) K=K (.int .i64 (Z9 [Z5 (!y.prot) 21,Z5 (decide ((r.machs.length:Int)=16)) 5])) H:=by
 obtain ⟨w,H2,h1,h2⟩:=r_iIn h hP;exact ZF (en177 rfl) ⟨H2,h1⟩ (by rw [h2];rfl) rfl
theorem ZaE {H:Heap} {b o:Nat} {r:Reg} {V:RegV} (h:RegIs H b o r V) {num:Int} {kind text:Nm} {id off:Nat} {y:Pos} (hP:PtP H id off y) {p:Nm} {tk v:Int} (hw:Zk .i64 (Int.add y.pers v)=y.pers+v):∃ w H2,R PT (.call H.n 182 [.ptr b o,.ptr id off,.agg (evC num kind [p] [tk,v] text)] H)=some (.ofVal w H2)∧w=.int .i64 (Z9 [ZS v 1 100,Z5 (!y.prot) 21,Z5 (decide (100 < y.pers+v)) 4]):=by
 refine Za (C:=PT) (f:=182) (lo:=H.n) (args:=[.ptr b o,.ptr id off,.agg (evC num kind [p] [tk,v] text)]) (H:=H) (fn:=Tryz.f182) (Q:=fun w _=>w=.int .i64 (Z9 [ZS v 1 100,Z5 (!y.prot) 21,Z5 (decide (100 < y.pers+v)) 4])) (by kernel_rfl) Tryz.func182 rfl rfl ?_;have l1:=fun H'=>h.l1 (H':=H')
 have l2:=fun H'=>h.l2 (H':=H')
 have l3:=fun H'=>h.l3 (H':=H')
 have l4:=fun H'=>h.l4 (H':=H')
 have l5:=fun H'=>h.l5 (H':=H')
 have nT:=fun H'=>h.sT.len (t:=43) (by kernel_rfl) H'
 have nF:=fun H'=>h.sF.len (t:=44) (by kernel_rfl) H'
 have nR:=fun H'=>h.sR.len (t:=45) (by kernel_rfl) H'
 have nP:=fun H'=>h.sP.len (t:=46) (by kernel_rfl) H'
 have nM:=fun H'=>h.sM.len (t:=47) (by kernel_rfl) H'
 simp only [List.length_map] at nT nF nR nP nM;have uT:=fun n (hn:H.n≤n)=>h.sT.under hn
 have uF:=fun n (hn:H.n≤n)=>h.sF.under hn
 have uR:=fun n (hn:H.n≤n)=>h.sR.under hn
 have uP:=fun n (hn:H.n≤n)=>h.sP.under hn
 have uM:=fun n (hn:H.n≤n)=>h.sM.under hn
 have hb:=eq_true h.bn;have en:(Z0 [p]).length=1:=rfl;have ei:(Z3 [tk,v]).length=2:=rfl;have en0:(Z0 [p])[0]? = some [.str p]:=rfl;have ei0:(Z3 [tk,v])[0]? = some [.int .i64 tk]:=rfl;have ei1:(Z3 [tk,v])[1]? = some [.int .i64 v]:=rfl;simp (maxDischargeDepth:=12) only [go_sem,reduceEqDiff,reduceAdd,reduceMul,reduceSub,reduceLeDiff,reduceCtorEq,ei,ei1,hP.f5,hP.f8,hw]
theorem ZaF {H:Heap} {b o:Nat} {r:Reg} {V:RegV} (h:RegIs H b o r V) {num:Int} {kind text:Nm} {id off:Nat} {y:Pos} (hP:PtP H id off y) {p:Nm} {tk v:Int} (hw:Zk .i64 (Int.add y.pers v)=y.pers+v) {lo:Nat} {K:AV→Heap→Prop}:VO (Z8 PT (R PT) lo 182 [.ptr b o,.ptr id off,.agg (evC num kind [p] [tk,v] text)] H) K=K (.int .i64 (Z9 [ZS v 1 100,Z5 (!y.prot) 21,Z5 (decide (100 < y.pers+v)) 4])) H:=by
 obtain ⟨w,H2,h1,h2⟩:=ZaE h hP hw;exact ZF (en182 rfl) ⟨H2,h1⟩ (by rw [h2];rfl) rfl
theorem ZaG {H:Heap} {b o:Nat} {r:Reg} {V:RegV} (h:RegIs H b o r V) {num:Int} {kind text:Nm} {id off:Nat} {y:Pos} (hP:PtP H id off y) {p:Nm} {tk v:Int}:∃ w H2,R PT (.call H.n 184 [.ptr b o,.ptr id off,.agg (evC num kind [p] [tk,v] text)] H)=some (.ofVal w H2)∧w=.int .i64 (Z9 [ZS v 1 100,Z5 (decide (y.pers < v)) 16]):=by
 refine Za (C:=PT) (f:=184) (lo:=H.n) (args:=[.ptr b o,.ptr id off,.agg (evC num kind [p] [tk,v] text)]) (H:=H) (fn:=Tryz.f184) (Q:=fun w _=>w=.int .i64 (Z9 [ZS v 1 100,Z5 (decide (y.pers < v)) 16])) (by kernel_rfl) Tryz.func184 rfl rfl ?_;have l1:=fun H'=>h.l1 (H':=H')
 have l2:=fun H'=>h.l2 (H':=H')
 have l3:=fun H'=>h.l3 (H':=H')
 have l4:=fun H'=>h.l4 (H':=H')
 have l5:=fun H'=>h.l5 (H':=H')
 have nT:=fun H'=>h.sT.len (t:=43) (by kernel_rfl) H'
 have nF:=fun H'=>h.sF.len (t:=44) (by kernel_rfl) H'
 have nR:=fun H'=>h.sR.len (t:=45) (by kernel_rfl) H'
 have nP:=fun H'=>h.sP.len (t:=46) (by kernel_rfl) H'
 have nM:=fun H'=>h.sM.len (t:=47) (by kernel_rfl) H'
 simp only [List.length_map] at nT nF nR nP nM;have uT:=fun n (hn:H.n≤n)=>h.sT.under hn
 have uF:=fun n (hn:H.n≤n)=>h.sF.under hn
 have uR:=fun n (hn:H.n≤n)=>h.sR.under hn
 have uP:=fun n (hn:H.n≤n)=>h.sP.under hn
 have uM:=fun n (hn:H.n≤n)=>h.sM.under hn
 have hb:=eq_true h.bn;have en:(Z0 [p]).length=1:=rfl;have ei:(Z3 [tk,v]).length=2:=rfl;have en0:(Z0 [p])[0]? = some [.str p]:=rfl;have ei0:(Z3 [tk,v])[0]? = some [.int .i64 tk]:=rfl;have ei1:(Z3 [tk,v])[1]? = some [.int .i64 v]:=rfl;simp (maxDischargeDepth:=12) only [go_sem,reduceEqDiff,reduceAdd,reduceMul,reduceSub,reduceLeDiff,reduceCtorEq,ei,ei1,hP.f8]
theorem ZaH {H:Heap} {b o:Nat} {r:Reg} {V:RegV} (h:RegIs H b o r V) {num:Int} {kind text:Nm} {id off:Nat} {y:Pos} (hP:PtP H id off y) {p:Nm} {tk v:Int} {lo:Nat} {K:AV→Heap→Prop}:VO (Z8 PT (R PT) lo 184 [.ptr b o,.ptr id off,.agg (evC num kind [p] [tk,v] text)] H) K=K (.int .i64 (Z9 [ZS v 1 100,Z5 (decide (y.pers < v)) 16])) H:=by
 obtain ⟨w,H2,h1,h2⟩:=ZaG h hP;exact ZF (en184 rfl) ⟨H2,h1⟩ (by rw [h2];rfl) rfl
theorem ZaI {H:Heap} {b o:Nat} {r:Reg} {V:RegV} (h:RegIs H b o r V) {num:Int} {kind text:Nm} {id off:Nat} {y:Pos} (hP:PtP H id off y) {p:Nm} {tk:Int}:∃ w H2,R PT (.call H.n 186 [.ptr b o,.ptr id off,.agg (evC num kind [p] [tk] text)] H)=some (.ofVal w H2)∧w=.int .i64 (Z9 [Z5 y.opn 9,Z5 (decide (y.closed=8)) 5]):=by
 refine Za (C:=PT) (f:=186) (lo:=H.n) (args:=[.ptr b o,.ptr id off,.agg (evC num kind [p] [tk] text)]) (H:=H) (fn:=Tryz.f186) (Q:=fun w _=>w=.int .i64 (Z9 [Z5 y.opn 9,Z5 (decide (y.closed=8)) 5])) (by kernel_rfl) Tryz.func186 rfl rfl ?_;have l1:=fun H'=>h.l1 (H':=H')
 have l2:=fun H'=>h.l2 (H':=H')
 have l3:=fun H'=>h.l3 (H':=H')
 have l4:=fun H'=>h.l4 (H':=H')
 have l5:=fun H'=>h.l5 (H':=H')
 have nT:=fun H'=>h.sT.len (t:=43) (by kernel_rfl) H'
 have nF:=fun H'=>h.sF.len (t:=44) (by kernel_rfl) H'
 have nR:=fun H'=>h.sR.len (t:=45) (by kernel_rfl) H'
 have nP:=fun H'=>h.sP.len (t:=46) (by kernel_rfl) H'
 have nM:=fun H'=>h.sM.len (t:=47) (by kernel_rfl) H'
 simp only [List.length_map] at nT nF nR nP nM;have uT:=fun n (hn:H.n≤n)=>h.sT.under hn
 have uF:=fun n (hn:H.n≤n)=>h.sF.under hn
 have uR:=fun n (hn:H.n≤n)=>h.sR.under hn
 have uP:=fun n (hn:H.n≤n)=>h.sP.under hn
 have uM:=fun n (hn:H.n≤n)=>h.sM.under hn
 have hb:=eq_true h.bn;have en:(Z0 [p]).length=1:=rfl;have ei:(Z3 [tk]).length=1:=rfl;have en0:(Z0 [p])[0]? = some [.str p]:=rfl;have ei0:(Z3 [tk])[0]? = some [.int .i64 tk]:=rfl;simp (maxDischargeDepth:=12) only [go_sem,reduceEqDiff,reduceAdd,reduceMul,reduceSub,reduceLeDiff,reduceCtorEq,hP.f6,hP.f7]
theorem ZaJ {H:Heap} {b o:Nat} {r:Reg} {V:RegV} (h:RegIs H b o r V) {num:Int} {kind text:Nm} {id off:Nat} {y:Pos} (hP:PtP H id off y) {p:Nm} {tk:Int} {lo:Nat} {K:AV→Heap→Prop}:VO (Z8 PT (R PT) lo 186 [.ptr b o,.ptr id off,.agg (evC num kind [p] [tk] text)] H) K=K (.int .i64 (Z9 [Z5 y.opn 9,Z5 (decide (y.closed=8)) 5])) H:=by
 obtain ⟨w,H2,h1,h2⟩:=ZaI h hP;exact ZF (en186 rfl) ⟨H2,h1⟩ (by rw [h2];rfl) rfl
theorem ZaK {H:Heap} {b o:Nat} {r:Reg} {V:RegV} (h:RegIs H b o r V) {num:Int} {kind text:Nm} {id off:Nat} {y:Pos} (hP:PtP H id off y) {p:Nm} {tk v:Int}:∃ w H2,R PT (.call H.n 188 [.ptr b o,.ptr id off,.agg (evC num kind [p] [tk,v] text)] H)=some (.ofVal w H2)∧w=.int .i64 (Z9 [ZS v 1 400,Z5 (!y.opn) 22]):=by
 refine Za (C:=PT) (f:=188) (lo:=H.n) (args:=[.ptr b o,.ptr id off,.agg (evC num kind [p] [tk,v] text)]) (H:=H) (fn:=Tryz.f188) (Q:=fun w _=>w=.int .i64 (Z9 [ZS v 1 400,Z5 (!y.opn) 22])) (by kernel_rfl) Tryz.func188 rfl rfl ?_;have l1:=fun H'=>h.l1 (H':=H')
 have l2:=fun H'=>h.l2 (H':=H')
 have l3:=fun H'=>h.l3 (H':=H')
 have l4:=fun H'=>h.l4 (H':=H')
 have l5:=fun H'=>h.l5 (H':=H')
 have nT:=fun H'=>h.sT.len (t:=43) (by kernel_rfl) H'
 have nF:=fun H'=>h.sF.len (t:=44) (by kernel_rfl) H'
 have nR:=fun H'=>h.sR.len (t:=45) (by kernel_rfl) H'
 have nP:=fun H'=>h.sP.len (t:=46) (by kernel_rfl) H'
 have nM:=fun H'=>h.sM.len (t:=47) (by kernel_rfl) H'
 simp only [List.length_map] at nT nF nR nP nM;have uT:=fun n (hn:H.n≤n)=>h.sT.under hn
 have uF:=fun n (hn:H.n≤n)=>h.sF.under hn
 have uR:=fun n (hn:H.n≤n)=>h.sR.under hn
 have uP:=fun n (hn:H.n≤n)=>h.sP.under hn
 have uM:=fun n (hn:H.n≤n)=>h.sM.under hn
 have hb:=eq_true h.bn;have en:(Z0 [p]).length=1:=rfl;have ei:(Z3 [tk,v]).length=2:=rfl;have en0:(Z0 [p])[0]? = some [.str p]:=rfl;have ei0:(Z3 [tk,v])[0]? = some [.int .i64 tk]:=rfl;have ei1:(Z3 [tk,v])[1]? = some [.int .i64 v]:=rfl;simp (maxDischargeDepth:=12) only [go_sem,reduceEqDiff,reduceAdd,reduceMul,reduceSub,reduceLeDiff,reduceCtorEq,ei,ei1,hP.f6]
theorem ZaL {H:Heap} {b o:Nat} {r:Reg} {V:RegV} (h:RegIs H b o r V) {num:Int} {kind text:Nm} {id off:Nat} {y:Pos} (hP:PtP H id off y) {p:Nm} {tk v:Int} {lo:Nat} {K:AV→Heap→Prop}:VO (Z8 PT (R PT) lo 188 [.ptr b o,.ptr id off,.agg (evC num kind [p] [tk,v] text)] H) K=K (.int .i64 (Z9 [ZS v 1 400,Z5 (!y.opn) 22])) H:=by
 obtain ⟨w,H2,h1,h2⟩:=ZaK h hP;exact ZF (en188 rfl) ⟨H2,h1⟩ (by rw [h2];rfl) rfl
theorem ZaM {H:Heap} {b o:Nat} {r:Reg} {V:RegV} (h:RegIs H b o r V) {num:Int} {kind text:Nm} {id off:Nat} {y:Pos} (hP:PtP H id off y) {p:Nm} {tk:Int} (hp:r.poss? y.name=some y) (hM:r.machs.length+3≤Z1):∃ w H2,R PT (.call H.n 190 [.ptr b o,.ptr id off,.agg (evC num kind [p] [tk] text)] H)=some (.ofVal w H2)∧w=.int .i64 (Z9 [Z5 (decide ((0:Int) < ((YI r y.name y).length:Nat))) 32,Z5 (decide (y.closed=0)) 7]):=by
 refine Za (C:=PT) (f:=190) (lo:=H.n) (args:=[.ptr b o,.ptr id off,.agg (evC num kind [p] [tk] text)]) (H:=H) (fn:=Tryz.f190) (Q:=fun w _=>w=.int .i64 (Z9 [Z5 (decide ((0:Int) < ((YI r y.name y).length:Nat))) 32,Z5 (decide (y.closed=0)) 7])) (by kernel_rfl) Tryz.func190 rfl rfl ?_;have l1:=fun H'=>h.l1 (H':=H')
 have l2:=fun H'=>h.l2 (H':=H')
 have l3:=fun H'=>h.l3 (H':=H')
 have l4:=fun H'=>h.l4 (H':=H')
 have l5:=fun H'=>h.l5 (H':=H')
 have nT:=fun H'=>h.sT.len (t:=43) (by kernel_rfl) H'
 have nF:=fun H'=>h.sF.len (t:=44) (by kernel_rfl) H'
 have nR:=fun H'=>h.sR.len (t:=45) (by kernel_rfl) H'
 have nP:=fun H'=>h.sP.len (t:=46) (by kernel_rfl) H'
 have nM:=fun H'=>h.sM.len (t:=47) (by kernel_rfl) H'
 simp only [List.length_map] at nT nF nR nP nM;have uT:=fun n (hn:H.n≤n)=>h.sT.under hn
 have uF:=fun n (hn:H.n≤n)=>h.sF.under hn
 have uR:=fun n (hn:H.n≤n)=>h.sR.under hn
 have uP:=fun n (hn:H.n≤n)=>h.sP.under hn
 have uM:=fun n (hn:H.n≤n)=>h.sM.under hn
 have hb:=eq_true h.bn;have en:(Z0 [p]).length=1:=rfl;have ei:(Z3 [tk]).length=1:=rfl;have en0:(Z0 [p])[0]? = some [.str p]:=rfl;have ei0:(Z3 [tk])[0]? = some [.int .i64 tk]:=rfl;have e3:=fun Hc (ho:Old H.n H Hc) lo K=>AS h hp hM ho (lo:=lo) (K:=K)
 simp (maxDischargeDepth:=12) only [go_sem,reduceEqDiff,reduceAdd,reduceMul,reduceSub,reduceLeDiff,reduceCtorEq,hb,hP.f0,hP.f7,e3,Zt]
theorem ZaN {H:Heap} {b o:Nat} {r:Reg} {V:RegV} (h:RegIs H b o r V) {num:Int} {kind text:Nm} {id off:Nat} {y:Pos} (hP:PtP H id off y) {p:Nm} {tk:Int} (hp:r.poss? y.name=some y) (hM:r.machs.length+3≤Z1) {lo:Nat} {K:AV→Heap→Prop}:VO (Z8 PT (R PT) lo 190 [.ptr b o,.ptr id off,.agg (evC num kind [p] [tk] text)] H) K=K (.int .i64 (Z9 [Z5 (decide ((0:Int) < ((YI r y.name y).length:Nat))) 32,Z5 (decide (y.closed=0)) 7])) H:=by
 obtain ⟨w,H2,h1,h2⟩:=ZaM h hP hp hM;exact ZF (en190 rfl) ⟨H2,h1⟩ (by rw [h2];rfl) rfl
theorem ZaO {H:Heap} {b o:Nat} {r:Reg} {V:RegV} (h:RegIs H b o r V) {num:Int} {kind text:Nm} {m p:Nm} {vs:List Int} {i:Nat} {y:Pos} (hf:At (·.name) r.poss p i y) {id bx:Nat} (he:elA V.vP 10 i=.ptr id (i * 10)) (hP:PtP H id (i * 10) y) {g:FuncId} {c:Int} (hbx:bx < H.n) (hg:H.get bx=.cells [.fn g [] []] 272) (hc:y.ret=false → ∀ Hc,Old H.n H Hc → ∀ lo K,VO (Z8 PT (R PT) lo g [.ptr b o,.ptr id (i * 10),.agg (evC num kind [p] vs text)] Hc) K=K (.int .i64 c) Hc):∃ w H2,R PT (.call H.n 273 [.ptr b o,.agg (evC num kind [p] vs text),.ptr bx 0] H)=some (.ofVal w H2)∧w=.int .i64 (if y.ret then 23 else c):=by
 refine Za (C:=PT) (f:=273) (lo:=H.n) (args:=[.ptr b o,.agg (evC num kind [p] vs text),.ptr bx 0]) (H:=H) (fn:=Tryz.f273) (Q:=fun w _=>w=.int .i64 (if y.ret then 23 else c)) (by kernel_rfl) Tryz.func273 rfl rfl ?_
 have en:(Z0 [p]).length=1:=rfl;have enl:(Z0 [p])[0]? = some [.str p]:=rfl;have hw:Zk .i64 (Int.sub (1:Nat) 1)=((0:Nat):Int):=rfl;have hne:(bx=H.n)=False:=eq_false (by omega);have e1:=fun Hc (ho:Old H.n H Hc) lo K=>XK h hf.idx hf.lt ho (lo:=lo) (K:=K)
 cases hr:y.ret with
 | true =>
   have hr4:=fun (H':Heap) (ho:Old H.n H H')=>hP.f4 ho
   rw [hr] at hr4;simp (maxDischargeDepth:=12) only [go_sem,reduceEqDiff,reduceAdd,reduceCtorEq,en,enl,hw,e1,he,hr4]
 | false =>
   have hr4:=fun (H':Heap) (ho:Old H.n H H')=>hP.f4 ho
   rw [hr] at hr4;have hc:=hc hr;simp (maxDischargeDepth:=12) only [go_sem,reduceEqDiff,reduceAdd,reduceCtorEq,en,enl,hw,e1,he,hr4,hne,hg,hc]
theorem Vn {H:Heap} {b o:Nat} {r:Reg} {V:RegV} (h:RegIs H b o r V) {num:Int} {kind text:Nm} {m p:Nm} {vs:List Int} {i:Nat} {y:Pos} (hf:At (·.name) r.poss p i y) {id bx:Nat} (he:elA V.vP 10 i=.ptr id (i * 10)) (hP:PtP H id (i * 10) y) {g:FuncId} {c:Int} (hbx:bx < H.n) (hg:H.get bx=.cells [.fn g [] []] 272) (hc:y.ret=false → ∀ Hc,Old H.n H Hc → ∀ lo K,VO (Z8 PT (R PT) lo g [.ptr b o,.ptr id (i * 10),.agg (evC num kind [p] vs text)] Hc) K=K (.int .i64 c) Hc) {lo:Nat} {K:AV→Heap→Prop}:VO (Z8 PT (R PT) lo 273 [.ptr b o,.agg (evC num kind [p] vs text),.ptr bx 0] H) K=K (.int .i64 (if y.ret then 23 else c)) H:=by
 obtain ⟨w,H2,h1,h2⟩:=ZaO (m:=m) h hf he hP hbx hg hc;exact ZF (LS rfl) ⟨H2,h1⟩ (by rw [h2];rfl) rfl
theorem ZaP {H:Heap} {b o:Nat} {r:Reg} {V:RegV} (h:RegIs H b o r V) {num:Int} {kind text:Nm} {m p:Nm} {vs:List Int} {i:Nat} {y:Pos} (hf:At (·.name) r.poss p i y) {id bx:Nat} (he:elA V.vP 10 i=.ptr id (i * 10)) (hP:PtP H id (i * 10) y) {g:FuncId} {c:Int} (hbx:bx < H.n) (hg:H.get bx=.cells [.fn g [] []] 272) (hc:y.ret=false → ∀ Hc,Old H.n H Hc → ∀ lo K,VO (Z8 PT (R PT) lo g [.ptr b o,.ptr id (i * 10),.agg (evC num kind [m,p] vs text)] Hc) K=K (.int .i64 c) Hc):∃ w H2,R PT (.call H.n 273 [.ptr b o,.agg (evC num kind [m,p] vs text),.ptr bx 0] H)=some (.ofVal w H2)∧w=.int .i64 (if y.ret then 23 else c):=by
 refine Za (C:=PT) (f:=273) (lo:=H.n) (args:=[.ptr b o,.agg (evC num kind [m,p] vs text),.ptr bx 0]) (H:=H) (fn:=Tryz.f273) (Q:=fun w _=>w=.int .i64 (if y.ret then 23 else c)) (by kernel_rfl) Tryz.func273 rfl rfl ?_
 have en:(Z0 [m,p]).length=2:=rfl;have enl:(Z0 [m,p])[1]? = some [.str p]:=rfl;have hw:Zk .i64 (Int.sub (2:Nat) 1)=((1:Nat):Int):=rfl;have hne:(bx=H.n)=False:=eq_false (by omega);have e1:=fun Hc (ho:Old H.n H Hc) lo K=>XK h hf.idx hf.lt ho (lo:=lo) (K:=K)
 cases hr:y.ret with
 | true =>
   have hr4:=fun (H':Heap) (ho:Old H.n H H')=>hP.f4 ho
   rw [hr] at hr4;simp (maxDischargeDepth:=12) only [go_sem,reduceEqDiff,reduceAdd,reduceCtorEq,en,enl,hw,e1,he,hr4]
 | false =>
   have hr4:=fun (H':Heap) (ho:Old H.n H H')=>hP.f4 ho
   rw [hr] at hr4;have hc:=hc hr;simp (maxDischargeDepth:=12) only [go_sem,reduceEqDiff,reduceAdd,reduceCtorEq,en,enl,hw,e1,he,hr4,hne,hg,hc]
theorem ZaQ {H:Heap} {b o:Nat} {r:Reg} {V:RegV} (h:RegIs H b o r V) {num:Int} {kind text:Nm} {m p:Nm} {vs:List Int} {i:Nat} {y:Pos} (hf:At (·.name) r.poss p i y) {id bx:Nat} (he:elA V.vP 10 i=.ptr id (i * 10)) (hP:PtP H id (i * 10) y) {g:FuncId} {c:Int} (hbx:bx < H.n) (hg:H.get bx=.cells [.fn g [] []] 272) (hc:y.ret=false → ∀ Hc,Old H.n H Hc → ∀ lo K,VO (Z8 PT (R PT) lo g [.ptr b o,.ptr id (i * 10),.agg (evC num kind [m,p] vs text)] Hc) K=K (.int .i64 c) Hc) {lo:Nat} {K:AV→Heap→Prop}:VO (Z8 PT (R PT) lo 273 [.ptr b o,.agg (evC num kind [m,p] vs text),.ptr bx 0] H) K=K (.int .i64 (if y.ret then 23 else c)) H:=by
 obtain ⟨w,H2,h1,h2⟩:=ZaP (m:=m) h hf he hP hbx hg hc;exact ZF (LS rfl) ⟨H2,h1⟩ (by rw [h2];rfl) rfl
variable {te:TypeId}
structure HisIs (te:TypeId) (H:Heap) (hb:Nat) (es cs:List Ev) (r:Reg) (V:RegV) (vE vC:AV):Prop where
 blk:H.get hb=.cells (vE::vC::Zr r V) te
 reg:RegIs H hb 2 r V
 aE:Pos.SV 5 53 H vE (es.map Pos.Ev.row)
 aC:Pos.SV 5 53 H vC (cs.map Pos.Ev.row)
 dis:∀ i j a b c d a' b' c' d',vE=.rs i a b c d→vC=.rs j a' b' c' d'→i ≠ j
 lE:es.length≤1000
 lC:cs.length≤1000
section
variable {H H':Heap} {hb:Nat} {es cs:List Ev} {r:Reg} {V:RegV} {vE vC:AV}
theorem HisIs.old (h:HisIs te H hb es cs r V vE vC) (ho:Old H.n H H'):HisIs te H' hb es cs r V vE vC :=
 ⟨by rw [ho.2 hb h.reg.bn];exact h.blk,h.reg.old ho,Gd h.aE ho,Gd h.aC ho,h.dis,h.lE,h.lC⟩
theorem HisIs.ld (h:HisIs te H hb es cs r V vE vC) {i:Nat} {v:AV} (hi:(vE::vC::Zr r V)[i]? = some v) {t:TypeId} (hs:(Zh NC.P t).isSome=true) (hg:aggOf NC.P t=some false) (ho:Old H.n H H'):sld H' t (.ptr hb i)=some v:=by
 have hlt:i < (vE::vC::Zr r V).length:=(List.getElem?_eq_some_iff.1 hi).1;obtain ⟨n,hn⟩:=Option.isSome_iff_exists.1 hs;have hsub:Yp (vE::vC::Zr r V) i 1=some [v]:=by
  unfold Yp;rw [if_pos (by omega),List.drop_eq_getElem_cons hlt,(List.getElem?_eq_some_iff.1 hi).2];rfl
 show Yk NC.P H' t (.ptr hb i)=some v;unfold Yk;simp only [hn,hg,YT,ho.2 hb h.reg.bn,h.blk,XM,if_false,hsub,QY,Bool.false_eq_true]
theorem HisIs.h0 (h:HisIs te H hb es cs r V vE vC) (ho:Old H.n H H'):sld H' 22 (.ptr hb 0)=some vE:=h.ld (i:=0) rfl (by kernel_rfl) (by kernel_rfl) ho
theorem HisIs.h1 (h:HisIs te H hb es cs r V vE vC) (ho:Old H.n H H'):sld H' 22 (.ptr hb 1)=some vC:=h.ld (i:=1) rfl (by kernel_rfl) (by kernel_rfl) ho
theorem HisIs.h2 (h:HisIs te H hb es cs r V vE vC) (ho:Old H.n H H'):sld H' 3 (.ptr hb 2)=some (.int .i64 r.tick):=h.ld (i:=2) rfl (by kernel_rfl) (by kernel_rfl) ho
end
theorem ZaR {H:Heap} {b o:Nat} {r:Reg} {V:RegV} (h:RegIs H b o r V) {nm:List Nat} {fv:Int} {f1 f2:FuncId} {l1 l2:List AV} {num:Int} {kind text:Nm} {names:List Nm} {vals:List Int} (hb:∀ c ∈ nm,c < 128) (hl:names.length=nm.length) (hs:nm.length≤2) {Hc:Heap} (ho:Old H.n H Hc) {lo:Nat} {K:AV→Heap→Prop}:VO (Z8 PT (R PT) lo 231 [.ptr b o,.agg [.str nm,.int .i64 fv,.fn f1 [] l1,.fn f2 [] l2],.agg (evC num kind names vals text)] Hc) K=K (.int .i64 (Zq r nm names false)) Hc:=by
 obtain ⟨w,H2,h1,h2⟩:=Zag (h.old ho) (fv:=fv) (f1:=f1) (f2:=f2) (l1:=l1) (l2:=l2) (e:=⟨num,kind,names,vals,text⟩) hb hl hs rfl;exact ZF (en231 rfl) ⟨H2,h1⟩ (by rw [h2];rfl) rfl
theorem en105:ZG 105:=ZI
theorem ZaS {H:Heap} {hb:Nat} {es cs:List Ev} {r:Reg} {V:RegV} {vE vC:AV} (h:HisIs te H hb es cs r V vE vC) {num tk:Int} {kind text:Nm} {names:List Nm} {vs:List Int} (hk:kind ≠ Pos.ZN)
 {nm:List Nat} {fv c:Int} {f1 f2:FuncId} {l1 l2:Nat→List AV} (hlk:∀ n,lkS kind (Ji n)=some (.agg [.str nm,.int .i64 fv,.fn f1 [] (l1 n),.fn f2 [] (l2 n)])) (hst:∀ n,(l1 n).map ZO=l1 n) (hu1:∀ n m,n+17≤m→Yi m (l1 n)=true) (hu2:∀ n m,n+17≤m→Yi m (l2 n)=true)
 (hb1:∀ x ∈ nm,x < 128) (hl:names.length=nm.length) (hs:nm.length≤2)
 (hchk:Zq r nm names false=0 → ∀ n Hc,FormsAt n Hc→n+17≤Hc.n→Old H.n H Hc → ∀ lo K,VO (Z8 PT (R PT) lo f1 (.ptr hb 2 :: .agg (evC num kind names (tk::vs) text)::l1 n) Hc) K=K (.int .i64 c) Hc) :
 ∃ w H2,R PT (.call H.n 105 [.ptr hb 0,.agg (evC num kind names (tk::vs) text)] H)=some (.ofVal w H2)∧w=.int .i64 (if num ≠ (es.length:Int)+1 then 11 else if tk < r.tick then 22 else if Zq r nm names false ≠ 0 then Zq r nm names false else c):=by
 refine Za (C:=PT) (f:=105) (lo:=H.n) (args:=[.ptr hb 0,.agg (evC num kind names (tk::vs) text)]) (H:=H) (fn:=Tryz.f105) (Q:=fun w _=>w=.int .i64 (if num ≠ (es.length:Int)+1 then 11 else if tk < r.tick then 22 else if Zq r nm names false ≠ 0 then Zq r nm names false else c)) (by kernel_rfl) Tryz.func105 rfl rfl ?_
 have hh0:=fun H'=>h.h0 (H':=H')
 have hh2:=fun H'=>h.h2 (H':=H')
 have nE:=fun H'=>(Q7 h.aE).len (t:=22) (by kernel_rfl) H'
 simp only [List.length_map] at nE;have uE:=fun n (hn:H.n≤n)=>(Q7 h.aE).under hn
 have hbn:=eq_true h.reg.bn;have hw:Zk .i64 (Int.add (es.length:Int) 1)=(es.length:Int)+1:=by
  have:=h.lE;exact Ym (n:=es.length+1) (by omega)
 have hku:Z6 kind [117,110,100,111]=false:=by rw [Yu];exact decide_eq_false hk
 have ei:(0 < (Z3 (tk::vs)).length)=True:=eq_true (by rw [Y4];exact Nat.succ_pos _);have ei0:(Z3 (tk::vs))[0]? = some [.int .i64 tk]:=rfl;by_cases c1:¬ num=(es.length:Int)+1
 · rw [if_pos c1];simp (maxDischargeDepth:=12) only [go_sem,reduceEqDiff,reduceAdd,reduceSub,reduceCtorEq,hh0,nE,hw,c1]
 rw [if_neg c1];have c1:=Decidable.not_not.1 c1;by_cases c2:tk < r.tick
 · rw [if_pos c2];simp (maxDischargeDepth:=12) only [go_sem,reduceEqDiff,reduceAdd,reduceSub,reduceCtorEq,hh0,hh2,nE,hw,eq_true c1,eq_true c2,hku,ei,ei0]
 rw [if_neg c2];have hO1:Old H.n H (H.push (.cells (evC num kind names (tk::vs) text) 53)):=(Old.refl H).push _;obtain ⟨H',hr,hn',hk',hF⟩:=Ve (P:=PPT) (by rfl) (by rfl) (H.n+1) (H.push (.cells (evC num kind names (tk::vs) text) 53)) (Nat.le_refl _);have hlk2:=(KF hF.map (KG _) kind).2;have hn1:(H.push (.cells (evC num kind names (tk::vs) text) 53)).n=H.n+1:=rfl;rw [hn1] at hr hn' hlk2 hF;rw [hlk] at hlk2;have hO2:Old H.n H H':=⟨by omega,fun i hi=>by rw [hk' i (by rw [hn1];omega),hO1.2 i hi]⟩;have hev:H'.get H.n=.cells (evC num kind names (tk::vs) text) 53:=by rw [hk' _ (by rw [hn1];omega),U4]
 have hHc:Old H.n H ((H'.push (.cells [.str [],.int .i64 0,.nilf,.nilf] 175)).set H'.n (.cells [.str nm,.int .i64 fv,.fn f1 [] (l1 (H.n+1)),.fn f2 [] (l2 (H.n+1))] 175)):=hO2.new _ _;have hkn:=fun lo K=>ZaR h.reg (fv:=fv) (f1:=f1) (f2:=f2) (l1:=l1 (H.n+1)) (l2:=l2 (H.n+1)) (num:=num) (kind:=kind) (text:=text) (vals:=tk::vs) hb1 hl hs hHc (lo:=lo) (K:=K)
 have u1:=hu1 (H.n+1) (H'.n+1) (by omega);have u2:=hu2 (H.n+1) (H'.n+1) (by omega);have hbn':(hb < H'.n+1)=True:=eq_true (by have:=h.reg.bn;omega);have hne:(H.n=H'.n)=False:=eq_false (by omega);have hle:(H.n≤H'.n)=True:=eq_true (by omega);have hst1:=hst (H.n+1);have hlt1:(H.n+1 < H'.n)=True:=eq_true (by omega);by_cases c3:Zq r nm names false=0
 · rw [if_neg (by simpa using c3)];have hck:=fun lo K=>hchk c3 (H.n+1) _ ⟨by rw [Heap.get_set,if_neg (by omega),Heap.get_push,if_neg (by omega)];exact hF.map,fun j j1 j2=>by rw [Heap.get_set,if_neg (by omega),Heap.get_push,if_neg (by omega)];exact hF.box j j1 j2⟩ (by simp;omega) hHc lo K
   simp (maxDischargeDepth:=12) only [go_sem,reduceEqDiff,reduceAdd,reduceSub,reduceCtorEq,hh0,hh2,nE,hw,eq_true c1,c2,hku,ei,ei0,Xk (P:=PPT) rfl,hr,hev,hlk2,hkn,hck,u1,u2,hbn',hne,hle,hlt1,hst1,eq_true c3]
 · rw [if_pos c3];simp (maxDischargeDepth:=12) only [go_sem,reduceEqDiff,reduceAdd,reduceSub,reduceCtorEq,hh0,hh2,nE,hw,eq_true c1,c2,hku,ei,ei0,Xk (P:=PPT) rfl,hr,hev,hlk2,hkn,u1,u2,hbn',hne,hle,hlt1,c3]
end Go.Sim

namespace Go.Sim
open Go Go.Proofs
open Go.Sim.Pos (Nm Trk Flt Trn Pos Mch Reg Ev)
set_option maxRecDepth 100000
set_option maxHeartbeats 8000000
variable {te:TypeId}
theorem LU {l:List Nm} (h:(ZV 32 l).length≤1000000) (hl:l.length≤Z1):Jb [.ps .unk (Z0 l),.str [32]]=some (.str (ZV 32 l)):=L6 (by unfold Z1;omega) hl
theorem LV:ZG 103:=ZI
theorem ZaT {H:Heap} {hb:Nat} {es cs:List Ev} {r:Reg} {V:RegV} {vE vC:AV} (h:HisIs te H hb es cs r V vE vC) {g:FuncId} {rest l:List Nm} (hg:∀ Hc,Old H.n H Hc → ∀ lo K,VO (Z8 PT (R PT) lo g [.ptr hb 2,.str []] Hc) K=K (.ps .unk (Z0 l)) Hc)
 (hj:rest=[]→(ZV 32 l).length≤1000000) (hl:l.length≤Z1) {Hc:Heap} (ho:Old H.n H Hc) {lo:Nat} {K:AV→Heap→Prop} :
 VO (Z8 PT (R PT) lo 103 [.ptr hb 0,.agg [.int .u8 0,.fn g [] []],.ps .unk (Z0 rest)] Hc) K=K (.tup [.str (if rest=[] then Pos.Q3 l else []),i64 (if rest=[] then 0 else 25)]) Hc:=by
 have h':=h.old ho;obtain ⟨w,H2,h1,h2⟩:=Za (C:=PT) (f:=103) (lo:=Hc.n) (args:=[.ptr hb 0,.agg [.int .u8 0,.fn g [] []],.ps .unk (Z0 rest)]) (H:=Hc) (fn:=Tryz.f103) (Q:=fun w _=>w=.tup [.str (if rest=[] then Pos.Q3 l else []),i64 (if rest=[] then 0 else 25)]) (by kernel_rfl) Tryz.func103 rfl rfl (by
  have hg':=fun lo K=>hg _ (ho.to ((Old.refl Hc).push (.cells [.int .u8 0,.fn g [] []] 212))) lo K
  have z0:((0:Int) < 0)=False:=eq_false (by decide);have z1:((0:Int)=0)=True:=eq_true rfl;by_cases hr:rest=[]
  · subst hr;have hj:=LU (hj rfl) hl;have hs:Z0 []=[]:=rfl;by_cases hl0:l=[]
    · subst hl0;simp (maxDischargeDepth:=12) only [go_sem,reduceEqDiff,reduceAdd,reduceSub,reduceCtorEq,hg',hs,if_true,Pos.Q3,z0];try rfl
    · have hll:(((Z0 l).length:Int)=0)=False:=by
       rw [Zt];exact eq_false (fun h=>hl0 (List.length_eq_zero_iff.1 (by omega)))
      simp (maxDischargeDepth:=12) only [go_sem,reduceEqDiff,reduceAdd,reduceSub,reduceCtorEq,hg',hs,hj,hl0,hll,if_true,if_false,Pos.Q3,z0];try rfl
  · have hrl:((0:Int) < ((Z0 rest).length:Int))=True:=by
     rw [Zt];exact eq_true (by have:=List.length_pos_iff.2 hr;omega)
    simp (maxDischargeDepth:=12) only [go_sem,reduceEqDiff,reduceAdd,reduceCtorEq,hr,hrl];try rfl)
 exact ZF (LV rfl) ⟨H2,h1⟩ (by rw [h2];rfl) rfl
def JI (names:List Nm) (F:Nm→List Nm):List Nm→Nm × Int
 | [x]=>if x=[] then ([],25) else if x ∈ names then (Pos.Q3 (F x),0) else ([],10)
 | _=>([],25)
theorem LW {H:Heap} {hb:Nat} {es cs:List Ev} {r:Reg} {V:RegV} {vE vC:AV} (h:HisIs te H hb es cs r V vE vC) {c:Int} (hc:c=116∨c=112) {g:FuncId} {rest:List Nm} {F:Nm→List Nm}
 (hg:∀ x,rest=[x]→x ≠ []→x ∈ Zz r c→((ZV 32 (F x)).length≤1000000∧(F x).length≤Z1) ∧ ∀ Hc,Old H.n H Hc → ∀ lo K,VO (Z8 PT (R PT) lo g [.ptr hb 2,.str x] Hc) K=K (.ps .unk (Z0 (F x))) Hc)
 (hnl:(Zz r c).length≤Z1) {Hc:Heap} (ho:Old H.n H Hc) {lo:Nat} {K:AV→Heap→Prop} :
 VO (Z8 PT (R PT) lo 103 [.ptr hb 0,.agg [.int .u8 c,.fn g [] []],.ps .unk (Z0 rest)] Hc) K=K (.tup [.str (JI (Zz r c) F rest).1,i64 (JI (Zz r c) F rest).2]) Hc:=by
 have h':=h.old ho;obtain ⟨w,H2,h1,h2⟩:=Za (C:=PT) (f:=103) (lo:=Hc.n) (args:=[.ptr hb 0,.agg [.int .u8 c,.fn g [] []],.ps .unk (Z0 rest)]) (H:=Hc) (fn:=Tryz.f103) (Q:=fun w _=>w=.tup [.str (JI (Zz r c) F rest).1,i64 (JI (Zz r c) F rest).2]) (by kernel_rfl) Tryz.func103 rfl rfl (by
  have hO1:=ho.to ((Old.refl Hc).push (.cells [.int .u8 c,.fn g [] []] 212));have hbn:(hb < Hc.n+1)=True:=eq_true (by have:=h'.reg.bn;omega);have z0:((0:Int) < 0)=False:=eq_false (by decide);have z1:((0:Int)=0)=True:=eq_true rfl;have zc:(c=0)=False:=eq_false (by omega);have bad:rest.length ≠ 1→JI (Zz r c) F rest=([],25):=fun hn=>by
   match rest,hn with
   | [],_=>rfl
   | _::_::_,_=>rfl
   | [x],hn=>exact absurd rfl hn
  by_cases h1:rest.length=1
  case neg =>
   rw [bad h1];have hrl:(((Z0 rest).length:Int)=1)=False:=by rw [Zt];exact eq_false (by omega)
   simp (maxDischargeDepth:=12) only [go_sem,reduceEqDiff,reduceAdd,reduceCtorEq,zc,hrl];try rfl
  obtain ⟨x,rfl⟩:=List.length_eq_one_iff.1 h1;have hs:Z0 [x]=[[.str x]]:=rfl;have z2:(((1:Nat):Int)=1)=True:=eq_true rfl;have ev:JI (Zz r c) F [x]=if x=[] then ([],25) else if x ∈ Zz r c then (Pos.Q3 (F x),0) else ([],10):=rfl
  rw [ev];clear ev;by_cases hx:x=[]
  · subst hx;have hb2:Z6 ([]:List Nat) []=true:=rfl;simp (maxDischargeDepth:=12) only [go_sem,reduceEqDiff,reduceAdd,reduceCtorEq,zc,hs,z2,hb2,if_true];try rfl
  have hb2:Z6 x []=false:=by rw [YV];simpa using hx
  rw [if_neg hx];have hnm:=fun lo K=>KK h.reg c hO1 (lo:=lo) (K:=K)
  have hct:=CZ (Zz r c) x hnl;by_cases hm:x ∈ Zz r c
  · rw [if_pos hm];obtain ⟨⟨hj,hl⟩,hgx⟩:=hg x rfl hx hm;have hg':=fun lo K=>hgx _ hO1 lo K
    have hj:=LU hj hl;have hm':=eq_true hm;by_cases hl0:F x=[]
    · have hs2:Z0 (F x)=[]:=by rw [hl0];rfl
      have hjd:Pos.Q3 (F x)=Pos.If:=by unfold Pos.Q3;rw [if_pos hl0]
      rw [hjd];rw [hs2] at hg';simp (maxDischargeDepth:=12) only [go_sem,reduceEqDiff,reduceAdd,reduceSub,reduceCtorEq,zc,hs,z2,hb2,hbn,hnm,hct,hm',hg'];try rfl
    · have hll:(((Z0 (F x)).length:Int)=0)=False:=by
       rw [Zt];exact eq_false (fun h=>hl0 (List.length_eq_zero_iff.1 (by omega)))
      have hjd:Pos.Q3 (F x)=ZV 32 (F x):=by unfold Pos.Q3;rw [if_neg hl0]
      rw [hjd];simp (maxDischargeDepth:=12) only [go_sem,reduceEqDiff,reduceAdd,reduceSub,reduceCtorEq,zc,hs,z2,hb2,hbn,hnm,hct,hm',hg',hll,hj];try rfl
  · rw [if_neg hm];simp (maxDischargeDepth:=12) only [go_sem,reduceEqDiff,reduceAdd,reduceSub,reduceCtorEq,zc,hs,z2,hb2,hbn,hnm,hct,hm];try rfl)
 exact ZF (LV rfl) ⟨H2,h1⟩ (by rw [h2];rfl) rfl
end Go.Sim

namespace Go.Sim
open Go Go.Proofs
open Go.Sim.Pos (Nm Trk Flt Trn Pos Mch Reg Ev)
set_option maxRecDepth 100000
set_option maxHeartbeats 8000000
theorem LX {α:Type} {nm:α→Nm} {x:Nm} {l:List α} {y:α} (h:(l.find? fun z=>decide (nm z=x))=some y):x ∈ l.map nm∧nm y=x:=by
 have h1:=List.find?_some h;have h2:=List.mem_of_find?_eq_some h;have h3:nm y=x:=by simpa using h1
 exact ⟨List.mem_map.2 ⟨y,h2,h3⟩,h3⟩
theorem Fk {α:Type} {nm:α→Nm} {x:Nm} {l:List α} (h:(l.find? fun z=>decide (nm z=x))=none):x ∉ l.map nm:=by
 rw [List.find?_eq_none] at h;intro hm;obtain ⟨y,hy,rfl⟩:=List.mem_map.1 hm;exact h y hy (by simp)
def Vo (r:Reg) (x:Nm):List Nm:=match r.poss? x with
 | some p=>YI r x p
 | none=>[]
theorem ZaU {r:Reg} {x:Nm} {p:Pos} (h:p.name=x):YI r x p=Pos.F1 r p:=by
 subst h;unfold YI Pos.F1;simp only [List.append_assoc];rfl
theorem ZaV (r:Reg) (rest:List Nm):Pos.JE r (Pos.Ky::rest)=JI (Zz r 116) (fun x=>[Zi (r.permitted x)]) rest:=by
 have h0:Pos.K6 r Pos.Ky=none:=by
  unfold Pos.K6;rw [if_neg (by decide),if_neg (by decide),if_neg (by decide)]
 have h1:∀ x,Pos.KA r Pos.Ky x=some ((r.track? x).map fun _=>[Zi (r.permitted x)]):=fun x=>by unfold Pos.KA;rw [if_pos rfl]
 unfold Pos.JE;simp only [h0,h1]
 match rest with
 | []=>rfl
 | _::_::_=>rfl
 | [x] =>
   show (if x=[] then _ else _)=(if x=[] then _ else _)
   by_cases hx:x=[]
   · rw [if_pos hx,if_pos hx]
   rw [if_neg hx,if_neg hx];have hn:Zz r 116=r.tracks.map (·.name):=if_pos rfl;rw [hn];cases hf:r.track? x with
   | none=>rw [if_neg (Fk (nm:=fun z:Trk=>z.name) (l:=r.tracks) hf)];rfl
   | some y=>rw [if_pos (LX (nm:=fun z:Trk=>z.name) (l:=r.tracks) hf).1];rfl
theorem ZaW (r:Reg) (rest:List Nm):Pos.JE r (Pos.Kz::rest)=JI (Zz r 112) (Vo r) rest:=by
 have h0:Pos.K6 r Pos.Kz=none:=by
  unfold Pos.K6;rw [if_neg (by decide),if_neg (by decide),if_neg (by decide)]
 have h1:∀ x,Pos.KA r Pos.Kz x=some ((r.poss? x).map fun p=>Pos.F1 r p):=fun x=>by
  unfold Pos.KA;rw [if_neg (by decide),if_neg (by decide),if_pos rfl]
 unfold Pos.JE;simp only [h0,h1]
 match rest with
 | []=>rfl
 | _::_::_=>rfl
 | [x] =>
   show (if x=[] then _ else _)=(if x=[] then _ else _)
   by_cases hx:x=[]
   · rw [if_pos hx,if_pos hx]
   rw [if_neg hx,if_neg hx];have hn:Zz r 112=r.poss.map (·.name):=rfl;rw [hn];unfold Vo;cases hf:r.poss? x with
   | none=>rw [if_neg (Fk (nm:=fun z:Pos=>z.name) (l:=r.poss) hf)];rfl
   | some y =>
     obtain ⟨h2,h3⟩:=LX (nm:=fun z:Pos=>z.name) (l:=r.poss) hf;rw [if_pos h2];simp only [Option.map_some,ZaU h3]
theorem ZaX (r:Reg) (rest:List Nm):Pos.JE r (Pos.Vb::rest)=(if rest=[] then Pos.Q3 ((r.faults.filter Flt.silent).map (·.name)) else [],if rest=[] then 0 else 25):=by
 have h0:Pos.K6 r Pos.Vb=some ((r.faults.filter Flt.silent).map (·.name)):=by unfold Pos.K6;rw [if_pos rfl]
 unfold Pos.JE;simp only [h0];by_cases h:rest=[]
 · rw [if_pos h,if_pos h,if_pos h]
 · rw [if_neg h,if_neg h,if_neg h]
theorem ZaY {r:Reg} {w:Nm} {rest:List Nm} (h:lkS w Jm=none):Pos.JE r (w::rest)=([],13):=by
 unfold Jm at h;simp only [lkS] at h;have go:∀ {p:Prop} [Decidable p] {a:AV} {b:Option AV},(if p then some a else b)=none → ¬ p∧b=none:=fun {p} _ {a b} h=>by
  split at h
  · cases h
  · exact ⟨‹_›,h⟩
 obtain ⟨n1,h⟩:=go h;obtain ⟨n2,h⟩:=go h;obtain ⟨n3,h⟩:=go h;obtain ⟨n4,h⟩:=go h;obtain ⟨n5,h⟩:=go h;obtain ⟨n6,h⟩:=go h;obtain ⟨n7,h⟩:=go h;have h0:Pos.K6 r w=none:=by unfold Pos.K6;rw [if_neg n5,if_neg n6,if_neg n7]
 have h1:Pos.KA r w []=none:=by unfold Pos.KA;rw [if_neg n1,if_neg n2,if_neg n3,if_neg n4]
 unfold Pos.JE;simp only [h0,h1]
def AT (s:Pos.Ses) (line:Nm):Bool:=match Zu 32 line with
 | []=>true
 | w::rest=>(!decide (w=Pos.UP) && !decide (w=Pos.UQ) && !decide (w=Pos.UR) && !decide (w=Pos.US)) && (decide ((Pos.JE s.j.reg (w::rest)).1.length≤1000000) && (decide (s.j.reg.machs.length≤1000) && match rest with
   | [x]=>decide (-9223372036854775808≤s.j.reg.permitted x) && decide (s.j.reg.permitted x≤9223372036854775807)
   | _=>true))
theorem ZaZ (w:Nm):lkS w Jm=none∨(w=Pos.Ky∧lkS w Jm=some (.agg [.int .u8 116,.fn 211 [] []]))∨w=Pos.UP∨(w=Pos.Kz∧lkS w Jm=some (.agg [.int .u8 112,.fn 216 [] []]))∨w=Pos.UQ∨(w=Pos.Vb∧lkS w Jm=some (.agg [.int .u8 0,.fn 218 [] []]))∨w=Pos.UR∨w=Pos.US:=by
 by_cases h1:w=Pos.Ky
 · subst h1;exact .inr (.inl ⟨rfl,by rfl⟩)
 by_cases h2:w=Pos.UP
 · exact .inr (.inr (.inl h2))
 by_cases h3:w=Pos.Kz
 · subst h3;exact .inr (.inr (.inr (.inl ⟨rfl,by rfl⟩)))
 by_cases h4:w=Pos.UQ
 · exact .inr (.inr (.inr (.inr (.inl h4))))
 by_cases h5:w=Pos.Vb
 · subst h5;exact .inr (.inr (.inr (.inr (.inr (.inl ⟨rfl,by rfl⟩)))))
 by_cases h6:w=Pos.UR
 · exact .inr (.inr (.inr (.inr (.inr (.inr (.inl h6))))))
 by_cases h7:w=Pos.US
 · exact .inr (.inr (.inr (.inr (.inr (.inr (.inr h7))))))
 refine .inl ?_;unfold Jm;simp only [lkS];rw [if_neg h1,if_neg h2,if_neg h3,if_neg h4,if_neg h5,if_neg h6,if_neg h7]
end Go.Sim

namespace Go.Sim.Pos
open Go.Sim
def Zf (num tk:Int):Act→Ev
 | .track t v=>⟨num,XR,[t],[tk,v],[]⟩
 | .fault f t a b v=>⟨num,XI,[f,t],[tk,a,b,v],[]⟩
 | .answer f=>⟨num,Xg,[f],[tk],[]⟩
 | .repair f p=>⟨num,X6,[f,p],[tk],[]⟩
 | .enter x t v=>⟨num,Yo,[x,t],[tk,v],[]⟩
 | .leave x=>⟨num,YW,[x],[tk],[]⟩
 | .take p t a b=>⟨num,Xr,[p,t],[tk,a,b],[]⟩
 | .prot p=>⟨num,YA,[p],[tk],[]⟩
 | .clear p=>⟨num,YB,[p],[tk],[]⟩
 | .into m p=>⟨num,kIn,[m,p],[tk],[]⟩
 | .out m=>⟨num,YC,[m],[tk],[]⟩
 | .staff p v=>⟨num,YD,[p],[tk,v],[]⟩
 | .off p v=>⟨num,YE,[p],[tk,v],[]⟩
 | .opn p=>⟨num,YF,[p],[tk],[]⟩
 | .close p v=>⟨num,YG,[p],[tk,v],[]⟩
 | .ret p=>⟨num,Y7,[p],[tk],[]⟩
 | .raise p v=>⟨num,YH,[p],[tk,v],[]⟩
theorem ev_of {e:Ev} {tk:Int} {a:Act} (ht:e.text=[]) (ha:Qg e=some (tk,a)):e=Zf e.num tk a:=by
 obtain ⟨num,kind,names,vals,text⟩:=e;simp only at ht;subst ht;have go:∀ {p:Prop} [Decidable p] {u v:Option TA},(if p then u else v)=some (tk,a)→(p∧u=some (tk,a))∨v=some (tk,a):=fun {p} _ {u v} h=>by
  split at h
  · exact .inl ⟨‹_›,h⟩
  · exact .inr h
 unfold Qg at ha;simp only at ha
 iterate 17
  rcases go ha with ⟨hk,hu⟩ | ha
  · split at hu
    · cases hu;rw [hk];rfl
    · cases hu
 cases ha
theorem Fl (nm:Nm→Bool) {e:Ev} (h:Zp nm e=0) (hu:e.kind ≠ ZN):∃ tk a,Qg e=some (tk,a)∧e=Zf e.num tk a∧0≤tk∧tk≤999999999:=by
 obtain ⟨a,ha⟩:=Z5g nm h hu;obtain ⟨_,_,_,_,_,_,_,ht,_⟩:=Kw nm h;obtain ⟨h1,h2,_⟩:=Z5l nm h ha;exact ⟨_,a,ha,ev_of ht ha,h1,h2⟩
theorem LY (nm:Nm→Bool) {e:Ev} (h:Zp nm e=0) (hu:e.kind=ZN):e=⟨e.num,ZN,[],[],[]⟩:=by
 obtain ⟨_,_,_,_,_,_,_,ht,_⟩:=Kw nm h;rcases VP nm h with ⟨h1,h2,h3⟩ | ⟨h1,_⟩
 · obtain ⟨num,kind,names,vals,text⟩:=e;simp only at h1 h2 h3 ht;rw [h1,h2,h3,ht]
 · exact absurd hu h1
theorem Ge {α:Type} {nm:α→Nm} {x:Nm} {l:List α}:x ∈ l.map nm ↔ (l.find? fun y=>decide (nm y=x)).isSome=true:=by
 constructor
 · intro h;obtain ⟨y,hy,rfl⟩:=List.mem_map.1 h;cases hf:l.find? fun z=>decide (nm z=nm y) with
   | some z=>rfl
   | none =>
     rw [List.find?_eq_none] at hf;have:=hf y hy;simp at this
 · intro h;obtain ⟨y,hy⟩:=Option.isSome_iff_exists.1 h;have h1:=List.mem_of_find?_eq_some hy;have h2:=List.find?_some hy;simp only [decide_eq_true_eq] at h2;rw [← h2];exact List.mem_map_of_mem h1
theorem KL (r:Reg) (x:Nm):(x ∈ Zz r 116)=((r.track? x).isSome=true):=propext (Ge (nm:=Trk.name))
theorem AU (r:Reg) (x:Nm):(x ∈ Zz r 102)=((r.fault? x).isSome=true):=propext (Ge (nm:=Flt.name))
theorem LZ (r:Reg) (x:Nm):(x ∈ Zz r 114)=((r.train? x).isSome=true):=propext (Ge (nm:=Trn.name))
theorem Qk (r:Reg) (x:Nm):(x ∈ Zz r 112)=((r.poss? x).isSome=true):=propext (Ge (nm:=Pos.name))
theorem M0 (r:Reg) (x:Nm):(x ∈ Zz r 109)=((r.mach? x).isSome=true):=propext (Ge (nm:=Mch.name))
theorem Zb0 (r:Reg) (c:Nat) (h:c < 97) (x:Nm):Zq r [c] [x] false=if x ∈ Zz r ((c+32:Nat):Int) then 9 else 0:=by
 rw [U5];simp only [h,decide_true,Bool.not_true,Bool.false_and,Bool.false_eq_true,if_false,if_true,Bool.true_and,Bool.false_or];show Z5 _ 9=_;unfold Z5;by_cases hm:x ∈ Zz r ((c+32:Nat):Int)<;>simp []
theorem QT (r:Reg) (c:Nat) (h:¬ c < 97) (x:Nm):Zq r [c] [x] false=if x ∈ Zz r (c:Int) then 0 else 10:=by
 rw [U5];simp only [h,decide_false,Bool.not_false,Bool.true_and,if_false,Bool.false_and,Bool.or_false];by_cases hm:x ∈ Zz r (c:Int)
 · simp only [hm,decide_true,Bool.not_true,Bool.false_eq_true,if_false,if_true];rfl
 · simp only [hm,decide_false,Bool.not_false,if_true,if_false]
theorem Fm (r:Reg) (c d:Nat) (h:c < 97) (h':¬ d < 97) (x y:Nm):Zq r [c,d] [x,y] false=if y ∈ Zz r (d:Int) then (if x ∈ Zz r ((c+32:Nat):Int) then 9 else 0) else 10:=by
 rw [U5];simp only [h,decide_true,Bool.not_true,Bool.false_and,Bool.false_eq_true,if_false,if_true,Bool.true_and,Bool.false_or];rw [U5];simp only [h',decide_false,Bool.not_false,Bool.true_and,if_false,Bool.false_and,Bool.or_false];by_cases hm:y ∈ Zz r (d:Int)
 · simp only [hm,decide_true,Bool.not_true,Bool.false_eq_true,if_false,if_true];show Z5 _ 9=_;unfold Z5;by_cases hx:x ∈ Zz r ((c+32:Nat):Int)<;>simp []
 · simp only [hm,decide_false,Bool.not_false,if_true,if_false]
theorem Zb1 (r:Reg) (c d:Nat) (h:¬ c < 97) (h':¬ d < 97) (x y:Nm):Zq r [c,d] [x,y] false=if x ∈ Zz r (c:Int) then (if y ∈ Zz r (d:Int) then 0 else 10) else 10:=by
 rw [U5];simp only [h,decide_false,Bool.not_false,Bool.true_and,if_false,Bool.false_and,Bool.or_false];by_cases hm:x ∈ Zz r (c:Int)
 · simp only [hm,decide_true,Bool.not_true,Bool.false_eq_true,if_false,if_true];exact QT r d h' y
 · simp only [hm,decide_false,Bool.not_false,if_true,if_false]
end Go.Sim.Pos

namespace Go.Sim.Pos
open Go.Sim
theorem Yf (b:Bool) (e:Int) (l:List Int) (he:e ≠ 0):Z9 (Z5 b e::l)=if b=true then e else Z9 l:=by
 cases b
 · simp [Z9,Z5]
 · simp [Z9,Z5,he]
theorem Ql:Z9 []=0:=rfl
theorem U6 (n a b:Int) (l:List Int):Z9 (ZS n a b::l)=if n < a∨b < n then 3 else Z9 l:=by
 unfold ZS;rw [Yf _ _ _ (by decide)];simp only [Bool.or_eq_true,decide_eq_true_eq]
theorem M4 (a b:Int) (l:List Int):Z9 (spanI a b::l)=if b≤a∨100000000 < b then 14 else Z9 l:=by
 unfold spanI;rw [Yf _ _ _ (by decide)];simp only [Bool.or_eq_true,decide_eq_true_eq,Bool.not_eq_true',decide_eq_false_iff_not,Int.not_lt]
theorem Zb2 {r:Reg} {tk:Int} {a:Act} (h:¬ tk < r.tick):okA r tk a=okA r r.tick a:=by
 unfold okA;rw [if_neg h,if_neg (Int.lt_irrefl _)]
section
variable {r:Reg} (I:Inv r) (S:Safe r)
theorem Zb3 {t:Nm} {v:Int} (S:Safe r):(Zq r [84] [t] false ≠ 0∧okA r r.tick (.track t v)=Zq r [84] [t] false)∨(Zq r [84] [t] false=0∧okA r r.tick (.track t v)=Z9 [ZS v 1 400,Z5 (decide ((r.tracks.length:Int)=8)) 5]):=by
 rw [Zb0 r 84 (by decide),show ((84+32:Nat):Int)=116 from rfl]
 simp only [KL];unfold okA;rw [if_neg (Int.lt_irrefl _),U6,Yf _ _ _ (by decide),Ql];have h8:((decide ((r.tracks.length:Int)=8))=true)=(8≤r.tracks.length):=by
  have:=S.nT;simp only [decide_eq_true_eq,eq_iff_iff];omega
 simp only [h8];cases r.track? t with
 | none=>exact .inr ⟨rfl,rfl⟩
 | some y=>exact .inl ⟨by simp,rfl⟩
theorem Zb4 {f t:Nm} {a b v:Int} (S:Safe r) (hv:0≤v):(Zq r [70,116] [f,t] false ≠ 0∧okA r r.tick (.fault f t a b v)=Zq r [70,116] [f,t] false)∨(Zq r [70,116] [f,t] false=0∧okA r r.tick (.fault f t a b v)=Z9 [spanI a b,ZS v 0 400,Z5 (decide ((r.faults.length:Int)=64)) 5]):=by
 rw [Fm r 70 116 (by decide) (by decide),show ((70+32:Nat):Int)=102 from rfl,show ((116:Nat):Int)=116 from rfl]
 simp only [KL,AU];unfold okA;rw [if_neg (Int.lt_irrefl _),M4,U6,Yf _ _ _ (by decide),Ql];have h8:((decide ((r.faults.length:Int)=64))=true)=(64≤r.faults.length):=by
  have:=S.nF;simp only [decide_eq_true_eq,eq_iff_iff];omega
 have h9:(v < 0∨400 < v)=(400 < v):=by
  simp only [eq_iff_iff];omega
 simp only [h8,h9];cases r.track? t with
 | none=>exact .inl ⟨by simp,rfl⟩
 | some y =>
   cases r.fault? f with
   | none=>exact .inr ⟨rfl,rfl⟩
   | some z=>exact .inl ⟨by simp,rfl⟩
theorem Zb5 {f:Nm}:(Zq r [102] [f] false ≠ 0∧okA r r.tick (.answer f)=Zq r [102] [f] false)∨(Zq r [102] [f] false=0 ∧ ∃ y,r.fault? f=some y∧okA r r.tick (.answer f)=Z9 [Z5 y.rep 23,Z5 y.ans 9]):=by
 rw [QT r 102 (by decide),show ((102:Nat):Int)=102 from rfl]
 simp only [AU];unfold okA;rw [if_neg (Int.lt_irrefl _)];simp only;cases r.fault? f with
 | none=>exact .inl ⟨by simp,rfl⟩
 | some y=>exact .inr ⟨rfl,y,rfl,by rw [Yf _ _ _ (by decide),Yf _ _ _ (by decide),Ql]⟩
theorem Zb6 {f p:Nm} (S:Safe r):(Zq r [102,112] [f,p] false ≠ 0∧okA r r.tick (.repair f p)=Zq r [102,112] [f,p] false)∨(Zq r [102,112] [f,p] false=0 ∧ ∃ y q,r.fault? f=some y∧r.poss? p=some q∧okA r r.tick (.repair f p)=Z9 [Z5 y.rep 23,Z5 (q.ret || !decide (q.track=y.track) || (decide (y.frm < q.frm) || decide (q.to < y.to))) 21,Z5 (decide (((r.within q.name).length:Int)=0) && decide (q.pers=0)) 12]):=by
 rw [Zb1 r 102 112 (by decide) (by decide),show ((102:Nat):Int)=102 from rfl,show ((112:Nat):Int)=112 from rfl]
 simp only [AU,Qk];unfold okA;rw [if_neg (Int.lt_irrefl _)];simp only;cases hf:r.fault? f with
 | none=>exact .inl ⟨by simp,rfl⟩
 | some y =>
   cases hp:r.poss? p with
   | none=>exact .inl ⟨by simp,rfl⟩
   | some q =>
     have hq:q.name=p:=by have:=(GV hp).2;simpa using this
     refine .inr ⟨rfl,y,q,rfl,rfl, ?_⟩;rw [Yf _ _ _ (by decide),Yf _ _ _ (by decide),Yf _ _ _ (by decide),Ql,hq];simp only [Bool.or_eq_true,Bool.and_eq_true,decide_eq_true_eq,Bool.not_eq_true',decide_eq_false_iff_not,or_assoc];have e1:(((r.within p).length:Int)=0∧q.pers=0)=(q.pers=0∧r.within p=[]):=by
      simp only [eq_iff_iff,← List.length_eq_zero_iff];omega
     simp only [e1,ne_eq]
theorem Zb7 {x t:Nm} {v:Int} (S:Safe r):(Zq r [82,116] [x,t] false ≠ 0∧okA r r.tick (.enter x t v)=Zq r [82,116] [x,t] false)∨(Zq r [82,116] [x,t] false=0 ∧ ∃ y,r.track? t=some y∧okA r r.tick (.enter x t v)=Z9 [Z5 (r.taken t) 31,Z5 (r.silentOn t) 32,Z5 (decide (v < 1) || decide (r.permitted t < v)) 20,Z5 (decide ((r.trains.length:Int)=16)) 5]):=by
 rw [Fm r 82 116 (by decide) (by decide),show ((82+32:Nat):Int)=114 from rfl,show ((116:Nat):Int)=116 from rfl]
 simp only [KL,LZ];unfold okA;rw [if_neg (Int.lt_irrefl _),Yf _ _ _ (by decide),Yf _ _ _ (by decide),Yf _ _ _ (by decide),Yf _ _ _ (by decide),Ql];have h8:((decide ((r.trains.length:Int)=16))=true)=(16≤r.trains.length):=by
  have:=S.nN;simp only [decide_eq_true_eq,eq_iff_iff];omega
 simp only [h8,Bool.or_eq_true,decide_eq_true_eq];cases r.track? t with
 | none=>exact .inl ⟨by simp,rfl⟩
 | some y =>
   cases r.train? x with
   | none=>exact .inr ⟨rfl,y,rfl,rfl⟩
   | some z=>exact .inl ⟨by simp,rfl⟩
theorem Zb8 {x:Nm}:(Zq r [114] [x] false ≠ 0∧okA r r.tick (.leave x)=Zq r [114] [x] false)∨(Zq r [114] [x] false=0∧okA r r.tick (.leave x)=0):=by
 rw [QT r 114 (by decide),show ((114:Nat):Int)=114 from rfl]
 simp only [LZ];unfold okA;rw [if_neg (Int.lt_irrefl _)];simp only;cases r.train? x with
 | none=>exact .inl ⟨by simp,rfl⟩
 | some y=>exact .inr ⟨rfl,rfl⟩
theorem k_out {x:Nm}:(Zq r [109] [x] false ≠ 0∧okA r r.tick (.out x)=Zq r [109] [x] false)∨(Zq r [109] [x] false=0∧okA r r.tick (.out x)=0):=by
 rw [QT r 109 (by decide),show ((109:Nat):Int)=109 from rfl]
 simp only [M0];unfold okA;rw [if_neg (Int.lt_irrefl _)];simp only;cases r.mach? x with
 | none=>exact .inl ⟨by simp,rfl⟩
 | some y=>exact .inr ⟨rfl,rfl⟩
theorem ov_eq {t:Nm} {a b:Int} (S:Safe r) (h:a < b):ovR r t a b=r.overlaps t a b:=by
 unfold ovR Reg.overlaps;rw [Bool.eq_iff_iff,List.any_eq_true,List.any_eq_true];refine exists_congr fun p=>and_congr_right fun hp => ?_
 have:=S.span p hp;unfold Q8 ovP over JV Go.Sim.minI;simp only [Bool.and_eq_true,Bool.or_eq_true,decide_eq_true_eq,Bool.not_eq_true'];refine and_congr_right fun _ => ?_
 split<;>split<;>omega
theorem Zb9 {p t:Nm} {a b:Int} (S:Safe r):(Zq r [80,116] [p,t] false ≠ 0∧okA r r.tick (.take p t a b)=Zq r [80,116] [p,t] false)∨(Zq r [80,116] [p,t] false=0∧okA r r.tick (.take p t a b)=Z9 [spanI a b,Z5 (r.manned t) 31,Z5 (ovR r t a b) 15,Z5 (decide ((r.poss.length:Int)=16)) 5]):=by
 rw [Fm r 80 116 (by decide) (by decide),show ((80+32:Nat):Int)=112 from rfl,show ((116:Nat):Int)=116 from rfl]
 simp only [KL,Qk];unfold okA;rw [if_neg (Int.lt_irrefl _),M4,Yf _ _ _ (by decide),Yf _ _ _ (by decide),Yf _ _ _ (by decide),Ql];have h8:((decide ((r.poss.length:Int)=16))=true)=(16≤r.poss.length):=by
  have:=S.nP;simp only [decide_eq_true_eq,eq_iff_iff];omega
 simp only [h8];cases r.track? t with
 | none=>exact .inl ⟨by simp,rfl⟩
 | some y =>
   cases r.poss? p with
   | none =>
     refine .inr ⟨rfl, ?_⟩;by_cases hs:b≤a∨100000000 < b
     · simp [hs]
     · rw [ov_eq S (by omega)];rfl
   | some z=>exact .inl ⟨by simp,rfl⟩
theorem JJ {p:Nm} {y:Pos} (h:r.poss? p=some y):y ∈ r.poss∧y.name=p:=⟨(GV h).1,by have:=(GV h).2;simpa using this⟩
theorem Zba {p:Nm}:((r.within p).length:Int)=0 ↔ r.within p=[]:=by
 rw [← List.length_eq_zero_iff];omega
theorem Zbb {p:Nm}:(Zq r [112] [p] false ≠ 0∧okA r r.tick (.prot p)=Zq r [112] [p] false)∨(Zq r [112] [p] false=0 ∧ ∃ y,r.poss? p=some y∧okA r r.tick (.prot p)=if y.ret then 23 else Z5 y.prot 9):=by
 rw [QT r 112 (by decide),show ((112:Nat):Int)=112 from rfl]
 simp only [Qk];unfold okA XH;rw [if_neg (Int.lt_irrefl _)];simp only;cases r.poss? p with
 | none=>exact .inl ⟨by simp,rfl⟩
 | some y=>exact .inr ⟨rfl,y,rfl,rfl⟩
theorem Zbc {p:Nm} (S:Safe r):(Zq r [112] [p] false ≠ 0∧okA r r.tick (.clear p)=Zq r [112] [p] false)∨(Zq r [112] [p] false=0 ∧ ∃ y,r.poss? p=some y∧okA r r.tick (.clear p)=if y.ret then 23 else Z9 [Z5 (!y.prot) 22,Z5 (!(decide (((r.within y.name).length:Int)=0) && decide (y.pers=0))) 32]):=by
 rw [QT r 112 (by decide),show ((112:Nat):Int)=112 from rfl]
 simp only [Qk];unfold okA XH;rw [if_neg (Int.lt_irrefl _)];simp only;cases hp:r.poss? p with
 | none=>exact .inl ⟨by simp,rfl⟩
 | some y =>
   refine .inr ⟨rfl,y,rfl, ?_⟩;obtain ⟨hy,hn⟩:=JJ hp;have:=S.pers y hy;rw [Yf _ _ _ (by decide),Yf _ _ _ (by decide),Ql,hn];have e1:((!(decide (((r.within p).length:Int)=0) && decide (y.pers=0)))=true)=(0 < y.pers∨r.within p ≠ []):=by
    rw [eq_iff_iff];simp only [Bool.not_eq_true',Bool.and_eq_false_iff,decide_eq_false_iff_not,Zba];constructor
    · rintro (h | h)
      · exact .inr h
      · exact .inl (by omega)
    · rintro (h | h)
      · exact .inr (by omega)
      · exact .inl h
   simp only [e1]
theorem k_in {m p:Nm} (S:Safe r):(Zq r [77,112] [m,p] false ≠ 0∧okA r r.tick (.into m p)=Zq r [77,112] [m,p] false)∨(Zq r [77,112] [m,p] false=0 ∧ ∃ y,r.poss? p=some y∧okA r r.tick (.into m p)=if y.ret then 23 else Z9 [Z5 (!y.prot) 21,Z5 (decide ((r.machs.length:Int)=16)) 5]):=by
 rw [Fm r 77 112 (by decide) (by decide),show ((77+32:Nat):Int)=109 from rfl,show ((112:Nat):Int)=112 from rfl]
 simp only [M0,Qk];unfold okA;rw [if_neg (Int.lt_irrefl _)];simp only;have h8:((decide ((r.machs.length:Int)=16))=true)=(16≤r.machs.length):=by
  have:=S.nM;simp only [decide_eq_true_eq,eq_iff_iff];omega
 cases r.poss? p with
 | none=>exact .inl ⟨by simp,rfl⟩
 | some y =>
   cases r.mach? m with
   | none=>exact .inr ⟨rfl,y,rfl,by rw [Yf _ _ _ (by decide),Yf _ _ _ (by decide),Ql];simp only [h8];rfl⟩
   | some z=>exact .inl ⟨by simp,rfl⟩
theorem Zbd {p:Nm} {v:Int}:(Zq r [112] [p] false ≠ 0∧okA r r.tick (.staff p v)=Zq r [112] [p] false)∨(Zq r [112] [p] false=0 ∧ ∃ y,r.poss? p=some y∧okA r r.tick (.staff p v)=if y.ret then 23 else Z9 [ZS v 1 100,Z5 (!y.prot) 21,Z5 (decide (100 < y.pers+v)) 4]):=by
 rw [QT r 112 (by decide),show ((112:Nat):Int)=112 from rfl]
 simp only [Qk];unfold okA XH;rw [if_neg (Int.lt_irrefl _)];simp only;cases r.poss? p with
 | none=>exact .inl ⟨by simp,rfl⟩
 | some y=>exact .inr ⟨rfl,y,rfl,by rw [U6,Yf _ _ _ (by decide),Yf _ _ _ (by decide),Ql];simp only [decide_eq_true_eq]⟩
theorem k_off {p:Nm} {v:Int}:(Zq r [112] [p] false ≠ 0∧okA r r.tick (.off p v)=Zq r [112] [p] false)∨(Zq r [112] [p] false=0 ∧ ∃ y,r.poss? p=some y∧okA r r.tick (.off p v)=if y.ret then 23 else Z9 [ZS v 1 100,Z5 (decide (y.pers < v)) 16]):=by
 rw [QT r 112 (by decide),show ((112:Nat):Int)=112 from rfl]
 simp only [Qk];unfold okA XH;rw [if_neg (Int.lt_irrefl _)];simp only;cases r.poss? p with
 | none=>exact .inl ⟨by simp,rfl⟩
 | some y=>exact .inr ⟨rfl,y,rfl,by rw [U6,Yf _ _ _ (by decide),Ql];simp only [decide_eq_true_eq]⟩
theorem Zbe {p:Nm} (S:Safe r):(Zq r [112] [p] false ≠ 0∧okA r r.tick (.opn p)=Zq r [112] [p] false)∨(Zq r [112] [p] false=0 ∧ ∃ y,r.poss? p=some y∧okA r r.tick (.opn p)=if y.ret then 23 else Z9 [Z5 y.opn 9,Z5 (decide (y.closed=8)) 5]):=by
 rw [QT r 112 (by decide),show ((112:Nat):Int)=112 from rfl]
 simp only [Qk];unfold okA XH;rw [if_neg (Int.lt_irrefl _)];simp only;cases hp:r.poss? p with
 | none=>exact .inl ⟨by simp,rfl⟩
 | some y =>
   have:=S.closed y (JJ hp).1;have h8:((decide (y.closed=8))=true)=(8≤y.closed):=by
    simp only [decide_eq_true_eq,eq_iff_iff];omega
   exact .inr ⟨rfl,y,rfl,by rw [Yf _ _ _ (by decide),Yf _ _ _ (by decide),Ql];simp only [h8]⟩
theorem Zbf {p:Nm} {v:Int}:(Zq r [112] [p] false ≠ 0∧okA r r.tick (.close p v)=Zq r [112] [p] false)∨(Zq r [112] [p] false=0 ∧ ∃ y,r.poss? p=some y∧okA r r.tick (.close p v)=if y.ret then 23 else Z9 [ZS v 1 400,Z5 (!y.opn) 22]):=by
 rw [QT r 112 (by decide),show ((112:Nat):Int)=112 from rfl]
 simp only [Qk];unfold okA XH;rw [if_neg (Int.lt_irrefl _)];simp only;cases r.poss? p with
 | none=>exact .inl ⟨by simp,rfl⟩
 | some y=>exact .inr ⟨rfl,y,rfl,by rw [U6,Yf _ _ _ (by decide),Ql]⟩
theorem k_ret {p:Nm}:(Zq r [112] [p] false ≠ 0∧okA r r.tick (.ret p)=Zq r [112] [p] false)∨(Zq r [112] [p] false=0 ∧ ∃ y,r.poss? p=some y∧okA r r.tick (.ret p)=if y.ret then 23 else Z9 [Z5 (decide ((0:Int) < ((YI r y.name y).length:Nat))) 32,Z5 (decide (y.closed=0)) 7]):=by
 rw [QT r 112 (by decide),show ((112:Nat):Int)=112 from rfl]
 simp only [Qk];unfold okA XH;rw [if_neg (Int.lt_irrefl _)];simp only;cases hp:r.poss? p with
 | none=>exact .inl ⟨by simp,rfl⟩
 | some y =>
   obtain ⟨hy,hn⟩:=JJ hp;have h8:((decide ((0:Int) < ((YI r p y).length:Nat)))=true)=(r.within p ≠ []∨0 < y.pers∨y.opn=true∨y.prot=true):=by
    simp only [decide_eq_true_eq,eq_iff_iff];unfold YI;simp only [List.length_append,List.length_map];have h0:r.within p ≠ [] ↔ 0 < (r.within p).length:=by rw [List.length_pos_iff]
    rw [h0];by_cases c1:0 < y.pers<;>by_cases c2:y.opn=true<;>by_cases c3:y.prot=true<;>simp [c1,c2,c3]<;>omega
   exact .inr ⟨rfl,y,rfl,by rw [Yf _ _ _ (by decide),Yf _ _ _ (by decide),Ql,hn];simp only [h8,decide_eq_true_eq]⟩
theorem Zbg {p:Nm} {v:Int} (hv:0≤v):(Zq r [112] [p] false ≠ 0∧okA r r.tick (.raise p v)=Zq r [112] [p] false)∨(Zq r [112] [p] false=0 ∧ ∃ y,r.poss? p=some y∧okA r r.tick (.raise p v)=Z9 [Z5 (!y.ret) 22,ZS v 0 400,Z5 (decide (v≤y.speed)) 21]):=by
 rw [QT r 112 (by decide),show ((112:Nat):Int)=112 from rfl]
 simp only [Qk];unfold okA;rw [if_neg (Int.lt_irrefl _)];simp only;have h9:(v < 0∨400 < v)=(400 < v):=by
  simp only [eq_iff_iff];omega
 cases r.poss? p with
 | none=>exact .inl ⟨by simp,rfl⟩
 | some y=>exact .inr ⟨rfl,y,rfl,by rw [Yf _ _ _ (by decide),U6,Yf _ _ _ (by decide),Ql];simp only [h9,decide_eq_true_eq]⟩
end
end Go.Sim.Pos

namespace Go.Sim
open Go Go.Proofs
open Go.Sim.Pos (Nm Trk Flt Trn Pos Mch Reg Ev Len ZW Yd Y8 Ye)
set_option maxRecDepth 100000
set_option maxHeartbeats 4000000
variable {te:TypeId}
theorem Zbh {r:Reg} {tk num k:Int} {n:Nat} {a:Pos.Act} (hk:(k ≠ 0∧Pos.okA r r.tick a=k)∨k=0):(if num ≠ (n:Int)+1 then 11 else if tk < r.tick then 22 else if k ≠ 0 then k else Pos.okA r r.tick a)=if num ≠ (n:Int)+1 then 11 else Pos.okA r tk a:=by
 by_cases h1:num ≠ (n:Int)+1
 · rw [if_pos h1,if_pos h1]
 rw [if_neg h1,if_neg h1];by_cases h2:tk < r.tick
 · rw [if_pos h2];unfold Pos.okA;rw [if_pos h2]
 rw [if_neg h2,Pos.Zb2 h2];rcases hk with ⟨h3,h4⟩ | h3
 · rw [if_pos h3,h4]
 · rw [if_neg (by simpa using h3)]
theorem PtP.old {H H':Heap} {id off:Nat} {x:Pos} (h:PtP H id off x) (ho:Old H.n H H'):PtP H' id off x :=
 ⟨Nat.lt_of_lt_of_le h.lt ho.1,fun o=>h.f0 (ho.to o),fun o=>h.f1 (ho.to o),fun o=>h.f2 (ho.to o),fun o=>h.f3 (ho.to o),fun o=>h.f4 (ho.to o),fun o=>h.f5 (ho.to o),fun o=>h.f6 (ho.to o),fun o=>h.f7 (ho.to o),fun o=>h.f8 (ho.to o),fun o=>h.f9 (ho.to o),fun o=>h.sp (ho.to o)⟩
theorem XT {H:Heap} {hb:Nat} {es cs:List Ev} {r:Reg} {V:RegV} {vE vC:AV} (h:HisIs te H hb es cs r V vE vC) {num tk:Int} {kind text:Nm} {names:List Nm} {vs:List Int} {a:Pos.Act} (hk:kind ≠ Pos.ZN)
 {nm:List Nat} {fv:Int} {f1 f2:FuncId} {l1 l2:Nat→List AV} (hlk:∀ n,lkS kind (Ji n)=some (.agg [.str nm,.int .i64 fv,.fn f1 [] (l1 n),.fn f2 [] (l2 n)])) (hst:∀ n,(l1 n).map ZO=l1 n) (hu1:∀ n m,n+17≤m→Yi m (l1 n)=true) (hu2:∀ n m,n+17≤m→Yi m (l2 n)=true)
 (hb1:∀ x ∈ nm,x < 128) (hl:names.length=nm.length) (hs:nm.length≤2)
 (hK:(Zq r nm names false ≠ 0∧Pos.okA r r.tick a=Zq r nm names false)∨(Zq r nm names false=0 ∧ ∀ n Hc,FormsAt n Hc→n+17≤Hc.n→Old H.n H Hc → ∀ lo K,VO (Z8 PT (R PT) lo f1 (.ptr hb 2 :: .agg (evC num kind names (tk::vs) text)::l1 n) Hc) K=K (.int .i64 (Pos.okA r r.tick a)) Hc)) :
 ∃ w H2,R PT (.call H.n 105 [.ptr hb 0,.agg (evC num kind names (tk::vs) text)] H)=some (.ofVal w H2)∧w=.int .i64 (if num ≠ (es.length:Int)+1 then 11 else Pos.okA r tk a):=by
 obtain ⟨w,H2,h1,h2⟩:=ZaS h (num:=num) (tk:=tk) (text:=text) (vs:=vs) hk (c:=Pos.okA r r.tick a) hlk hst hu1 hu2 hb1 hl hs (fun k0=>by
  rcases hK with ⟨h3,_⟩ | ⟨_,h3⟩
  · exact absurd k0 h3
  · exact h3)
 exact ⟨w,H2,h1,h2.trans (congrArg _ (Zbh (hK.imp id (·.1))))⟩
theorem Yh {m k:Nat} (h:k < m):Yi m [.ptr k 0]=true:=by
 show (Nat.blt k m && true)=true;rw [Bool.and_true];exact Nat.ble_eq.symm ▸ h
section
variable {H:Heap} {hb:Nat} {es cs:List Ev} {r:Reg} {V:RegV} {vE vC:AV}
theorem Zbi (h:HisIs te H hb es cs r V vE vC) (S:Pos.Safe r) {num tk:Int} {t:Nm} {v:Int}:∃ w H2,R PT (.call H.n 105 [.ptr hb 0,.agg (evC num Pos.XR [t] [tk,v] [])] H)=some (.ofVal w H2)∧w=.int .i64 (if num ≠ (es.length:Int)+1 then 11 else Pos.okA r tk (.track t v)):=by
 refine XT h (kind:=Pos.XR) (names:=[t]) (vs:=[v]) (a:=.track t v) (by decide) (nm:=[84]) (fv:=2) (f1:=154) (f2:=155) (l1:=fun _=>[]) (l2:=fun _=>[]) (fun _=>rfl) (fun _=>rfl) (fun _ _ _=>rfl) (fun _ _ _=>rfl) (by decide) rfl (by decide) ?_;rcases Pos.Zb3 (r:=r) (t:=t) (v:=v) S with hl | ⟨h0,hc⟩
 · exact .inl hl
 refine .inr ⟨h0,fun n Hc hF hn ho lo K => ?_⟩;rw [hc];exact Zam (h.reg.old ho)
theorem Zbj (h:HisIs te H hb es cs r V vE vC) (S:Pos.Safe r) {num tk:Int} {f t:Nm} {x y v:Int} (hv:0≤v):∃ w H2,R PT (.call H.n 105 [.ptr hb 0,.agg (evC num Pos.XI [f,t] [tk,x,y,v] [])] H)=some (.ofVal w H2)∧w=.int .i64 (if num ≠ (es.length:Int)+1 then 11 else Pos.okA r tk (.fault f t x y v)):=by
 refine XT h (kind:=Pos.XI) (names:=[f,t]) (vs:=[x,y,v]) (a:=.fault f t x y v) (by decide) (nm:=[70,116]) (fv:=4) (f1:=156) (f2:=158) (l1:=fun _=>[]) (l2:=fun _=>[]) (fun _=>rfl) (fun _=>rfl) (fun _ _ _=>rfl) (fun _ _ _=>rfl) (by decide) rfl (by decide) ?_;rcases Pos.Zb4 (r:=r) (f:=f) (t:=t) (a:=x) (b:=y) (v:=v) S hv with hl | ⟨h0,hc⟩
 · exact .inl hl
 refine .inr ⟨h0,fun n Hc hF hn ho lo K => ?_⟩;rw [hc];exact Zao (h.reg.old ho)
theorem Zbk (h:HisIs te H hb es cs r V vE vC) (S:Pos.Safe r) {num tk:Int} {f:Nm}:∃ w H2,R PT (.call H.n 105 [.ptr hb 0,.agg (evC num Pos.Xg [f] [tk] [])] H)=some (.ofVal w H2)∧w=.int .i64 (if num ≠ (es.length:Int)+1 then 11 else Pos.okA r tk (.answer f)):=by
 refine XT h (kind:=Pos.Xg) (names:=[f]) (vs:=[]) (a:=.answer f) (by decide) (nm:=[102]) (fv:=1) (f1:=159) (f2:=160) (l1:=fun _=>[]) (l2:=fun _=>[]) (fun _=>rfl) (fun _=>rfl) (fun _ _ _=>rfl) (fun _ _ _=>rfl) (by decide) rfl (by decide) ?_;rcases Pos.Zb5 (r:=r) (f:=f)  with hl | ⟨h0,y,hy,hc⟩
 · exact .inl hl
 refine .inr ⟨h0,fun n Hc hF hn ho lo K => ?_⟩;rw [hc];obtain ⟨i,hi⟩:=At.of (nm:=Flt.name) hy;exact Zaq (h.reg.old ho) hi
theorem Zbl (h:HisIs te H hb es cs r V vE vC) (S:Pos.Safe r) {num tk:Int} {f p:Nm}:∃ w H2,R PT (.call H.n 105 [.ptr hb 0,.agg (evC num Pos.X6 [f,p] [tk] [])] H)=some (.ofVal w H2)∧w=.int .i64 (if num ≠ (es.length:Int)+1 then 11 else Pos.okA r tk (.repair f p)):=by
 refine XT h (kind:=Pos.X6) (names:=[f,p]) (vs:=[]) (a:=.repair f p) (by decide) (nm:=[102,112]) (fv:=1) (f1:=161) (f2:=162) (l1:=fun _=>[]) (l2:=fun _=>[]) (fun _=>rfl) (fun _=>rfl) (fun _ _ _=>rfl) (fun _ _ _=>rfl) (by decide) rfl (by decide) ?_;rcases Pos.Zb6 (r:=r) (f:=f) (p:=p) S with hl | ⟨h0,y,q,hy,hq,hc⟩
 · exact .inl hl
 refine .inr ⟨h0,fun n Hc hF hn ho lo K => ?_⟩;rw [hc];obtain ⟨i,hi⟩:=At.of (nm:=Flt.name) hy;obtain ⟨j,hj⟩:=At.of (nm:=Pos.name) hq;exact Zaw (h.reg.old ho) hi hj (by rw [(Pos.JJ hq).2];exact hq)
theorem Zbm (h:HisIs te H hb es cs r V vE vC) (S:Pos.Safe r) {num tk:Int} {x t:Nm} {v:Int}:∃ w H2,R PT (.call H.n 105 [.ptr hb 0,.agg (evC num Pos.Yo [x,t] [tk,v] [])] H)=some (.ofVal w H2)∧w=.int .i64 (if num ≠ (es.length:Int)+1 then 11 else Pos.okA r tk (.enter x t v)):=by
 refine XT h (kind:=Pos.Yo) (names:=[x,t]) (vs:=[v]) (a:=.enter x t v) (by decide) (nm:=[82,116]) (fv:=2) (f1:=163) (f2:=164) (l1:=fun _=>[]) (l2:=fun _=>[]) (fun _=>rfl) (fun _=>rfl) (fun _ _ _=>rfl) (fun _ _ _=>rfl) (by decide) rfl (by decide) ?_;rcases Pos.Zb7 (r:=r) (x:=x) (t:=t) (v:=v) S with hl | ⟨h0,y,hy,hc⟩
 · exact .inl hl
 refine .inr ⟨h0,fun n Hc hF hn ho lo K => ?_⟩;rw [hc];exact Zau (h.reg.old ho) hy
theorem Zbn (h:HisIs te H hb es cs r V vE vC) (S:Pos.Safe r) {num tk:Int} {x:Nm}:∃ w H2,R PT (.call H.n 105 [.ptr hb 0,.agg (evC num Pos.YW [x] [tk] [])] H)=some (.ofVal w H2)∧w=.int .i64 (if num ≠ (es.length:Int)+1 then 11 else Pos.okA r tk (.leave x)):=by
 refine XT h (kind:=Pos.YW) (names:=[x]) (vs:=[]) (a:=.leave x) (by decide) (nm:=[114]) (fv:=1) (f1:=165) (f2:=166) (l1:=fun _=>[]) (l2:=fun _=>[]) (fun _=>rfl) (fun _=>rfl) (fun _ _ _=>rfl) (fun _ _ _=>rfl) (by decide) rfl (by decide) ?_;rcases Pos.Zb8 (r:=r) (x:=x)  with hl | ⟨h0,hc⟩
 · exact .inl hl
 refine .inr ⟨h0,fun n Hc hF hn ho lo K => ?_⟩;rw [hc];exact LT (h.reg.old ho)
theorem Zbo (h:HisIs te H hb es cs r V vE vC) (S:Pos.Safe r) {num tk:Int} {p t:Nm} {x y:Int}:∃ w H2,R PT (.call H.n 105 [.ptr hb 0,.agg (evC num Pos.Xr [p,t] [tk,x,y] [])] H)=some (.ofVal w H2)∧w=.int .i64 (if num ≠ (es.length:Int)+1 then 11 else Pos.okA r tk (.take p t x y)):=by
 refine XT h (kind:=Pos.Xr) (names:=[p,t]) (vs:=[x,y]) (a:=.take p t x y) (by decide) (nm:=[80,116]) (fv:=3) (f1:=169) (f2:=170) (l1:=fun _=>[]) (l2:=fun _=>[]) (fun _=>rfl) (fun _=>rfl) (fun _ _ _=>rfl) (fun _ _ _=>rfl) (by decide) rfl (by decide) ?_;rcases Pos.Zb9 (r:=r) (p:=p) (t:=t) (a:=x) (b:=y) S with hl | ⟨h0,hc⟩
 · exact .inl hl
 refine .inr ⟨h0,fun n Hc hF hn ho lo K => ?_⟩;rw [hc];exact Zaz (h.reg.old ho)
theorem Zbp (h:HisIs te H hb es cs r V vE vC) (S:Pos.Safe r) {num tk:Int} {p:Nm}:∃ w H2,R PT (.call H.n 105 [.ptr hb 0,.agg (evC num Pos.YA [p] [tk] [])] H)=some (.ofVal w H2)∧w=.int .i64 (if num ≠ (es.length:Int)+1 then 11 else Pos.okA r tk (.prot p)):=by
 refine XT h (kind:=Pos.YA) (names:=[p]) (vs:=[]) (a:=.prot p) (by decide) (nm:=[112]) (fv:=1) (f1:=273) (f2:=274) (l1:=fun n=>[.ptr (n+1) 0]) (l2:=fun n=>[.ptr (n+2) 0]) (fun _=>rfl) (fun _=>rfl) (fun n m hm=>Yh (by omega)) (fun n m hm=>Yh (by omega)) (by decide) rfl (by decide) ?_;rcases Pos.Zbb (r:=r) (p:=p)  with hl | ⟨h0,y,hy,hc⟩
 · exact .inl hl
 refine .inr ⟨h0,fun n Hc hF hn ho lo K => ?_⟩;rw [hc];obtain ⟨i,hi⟩:=At.of (nm:=Pos.name) hy;obtain ⟨id,he,hP⟩:=YZ (h.reg.old ho) hi.at';exact Vn (m:=[]) (h.reg.old ho) hi he hP (bx:=n+1) (by omega) (hF.box 1 (by omega) (by omega)) (fun _ Hc2 ho2 lo K=>ZaB ((h.reg.old ho).old ho2) (hP.old ho2))
theorem Zbq (h:HisIs te H hb es cs r V vE vC) (S:Pos.Safe r) {num tk:Int} {p:Nm}:∃ w H2,R PT (.call H.n 105 [.ptr hb 0,.agg (evC num Pos.YB [p] [tk] [])] H)=some (.ofVal w H2)∧w=.int .i64 (if num ≠ (es.length:Int)+1 then 11 else Pos.okA r tk (.clear p)):=by
 refine XT h (kind:=Pos.YB) (names:=[p]) (vs:=[]) (a:=.clear p) (by decide) (nm:=[112]) (fv:=1) (f1:=273) (f2:=274) (l1:=fun n=>[.ptr (n+3) 0]) (l2:=fun n=>[.ptr (n+4) 0]) (fun _=>rfl) (fun _=>rfl) (fun n m hm=>Yh (by omega)) (fun n m hm=>Yh (by omega)) (by decide) rfl (by decide) ?_;rcases Pos.Zbc (r:=r) (p:=p) S with hl | ⟨h0,y,hy,hc⟩
 · exact .inl hl
 refine .inr ⟨h0,fun n Hc hF hn ho lo K => ?_⟩;rw [hc];obtain ⟨i,hi⟩:=At.of (nm:=Pos.name) hy;obtain ⟨id,he,hP⟩:=YZ (h.reg.old ho) hi.at';have hp:r.poss? y.name=some y:=by rw [(Pos.JJ hy).2];exact hy
 exact Vn (m:=[]) (h.reg.old ho) hi he hP (bx:=n+3) (by omega) (hF.box 3 (by omega) (by omega)) (fun _ Hc2 ho2 lo K=>ZaD ((h.reg.old ho).old ho2) (hP.old ho2) hp)
theorem a_In (h:HisIs te H hb es cs r V vE vC) (S:Pos.Safe r) {num tk:Int} {m p:Nm}:∃ w H2,R PT (.call H.n 105 [.ptr hb 0,.agg (evC num Pos.kIn [m,p] [tk] [])] H)=some (.ofVal w H2)∧w=.int .i64 (if num ≠ (es.length:Int)+1 then 11 else Pos.okA r tk (.into m p)):=by
 refine XT h (kind:=Pos.kIn) (names:=[m,p]) (vs:=[]) (a:=.into m p) (by decide) (nm:=[77,112]) (fv:=1) (f1:=273) (f2:=178) (l1:=fun n=>[.ptr (n+5) 0]) (l2:=fun _=>[]) (fun _=>rfl) (fun _=>rfl) (fun n m hm=>Yh (by omega)) (fun _ _ _=>rfl) (by decide) rfl (by decide) ?_;rcases Pos.k_in (r:=r) (m:=m) (p:=p) S with hl | ⟨h0,y,hy,hc⟩
 · exact .inl hl
 refine .inr ⟨h0,fun n Hc hF hn ho lo K => ?_⟩;rw [hc];obtain ⟨i,hi⟩:=At.of (nm:=Pos.name) hy;obtain ⟨id,he,hP⟩:=YZ (h.reg.old ho) hi.at';exact ZaQ (m:=m) (h.reg.old ho) hi he hP (bx:=n+5) (by omega) (hF.box 5 (by omega) (by omega)) (fun _ Hc2 ho2 lo K=>e_iIn ((h.reg.old ho).old ho2) (hP.old ho2))
theorem a_Out (h:HisIs te H hb es cs r V vE vC) (S:Pos.Safe r) {num tk:Int} {x:Nm}:∃ w H2,R PT (.call H.n 105 [.ptr hb 0,.agg (evC num Pos.YC [x] [tk] [])] H)=some (.ofVal w H2)∧w=.int .i64 (if num ≠ (es.length:Int)+1 then 11 else Pos.okA r tk (.out x)):=by
 refine XT h (kind:=Pos.YC) (names:=[x]) (vs:=[]) (a:=.out x) (by decide) (nm:=[109]) (fv:=1) (f1:=165) (f2:=179) (l1:=fun _=>[]) (l2:=fun _=>[]) (fun _=>rfl) (fun _=>rfl) (fun _ _ _=>rfl) (fun _ _ _=>rfl) (by decide) rfl (by decide) ?_;rcases Pos.k_out (r:=r) (x:=x)  with hl | ⟨h0,hc⟩
 · exact .inl hl
 refine .inr ⟨h0,fun n Hc hF hn ho lo K => ?_⟩;rw [hc];exact LT (h.reg.old ho)
theorem Zbr (h:HisIs te H hb es cs r V vE vC) (S:Pos.Safe r) {num tk:Int} {p:Nm} {v:Int} (hv:0≤v∧v≤999999999):∃ w H2,R PT (.call H.n 105 [.ptr hb 0,.agg (evC num Pos.YD [p] [tk,v] [])] H)=some (.ofVal w H2)∧w=.int .i64 (if num ≠ (es.length:Int)+1 then 11 else Pos.okA r tk (.staff p v)):=by
 refine XT h (kind:=Pos.YD) (names:=[p]) (vs:=[v]) (a:=.staff p v) (by decide) (nm:=[112]) (fv:=2) (f1:=273) (f2:=274) (l1:=fun n=>[.ptr (n+6) 0]) (l2:=fun n=>[.ptr (n+7) 0]) (fun _=>rfl) (fun _=>rfl) (fun n m hm=>Yh (by omega)) (fun n m hm=>Yh (by omega)) (by decide) rfl (by decide) ?_;rcases Pos.Zbd (r:=r) (p:=p) (v:=v)  with hl | ⟨h0,y,hy,hc⟩
 · exact .inl hl
 refine .inr ⟨h0,fun n Hc hF hn ho lo K => ?_⟩;rw [hc];obtain ⟨i,hi⟩:=At.of (nm:=Pos.name) hy;obtain ⟨id,he,hP⟩:=YZ (h.reg.old ho) hi.at';have hw:Zk .i64 (Int.add y.pers v)=y.pers+v:=by
  have:=S.pers y (Pos.JJ hy).1;show Zk .i64 (y.pers+v)=_;exact Qx (by omega) (by omega)
 exact Vn (m:=[]) (h.reg.old ho) hi he hP (bx:=n+6) (by omega) (hF.box 6 (by omega) (by omega)) (fun _ Hc2 ho2 lo K=>ZaF ((h.reg.old ho).old ho2) (hP.old ho2) hw)
theorem a_Off (h:HisIs te H hb es cs r V vE vC) (S:Pos.Safe r) {num tk:Int} {p:Nm} {v:Int}:∃ w H2,R PT (.call H.n 105 [.ptr hb 0,.agg (evC num Pos.YE [p] [tk,v] [])] H)=some (.ofVal w H2)∧w=.int .i64 (if num ≠ (es.length:Int)+1 then 11 else Pos.okA r tk (.off p v)):=by
 refine XT h (kind:=Pos.YE) (names:=[p]) (vs:=[v]) (a:=.off p v) (by decide) (nm:=[112]) (fv:=2) (f1:=273) (f2:=274) (l1:=fun n=>[.ptr (n+8) 0]) (l2:=fun n=>[.ptr (n+9) 0]) (fun _=>rfl) (fun _=>rfl) (fun n m hm=>Yh (by omega)) (fun n m hm=>Yh (by omega)) (by decide) rfl (by decide) ?_;rcases Pos.k_off (r:=r) (p:=p) (v:=v)  with hl | ⟨h0,y,hy,hc⟩
 · exact .inl hl
 refine .inr ⟨h0,fun n Hc hF hn ho lo K => ?_⟩;rw [hc];obtain ⟨i,hi⟩:=At.of (nm:=Pos.name) hy;obtain ⟨id,he,hP⟩:=YZ (h.reg.old ho) hi.at';exact Vn (m:=[]) (h.reg.old ho) hi he hP (bx:=n+8) (by omega) (hF.box 8 (by omega) (by omega)) (fun _ Hc2 ho2 lo K=>ZaH ((h.reg.old ho).old ho2) (hP.old ho2))
theorem Zbs (h:HisIs te H hb es cs r V vE vC) (S:Pos.Safe r) {num tk:Int} {p:Nm}:∃ w H2,R PT (.call H.n 105 [.ptr hb 0,.agg (evC num Pos.YF [p] [tk] [])] H)=some (.ofVal w H2)∧w=.int .i64 (if num ≠ (es.length:Int)+1 then 11 else Pos.okA r tk (.opn p)):=by
 refine XT h (kind:=Pos.YF) (names:=[p]) (vs:=[]) (a:=.opn p) (by decide) (nm:=[112]) (fv:=1) (f1:=273) (f2:=274) (l1:=fun n=>[.ptr (n+10) 0]) (l2:=fun n=>[.ptr (n+11) 0]) (fun _=>rfl) (fun _=>rfl) (fun n m hm=>Yh (by omega)) (fun n m hm=>Yh (by omega)) (by decide) rfl (by decide) ?_;rcases Pos.Zbe (r:=r) (p:=p) S with hl | ⟨h0,y,hy,hc⟩
 · exact .inl hl
 refine .inr ⟨h0,fun n Hc hF hn ho lo K => ?_⟩;rw [hc];obtain ⟨i,hi⟩:=At.of (nm:=Pos.name) hy;obtain ⟨id,he,hP⟩:=YZ (h.reg.old ho) hi.at';exact Vn (m:=[]) (h.reg.old ho) hi he hP (bx:=n+10) (by omega) (hF.box 10 (by omega) (by omega)) (fun _ Hc2 ho2 lo K=>ZaJ ((h.reg.old ho).old ho2) (hP.old ho2))
theorem Zbt (h:HisIs te H hb es cs r V vE vC) (S:Pos.Safe r) {num tk:Int} {p:Nm} {v:Int}:∃ w H2,R PT (.call H.n 105 [.ptr hb 0,.agg (evC num Pos.YG [p] [tk,v] [])] H)=some (.ofVal w H2)∧w=.int .i64 (if num ≠ (es.length:Int)+1 then 11 else Pos.okA r tk (.close p v)):=by
 refine XT h (kind:=Pos.YG) (names:=[p]) (vs:=[v]) (a:=.close p v) (by decide) (nm:=[112]) (fv:=2) (f1:=273) (f2:=274) (l1:=fun n=>[.ptr (n+12) 0]) (l2:=fun n=>[.ptr (n+13) 0]) (fun _=>rfl) (fun _=>rfl) (fun n m hm=>Yh (by omega)) (fun n m hm=>Yh (by omega)) (by decide) rfl (by decide) ?_;rcases Pos.Zbf (r:=r) (p:=p) (v:=v)  with hl | ⟨h0,y,hy,hc⟩
 · exact .inl hl
 refine .inr ⟨h0,fun n Hc hF hn ho lo K => ?_⟩;rw [hc];obtain ⟨i,hi⟩:=At.of (nm:=Pos.name) hy;obtain ⟨id,he,hP⟩:=YZ (h.reg.old ho) hi.at';exact Vn (m:=[]) (h.reg.old ho) hi he hP (bx:=n+12) (by omega) (hF.box 12 (by omega) (by omega)) (fun _ Hc2 ho2 lo K=>ZaL ((h.reg.old ho).old ho2) (hP.old ho2))
theorem Zbu (h:HisIs te H hb es cs r V vE vC) (S:Pos.Safe r) {num tk:Int} {p:Nm}:∃ w H2,R PT (.call H.n 105 [.ptr hb 0,.agg (evC num Pos.Y7 [p] [tk] [])] H)=some (.ofVal w H2)∧w=.int .i64 (if num ≠ (es.length:Int)+1 then 11 else Pos.okA r tk (.ret p)):=by
 refine XT h (kind:=Pos.Y7) (names:=[p]) (vs:=[]) (a:=.ret p) (by decide) (nm:=[112]) (fv:=1) (f1:=273) (f2:=274) (l1:=fun n=>[.ptr (n+14) 0]) (l2:=fun n=>[.ptr (n+15) 0]) (fun _=>rfl) (fun _=>rfl) (fun n m hm=>Yh (by omega)) (fun n m hm=>Yh (by omega)) (by decide) rfl (by decide) ?_;rcases Pos.k_ret (r:=r) (p:=p)  with hl | ⟨h0,y,hy,hc⟩
 · exact .inl hl
 refine .inr ⟨h0,fun n Hc hF hn ho lo K => ?_⟩;rw [hc];obtain ⟨i,hi⟩:=At.of (nm:=Pos.name) hy;obtain ⟨id,he,hP⟩:=YZ (h.reg.old ho) hi.at';have hp:r.poss? y.name=some y:=by rw [(Pos.JJ hy).2];exact hy
 have hm:r.machs.length+3≤Z1:=by have:=S.nM;unfold Z1;omega
 exact Vn (m:=[]) (h.reg.old ho) hi he hP (bx:=n+14) (by omega) (hF.box 14 (by omega) (by omega)) (fun _ Hc2 ho2 lo K=>ZaN ((h.reg.old ho).old ho2) (hP.old ho2) hp hm)
theorem Zbv (h:HisIs te H hb es cs r V vE vC) (S:Pos.Safe r) {num tk:Int} {p:Nm} {v:Int} (hv:0≤v):∃ w H2,R PT (.call H.n 105 [.ptr hb 0,.agg (evC num Pos.YH [p] [tk,v] [])] H)=some (.ofVal w H2)∧w=.int .i64 (if num ≠ (es.length:Int)+1 then 11 else Pos.okA r tk (.raise p v)):=by
 refine XT h (kind:=Pos.YH) (names:=[p]) (vs:=[v]) (a:=.raise p v) (by decide) (nm:=[112]) (fv:=2) (f1:=192) (f2:=274) (l1:=fun _=>[]) (l2:=fun n=>[.ptr (n+16) 0]) (fun _=>rfl) (fun _=>rfl) (fun _ _ _=>rfl) (fun n m hm=>Yh (by omega)) (by decide) rfl (by decide) ?_;rcases Pos.Zbg (r:=r) (p:=p) (v:=v) hv with hl | ⟨h0,y,hy,hc⟩
 · exact .inl hl
 refine .inr ⟨h0,fun n Hc hF hn ho lo K => ?_⟩;rw [hc];obtain ⟨i,hi⟩:=At.of (nm:=Pos.name) hy;exact Zas (h.reg.old ho) hi
end
end Go.Sim

namespace Go.Sim
open Go Go.Proofs
open Go.Sim.Pos (Nm Trk Flt Trn Pos Mch Reg Ev Len ZW Yd Y8 Ye)
set_option maxRecDepth 100000
set_option maxHeartbeats 4000000
variable {te:TypeId}
theorem Zbw {H:Heap} {hb:Nat} {es cs:List Ev} {r:Reg} {V:RegV} {vE vC:AV} (h:HisIs te H hb es cs r V vE vC) {num:Int}:∃ w H2,R PT (.call H.n 105 [.ptr hb 0,.agg (evC num Pos.ZN [] [] [])] H)=some (.ofVal w H2)∧w=.int .i64 (Pos.Q1 ⟨cs,r⟩ es.length ⟨num,Pos.ZN,[],[],[]⟩):=by
 refine Za (C:=PT) (f:=105) (lo:=H.n) (args:=[.ptr hb 0,.agg (evC num Pos.ZN [] [] [])]) (H:=H) (fn:=Tryz.f105) (Q:=fun w _=>w=.int .i64 (Pos.Q1 ⟨cs,r⟩ es.length ⟨num,Pos.ZN,[],[],[]⟩)) (by kernel_rfl) Tryz.func105 rfl rfl ?_;have hh0:=fun H'=>h.h0 (H':=H')
 have hh1:=fun H'=>h.h1 (H':=H')
 have nE:=fun H'=>(Q7 h.aE).len (t:=22) (by kernel_rfl) H'
 have nC:=fun H'=>(Q7 h.aC).len (t:=22) (by kernel_rfl) H'
 simp only [List.length_map] at nE nC;have uE:=fun n (hn:H.n≤n)=>(Q7 h.aE).under hn
 have uC:=fun n (hn:H.n≤n)=>(Q7 h.aC).under hn
 have hbn:=eq_true h.reg.bn;have hw:Zk .i64 (Int.add (es.length:Int) 1)=(es.length:Int)+1:=by
  have:=h.lE;exact Ym (n:=es.length+1) (by omega)
 have hku:Z6 Pos.ZN [117,110,100,111]=true:=by decide
 unfold Pos.Q1;by_cases c1:¬ num=(es.length:Int)+1
 · rw [if_pos c1];simp (maxDischargeDepth:=12) only [go_sem,reduceEqDiff,reduceAdd,reduceSub,reduceCtorEq,hh0,nE,hw,c1]
 rw [if_neg c1,if_pos rfl];have c1:=Decidable.not_not.1 c1;rcases List.eq_nil_or_concat cs with rfl | ⟨ds,l,rfl⟩
 · have e0:((([]:List Ev).length:Nat):Int)=0:=rfl;rw [e0] at nC;simp (maxDischargeDepth:=12) only [go_sem,reduceEqDiff,reduceAdd,reduceSub,reduceCtorEq,hh0,hh1,nE,nC,hw,eq_true c1,hku];rfl
 · rw [List.concat_eq_append] at *;have hlen:(ds++[l]).length=ds.length+1:=by simp
   rw [hlen] at nC;have hlC:=h.lC;rw [hlen] at hlC;have hne:((ds.length+1:Nat):Int) ≠ 0:=by omega
   have hne':=eq_false hne;have hw2:Zk .i64 (Int.sub ((ds.length+1:Nat):Int) 1)=(ds.length:Int):=Dq (k:=ds.length+1) (by omega) (Nat.le_refl _) (by unfold Z1;omega);have hx:=(Q7 h.aC).idx (t:=22) (by kernel_rfl) (by kernel_rfl) (Zw (by intro x;rfl) _) (by rw [List.length_map,hlen];omega:ds.length < _) .i64;obtain ⟨id,he,hid,hf,_⟩:=AL h.aC (Zw (by intro x;rfl) _) (i:=ds.length) (row:=l.row) (by rw [List.getElem?_map];simp);have hk1:=fun H' (ho:Old H.n H H')=>hf ho (k:=1) (c:=.str l.kind) (t:=9) rfl (by kernel_rfl) (by kernel_rfl)
   have hidt:=eq_true hid;have hlast:(ds++[l]).getLast? = some l:=by simp
   have hJ:(match (ds++[l]).getLast? with | none=>(12:Int) | some l=>if l.kind=Pos.Yo∨l.kind=Pos.Y7 then 21 else 0)=if l.kind=Pos.Yo∨l.kind=Pos.Y7 then 21 else 0:=by rw [hlast]
   rw [hlast];simp only;have eE:Z6 l.kind [101,110,116,101,114]=decide (l.kind=Pos.Yo):=Yu _ _;have eR:Z6 l.kind [114,101,116,117,114,110]=decide (l.kind=Pos.Y7):=Yu _ _;have hz:(ds.length+1=0)=False:=eq_false (by omega);by_cases k1:l.kind=Pos.Yo
   · have k1':decide (l.kind=Pos.Yo)=true:=decide_eq_true k1;rw [if_pos (show l.kind=Pos.Yo∨l.kind=Pos.Y7 from .inl k1)]
     simp (maxDischargeDepth:=12) only [go_sem,reduceEqDiff,reduceAdd,reduceSub,reduceCtorEq,hh0,hh1,nE,nC,hw,eq_true c1,hku,hne',hw2,hx,he,hk1,eE,k1',UU];rfl
   · by_cases k2:l.kind=Pos.Y7
     · rw [if_pos (show l.kind=Pos.Yo∨l.kind=Pos.Y7 from .inr k2)]
       have k1':decide (l.kind=Pos.Yo)=false:=decide_eq_false k1;have k2':decide (l.kind=Pos.Y7)=true:=decide_eq_true k2;simp (maxDischargeDepth:=12) only [go_sem,reduceEqDiff,reduceAdd,reduceSub,reduceCtorEq,hh0,hh1,nE,nC,hw,eq_true c1,hku,hne',hw2,hx,he,hk1,eE,eR,k1',k2',UU];rfl
     · rw [if_neg (show ¬ (l.kind=Pos.Yo∨l.kind=Pos.Y7) from fun h=>h.elim k1 k2)]
       have k1':decide (l.kind=Pos.Yo)=false:=decide_eq_false k1;have k2':decide (l.kind=Pos.Y7)=false:=decide_eq_false k2;simp (maxDischargeDepth:=12) only [go_sem,reduceEqDiff,reduceAdd,reduceSub,reduceCtorEq,hh0,hh1,nE,nC,hw,eq_true c1,hku,hne',hw2,hx,he,hk1,eE,eR,k1',k2',UU];rfl
theorem Zbx (nm:Nm→Bool) {H:Heap} {hb:Nat} {es cs:List Ev} {r:Reg} {V:RegV} {vE vC:AV} (h:HisIs te H hb es cs r V vE vC) (S:Pos.Safe r) {e:Ev} (hc:Pos.Zp nm e=0):∃ w H2,R PT (.call H.n 105 [.ptr hb 0,.agg e.row] H)=some (.ofVal w H2)∧w=.int .i64 (Pos.Q1 ⟨cs,r⟩ es.length e):=by
 by_cases hu:e.kind=Pos.ZN
 · have he:=Pos.LY nm hc hu;rw [he];exact Zbw h
 obtain ⟨tk,a,ha,he,h0,h9⟩:=Pos.Fl nm hc hu;obtain ⟨_,_,_,_,_,_,hv,_⟩:=Pos.Kw nm hc;have hJ:Pos.Q1 ⟨cs,r⟩ es.length e=if e.num ≠ (es.length:Int)+1 then 11 else Pos.okA r tk a:=by
  unfold Pos.Q1;rw [if_neg hu];simp only [ha]
 rw [hJ];clear hJ hc hu;generalize e.num=num at he ⊢;cases a<;>(simp only [he,Pos.Zf] at hv ⊢;clear he)
 case track=>exact Zbi h S
 case fault=>exact Zbj h S (hv _ (by simp)).1
 case answer=>exact Zbk h S
 case repair=>exact Zbl h S
 case enter=>exact Zbm h S
 case leave=>exact Zbn h S
 case take=>exact Zbo h S
 case prot=>exact Zbp h S
 case clear=>exact Zbq h S
 case into=>exact a_In h S
 case out=>exact a_Out h S
 case staff=>exact Zbr h S (hv _ (by simp))
 case off=>exact a_Off h S
 case opn=>exact Zbs h S
 case close=>exact Zbt h S
 case ret=>exact Zbu h S
 case raise=>exact Zbv h S (hv _ (by simp)).1
theorem M5 (nm:Nm→Bool) {H:Heap} {hb:Nat} {es cs:List Ev} {r:Reg} {V:RegV} {vE vC:AV} (h:HisIs te H hb es cs r V vE vC) (S:Pos.Safe r) {e:Ev} (hc:Pos.Zp nm e=0) {Hc:Heap} (ho:Old H.n H Hc) {lo:Nat} {K:AV→Heap→Prop}:VO (Z8 PT (R PT) lo 105 [.ptr hb 0,.agg e.row] Hc) K=K (.int .i64 (Pos.Q1 ⟨cs,r⟩ es.length e)) Hc:=by
 obtain ⟨w,H2,h1,h2⟩:=Zbx nm (h.old ho) S hc;exact ZF (en105 rfl) ⟨H2,h1⟩ (by rw [h2];rfl) rfl
end Go.Sim

namespace Go.Sim
open Go Go.Proofs
open Go.Sim.Pos (Nm Trk Flt Trn Pos Mch Reg Ev Len ZW Yd Y8 Ye)
set_option maxRecDepth 100000
set_option maxHeartbeats 4000000
noncomputable def sst (lo:Nat) (H:Heap) (t:TypeId) (a v:AV):Option Heap:=Qo NC.P lo H t a v
section
variable {rec:Rec} {fid lo:Nat} {T:TT AV} {H:Heap} {K:AV→Heap→Prop} {d:Option Tmp} {t:TypeId} {p:String} {af:Array Edge} {gd:Option (Nat × Bool)}
theorem Zby (t':TypeId) (a x:Operand):VO (aop PT rec fid lo ⟨d,.store t' a x,t,p,af,gd⟩ T H) K=AO (Z4 PT T a) fun a=>AO (Z4 PT T x) fun x=>AO (sst lo H t' a x) fun H=>K Y9 H:=Ey t' a x
end
attribute [go_sem ↓ 2000] Zby
theorem Zbz (lo:Nat) (H:Heap) (t:TypeId) (a b:Nat) (v:AV):sst lo H t (.ptr a b) v=Qo NC.P lo H t (.ptr a b) v:=rfl
attribute [go_sem 100] Zbz
structure Chg (lo b:Nat) (X:ABlk→Prop) (H H':Heap):Prop where
 n:H.n≤H'.n
 ch:∀ i,i < H.n→H'.get i=H.get i∨(lo≤i∧(i=b∨X (H.get i)))
def Xt (sz:Nat) (te:TypeId):ABlk→Prop:=fun x=>∃ cs,x=.row cs sz te
def XC:ABlk→Prop:=fun x=>∃ cs sz te,x=.row cs sz te
theorem Chg.mono {lo b:Nat} {X Y:ABlk→Prop} {H H':Heap} (c:Chg lo b X H H') (h:∀ x,X x→Y x):Chg lo b Y H H' :=
 ⟨c.n,fun i hi=>(c.ch i hi).imp id fun ⟨a,d⟩=>⟨a,d.imp id (h _)⟩⟩
theorem Chg.old {lo b:Nat} {X:ABlk→Prop} {H H':Heap} (c:Chg lo b X H H') (hl:lo≤H.n):Old lo H H' :=
 ⟨Nat.le_trans hl c.n,fun i hi=>(c.ch i (by omega)).elim id fun h=>absurd h.1 (by omega)⟩
theorem Chg.refl {lo b:Nat} {X:ABlk→Prop} (H:Heap):Chg lo b X H H:=⟨Nat.le_refl _,fun _ _=>.inl rfl⟩
theorem Chg.push {lo b:Nat} {X:ABlk→Prop} {H H':Heap} (c:Chg lo b X H H') (x:ABlk):Chg lo b X H (H'.push x) :=
 ⟨by simp;have:=c.n;omega,fun i hi=>by rw [Heap.get_push,if_neg (by have:=c.n;omega)];exact c.ch i hi⟩
theorem Chg.set {lo b:Nat} {X:ABlk→Prop} {H H':Heap} (c:Chg lo b X H H') {j:Nat} (hj:lo≤j) (h:j=b∨X (H.get j)∨H.n≤j) (x:ABlk):Chg lo b X H (H'.set j x) :=
 ⟨by simpa using c.n,fun i hi=>by
   rw [Heap.get_set];split
   · rename_i he
     subst he;rcases h with h | h | h
     · exact .inr ⟨hj,.inl h⟩
     · exact .inr ⟨hj,.inr h⟩
     · omega
   · exact c.ch i hi⟩
theorem Chg.to {lo b:Nat} {X:ABlk→Prop} {H H1 H2:Heap} (c:Chg lo b X H H1) (d:Chg lo b X H1 H2):Chg lo b X H H2 :=
 ⟨Nat.le_trans c.n d.n,fun i hi=>by
   rcases c.ch i hi with h | h
   · rcases d.ch i (Nat.lt_of_lt_of_le hi c.n) with h2 | ⟨h2,h3⟩
     · exact .inl (h2.trans h)
     · exact .inr ⟨h2,by rw [← h];exact h3⟩
   · exact .inr h⟩
theorem Chg.cells {lo b:Nat} {H H':Heap} (c:Chg lo b XC H H') {i:Nat} {cs:List AV} {e:TypeId} (hi:i < H.n) (hb:i ≠ b) (h:H.get i=.cells cs e):H'.get i=.cells cs e:=by
 rcases c.ch i hi with h2 | ⟨_,h2 | ⟨_,_,_,h2⟩⟩
 · rw [h2,h]
 · exact absurd h2 hb
 · rw [h] at h2;cases h2
def PW (lo:Nat) (H:Heap) (v:AV) (sz:Nat) (te:TypeId) (rows:List (List AV)):Prop:=∃ t,v=.ps t rows∧Zj lo H t rows sz te
def SW (lo:Nat) (H:Heap) (v:AV) (sz:Nat) (te:TypeId) (rows:List (List AV)):Prop:=Pos.SV sz te H v rows ∧ ∀ i a b c d,v=.rs i a b c d→lo≤i
theorem PW.pa {lo sz:Nat} {te:TypeId} {H:Heap} {v:AV} {rows:List (List AV)} (h:PW lo H v sz te rows):PA H v sz te rows:=by
 obtain ⟨t,h1,h2 | ⟨j,h2,h3,h4,h5⟩⟩:=h
 · exact ⟨t,h1,.inl h2⟩
 · exact ⟨t,h1,.inr ⟨j,h2,h3,Nat.zero_le _,h5⟩⟩
theorem PW.chg {lo b sz':Nat} {X:ABlk→Prop} {te':TypeId} {H H':Heap} {v:AV} {rows:List (List AV)} (h:PW lo H v sz' te' rows) (c:Chg lo b X H H') (hne:∀ cs,¬ X (.row cs sz' te')) (hb:∃ cs e,H.get b=.cells cs e):PW lo H' v sz' te' rows:=by
 obtain ⟨t,h1,h2 | ⟨j,h2,h3,h4,h5,h6⟩⟩:=h
 · exact ⟨t,h1,.inl h2⟩
 · refine ⟨t,h1,.inr ⟨j,h2,h3,h4,Nat.lt_of_lt_of_le h5 c.n, ?_⟩⟩;rcases c.ch j h5 with h7 | ⟨_,rfl | h7⟩
   · rw [h7,h6]
   · obtain ⟨cs,e,hb⟩:=hb;rw [h6] at hb;cases hb
   · rw [h6] at h7;exact absurd h7 (hne _)
theorem ZbA {lo b sz':Nat} {X:ABlk→Prop} {te':TypeId} {H H':Heap} {v:AV} {rows:List (List AV)} (h:Pos.SV sz' te' H v rows) (c:Chg lo b X H H') (hne:∀ cs,¬ X (.row cs sz' te')) (hb:∃ cs e,H.get b=.cells cs e):Pos.SV sz' te' H' v rows:=by
 rcases h with h | ⟨id,cs,m,h1,h2,h3,h4⟩
 · exact .inl h
 · refine .inr ⟨id,cs,m,h1,Nat.lt_of_lt_of_le h2 c.n, ?_,h4⟩;rcases c.ch id h2 with h7 | ⟨_,rfl | h7⟩
   · rw [h7,h3]
   · obtain ⟨cs,e,hb⟩:=hb;rw [h3] at hb;cases hb
   · rw [h3] at h7;exact absurd h7 (hne _)
theorem SW.chg {lo b sz':Nat} {X:ABlk→Prop} {te':TypeId} {H H':Heap} {v:AV} {rows:List (List AV)} (h:SW lo H v sz' te' rows) (c:Chg lo b X H H') (hne:∀ cs,¬ X (.row cs sz' te')) (hb:∃ cs e,H.get b=.cells cs e):SW lo H' v sz' te' rows:=⟨ZbA h.1 c hne hb,h.2⟩
theorem app_w {lo sz b:Nat} {te:TypeId} {H:Heap} {v:AV} {rows:List (List AV)} (h:PW lo H v sz te rows) (hlo:lo≤H.n) {r:List AV} (h1:rows.length+1≤Z1) (h2:XV r=true) (h2':r.map AV.strip0=r) (h3:0 < sz) (h4:Len sz rows) :
 ∃ v' H',Xn lo H sz te v [r]=some (v',H')∧PW lo H' v' sz te (rows++[r])∧Chg lo b (Xt sz te) H H':=by
 have h4':rows.all (fun r=>r.length=sz)=true:=List.all_eq_true.2 fun x hx=>decide_eq_true (h4 x hx)
 obtain ⟨t,rfl,⟨rfl,rfl⟩ | ⟨j,rfl,h6,hj,h7,h8⟩⟩:=h
 · refine ⟨.ps (.tok H.n) ([]++[r]),H.push (.row [] sz te), ?_,⟨_,rfl,.inr ⟨H.n,rfl,by simp,hlo,by simp,by rw [Heap.get_push,if_pos rfl]⟩⟩,(Chg.refl H).push _⟩;have:=Dk (lo:=lo) (H:=H) (e:=te) (sz:=sz) (rx:=[r]) (by simp) (by show 1≤1073741824;decide) (by simp [h2]) h3;rw [this];simp [h2']
 · refine ⟨.ps (.tok H.n) (rows++[r]),(H.set j .dead).push (.row [] sz te), ?_,⟨_,rfl,.inr ⟨H.n,rfl,by simp,hlo,by simp,by rw [Heap.get_push,if_pos (by simp)]⟩⟩,((Chg.refl H).set hj (.inr (.inl ⟨[],h8⟩)) _).push _⟩;have:=Dl (lo:=lo) (H:=H) (e:=te) (sz:=sz) (rows:=rows) (rx:=[r]) (k:=j) (by simp) (by simpa using h1) (by simp [h2]) h3 h4' h8 hj h6;rw [this];simp [h2']
theorem app_s {lo sz b:Nat} {te:TypeId} {H:Heap} {v:AV} {rows:List (List AV)} (r:List AV) (h:SW lo H v sz te rows) (hlo:lo≤H.n) (hL:Len sz rows) (hr:r.length=sz) (ho:r.all AV.one=true) (hs:0 < sz) (hm:rows.length+1≤Z1) :
 ∃ v' H',XW lo H sz te v [r]=some (v',H')∧SW lo H' v' sz te (rows++[r])∧Chg lo b (Xt sz te) H H':=by
 have hf:=ZW hL;obtain ⟨h,hid⟩:=h;rcases h with ⟨rfl,rfl⟩ | ⟨id,cs,m,rfl,h2,h3,h4⟩
 · refine ⟨.rs H.n 0 1 sz none,H.push (.row r sz te), ?_,⟨.inr ⟨H.n,[],0,rfl,by simp,by rw [Heap.get_push,if_pos rfl];simp,by simp⟩,fun i a b c d he=>by cases he;exact hlo⟩,(Chg.refl H).push _⟩;unfold XW;simp only [Tok.full,List.length_nil,Nat.zero_add,List.length_cons,List.all_cons,ho,List.all_nil,hs,decide_true,Bool.and_true,Bool.true_and];rw [if_pos (by simpa using hm)];simp
 · have hil:=hid _ _ _ _ _ rfl;by_cases hc:m=0
   · subst hc;have hcs:cs=[]:=List.length_eq_zero_iff.1 (by omega);subst hcs;rw [List.append_nil] at h3;refine ⟨.rs H.n 0 (rows.length+1) sz none,(H.set id .dead).push (.row (rows++[r]).flatten sz te), ?_,⟨.inr ⟨H.n,[],0,by simp,by simp,by rw [Heap.get_push,if_pos (by simp)];simp,by simp⟩,fun i a b c d he=>by cases he;exact hlo⟩,((Chg.refl H).set hil (.inr (.inl ⟨_,h3⟩)) _).push _⟩;unfold XW;simp only [List.length_cons,List.length_nil,Nat.zero_add,List.all_cons,ho,List.all_nil,hs,hil,decide_true,Bool.and_true,Option.isNone_none,h3,hf,if_true];rw [if_pos (by simpa using hm)];simp
   · have hm1:sz≤cs.length:=by
      rw [h4]
      calc sz=1 * sz:=(Nat.one_mul _).symm
       _≤m * sz:=Nat.mul_le_mul_right _ (by omega)
     have hov:=Pos.Ih (A:=rows.flatten) (B:=cs) (r:=r);rw [hf] at hov;refine ⟨.rs id 0 (rows.length+1) sz none,H.set id (.row ((rows++[r]).flatten++cs.drop sz) sz te), ?_,⟨.inr ⟨id,cs.drop sz,m - 1,by simp,by simpa using h2,by rw [Heap.get_set,if_pos rfl],by rw [List.length_drop,h4,Nat.sub_mul];omega⟩,fun i a b c d he=>by cases he;exact hil⟩,(Chg.refl H).set hil (.inr (.inl ⟨_,h3⟩)) _⟩;unfold XW;simp only [List.length_cons,List.length_nil,Nat.zero_add,List.all_cons,ho,List.all_nil,hs,hil,decide_true,Bool.and_true,Option.isNone_none,h3,if_true];rw [if_pos (by simpa using hm)];have c1':¬ (rows.length * sz=(rows.flatten++cs).length):=by rw [List.length_append,hf];omega
     have c2':(rows.length+1) * sz≤(rows.flatten++cs).length:=by rw [List.length_append,hf,Nat.succ_mul];omega
     simp only [c1',c2',decide_true,decide_false,Bool.and_false,Bool.and_true,Bool.false_eq_true,if_false,if_true];have:[r].flatten=r:=by simp
     rw [this,hov,hr];simp
theorem PW.old {lo sz:Nat} {te:TypeId} {H H':Heap} {v:AV} {rows:List (List AV)} (h:PW lo H v sz te rows) (ho:Old H.n H H'):PW lo H' v sz te rows:=by
 obtain ⟨t,h1,h2 | ⟨j,h2,h3,h4,h5,h6⟩⟩:=h
 · exact ⟨t,h1,.inl h2⟩
 · exact ⟨t,h1,.inr ⟨j,h2,h3,h4,Nat.lt_of_lt_of_le h5 ho.1,by rw [ho.2 j h5];exact h6⟩⟩
theorem SW.old {lo sz:Nat} {te:TypeId} {H H':Heap} {v:AV} {rows:List (List AV)} (h:SW lo H v sz te rows) (ho:Old H.n H H'):SW lo H' v sz te rows:=⟨Gd h.1 ho,h.2⟩
structure RegW (lo:Nat) (H:Heap) (b:Nat) (pre post:List AV) (e:TypeId) (r:Reg) (V:RegV):Prop where
 bn:b < H.n
 lob:lo≤b
 blk:H.get b=.cells (pre++(Zr r V++post)) e
 aT:PW lo H V.vT 2 63 (r.tracks.map Pos.Trk.row)
 aF:SW lo H V.vF 7 65 (r.faults.map Pos.Flt.row)
 aR:PW lo H V.vR 3 61 (r.trains.map Pos.Trn.row)
 aP:SW lo H V.vP 10 59 (r.poss.map Pos.Pos.row)
 aM:PW lo H V.vM 2 67 (r.machs.map Pos.Mch.row)
 lT:r.tracks.length≤Z1
 lF:r.faults.length≤Z1
 lR:r.trains.length≤Z1
 lP:r.poss.length≤Z1
 lM:r.machs.length≤Z1
section
variable {lo:Nat} {H H':Heap} {b:Nat} {pre post:List AV} {e:TypeId} {r:Reg} {V:RegV}
theorem RegW.is (h:RegW lo H b pre post e r V):RegIs H b pre.length r V:=⟨h.bn,⟨pre,post,e,h.blk,rfl⟩,h.aT.pa,h.aF.1,h.aR.pa,h.aP.1,h.aM.pa,h.lT,h.lF,h.lR,h.lP,h.lM⟩
theorem RegW.old (h:RegW lo H b pre post e r V) (ho:Old H.n H H'):RegW lo H' b pre post e r V:=⟨Nat.lt_of_lt_of_le h.bn ho.1,h.lob,by rw [ho.2 b h.bn];exact h.blk,h.aT.old ho,h.aF.old ho,h.aR.old ho,h.aP.old ho,h.aM.old ho,h.lT,h.lF,h.lR,h.lP,h.lM⟩
def Yg:ABlk→Prop:=fun x=>∃ cs sz te,x=.row cs sz te∧te ≠ 53
theorem Jo {lo b k:Nat} {H:Heap} {pre cs post:List AV} {e t:TypeId} {v:AV} (hb:H.get b=.cells (pre++(cs++post)) e) (hlo:lo≤b) (hk:k < cs.length) (hs:Zh NC.P t=some 1) (h1:v.cells=[v]) (h2:v.one=true):sst lo H t (.ptr b (pre.length+k)) v=some (H.set b (.cells (pre++(cs.set k v++post)) e)):=by
 show Qo NC.P lo H t (.ptr b (pre.length+k)) v=_;unfold Qo;simp only [hs,h1,List.length_cons,List.length_nil,List.all_cons,List.all_nil,h2,hlo,decide_true,Bool.and_true,Nat.zero_add,if_true,hb,Qn];rw [if_pos (by simp only [List.length_append];omega)];simp only [over,List.length_cons,List.length_nil,Nat.zero_add];have e1:(pre++(cs++post)).take (pre.length+k)=pre++cs.take k:=by
  rw [List.take_length_add_append,List.take_append_of_le_length (by omega)]
 have e2:(pre++(cs++post)).drop (pre.length+k+1)=cs.drop (k+1)++post:=by
  rw [Nat.add_assoc,List.drop_length_add_append,List.drop_append_of_le_length (by omega)]
 rw [e1,e2,List.set_eq_take_append_cons_drop,if_pos hk];simp
theorem QI (H:Heap) (hlo:lo≤b) (x:ABlk) {X:ABlk→Prop}:Chg lo b X H (H.set b x):=(Chg.refl H).set hlo (.inl rfl) x
theorem RegW.putT (h:RegW lo H b pre post e r V) (c:Chg lo b (Xt 2 63) H H') (hb:H'.get b=H.get b) {xs:List Trk} {v:AV} (hv:PW lo H' v 2 63 (xs.map Pos.Trk.row)) (hl:xs.length≤Z1):RegW lo (H'.set b (.cells (pre++(Zr { r with tracks:=xs } { V with vT:=v }++post)) e)) b pre post e { r with tracks:=xs } { V with vT:=v }∧Chg lo b Yg H (H'.set b (.cells (pre++(Zr { r with tracks:=xs } { V with vT:=v }++post)) e)):=by
 have hcb:∃ cs e,H.get b=.cells cs e:=⟨_,_,h.blk⟩;have d:=c.set h.lob (.inl rfl) (.cells (pre++(Zr { r with tracks:=xs } { V with vT:=v }++post)) e)
 have hv2:=hv.chg (X:=fun _=>False) (QI H' h.lob (.cells (pre++(Zr { r with tracks:=xs } { V with vT:=v }++post)) e)) (fun _=>id) ⟨_,_,hb.trans h.blk⟩
 exact ⟨⟨by simpa using Nat.lt_of_lt_of_le h.bn c.n,h.lob,by rw [Heap.get_set,if_pos rfl],hv2,h.aF.chg d (fun cs ⟨_,hx⟩=>by cases hx) hcb,h.aR.chg d (fun cs ⟨_,hx⟩=>by cases hx) hcb,h.aP.chg d (fun cs ⟨_,hx⟩=>by cases hx) hcb,h.aM.chg d (fun cs ⟨_,hx⟩=>by cases hx) hcb,hl,h.lF,h.lR,h.lP,h.lM⟩,d.mono fun x ⟨cs,hx⟩=>⟨cs,_,_,hx,by decide⟩⟩
theorem RegW.putF (h:RegW lo H b pre post e r V) (c:Chg lo b (Xt 7 65) H H') (hb:H'.get b=H.get b) {xs:List Flt} {v:AV} (hv:SW lo H' v 7 65 (xs.map Pos.Flt.row)) (hl:xs.length≤Z1):RegW lo (H'.set b (.cells (pre++(Zr { r with faults:=xs } { V with vF:=v }++post)) e)) b pre post e { r with faults:=xs } { V with vF:=v }∧Chg lo b Yg H (H'.set b (.cells (pre++(Zr { r with faults:=xs } { V with vF:=v }++post)) e)):=by
 have hcb:∃ cs e,H.get b=.cells cs e:=⟨_,_,h.blk⟩;have d:=c.set h.lob (.inl rfl) (.cells (pre++(Zr { r with faults:=xs } { V with vF:=v }++post)) e)
 have hv2:=hv.chg (X:=fun _=>False) (QI H' h.lob (.cells (pre++(Zr { r with faults:=xs } { V with vF:=v }++post)) e)) (fun _=>id) ⟨_,_,hb.trans h.blk⟩
 exact ⟨⟨by simpa using Nat.lt_of_lt_of_le h.bn c.n,h.lob,by rw [Heap.get_set,if_pos rfl],h.aT.chg d (fun cs ⟨_,hx⟩=>by cases hx) hcb,hv2,h.aR.chg d (fun cs ⟨_,hx⟩=>by cases hx) hcb,h.aP.chg d (fun cs ⟨_,hx⟩=>by cases hx) hcb,h.aM.chg d (fun cs ⟨_,hx⟩=>by cases hx) hcb,h.lT,hl,h.lR,h.lP,h.lM⟩,d.mono fun x ⟨cs,hx⟩=>⟨cs,_,_,hx,by decide⟩⟩
theorem RegW.putR (h:RegW lo H b pre post e r V) (c:Chg lo b (Xt 3 61) H H') (hb:H'.get b=H.get b) {xs:List Trn} {v:AV} (hv:PW lo H' v 3 61 (xs.map Pos.Trn.row)) (hl:xs.length≤Z1):RegW lo (H'.set b (.cells (pre++(Zr { r with trains:=xs } { V with vR:=v }++post)) e)) b pre post e { r with trains:=xs } { V with vR:=v }∧Chg lo b Yg H (H'.set b (.cells (pre++(Zr { r with trains:=xs } { V with vR:=v }++post)) e)):=by
 have hcb:∃ cs e,H.get b=.cells cs e:=⟨_,_,h.blk⟩;have d:=c.set h.lob (.inl rfl) (.cells (pre++(Zr { r with trains:=xs } { V with vR:=v }++post)) e)
 have hv2:=hv.chg (X:=fun _=>False) (QI H' h.lob (.cells (pre++(Zr { r with trains:=xs } { V with vR:=v }++post)) e)) (fun _=>id) ⟨_,_,hb.trans h.blk⟩
 exact ⟨⟨by simpa using Nat.lt_of_lt_of_le h.bn c.n,h.lob,by rw [Heap.get_set,if_pos rfl],h.aT.chg d (fun cs ⟨_,hx⟩=>by cases hx) hcb,h.aF.chg d (fun cs ⟨_,hx⟩=>by cases hx) hcb,hv2,h.aP.chg d (fun cs ⟨_,hx⟩=>by cases hx) hcb,h.aM.chg d (fun cs ⟨_,hx⟩=>by cases hx) hcb,h.lT,h.lF,hl,h.lP,h.lM⟩,d.mono fun x ⟨cs,hx⟩=>⟨cs,_,_,hx,by decide⟩⟩
theorem RegW.putP (h:RegW lo H b pre post e r V) (c:Chg lo b (Xt 10 59) H H') (hb:H'.get b=H.get b) {xs:List Pos} {v:AV} (hv:SW lo H' v 10 59 (xs.map Pos.Pos.row)) (hl:xs.length≤Z1):RegW lo (H'.set b (.cells (pre++(Zr { r with poss:=xs } { V with vP:=v }++post)) e)) b pre post e { r with poss:=xs } { V with vP:=v }∧Chg lo b Yg H (H'.set b (.cells (pre++(Zr { r with poss:=xs } { V with vP:=v }++post)) e)):=by
 have hcb:∃ cs e,H.get b=.cells cs e:=⟨_,_,h.blk⟩;have d:=c.set h.lob (.inl rfl) (.cells (pre++(Zr { r with poss:=xs } { V with vP:=v }++post)) e)
 have hv2:=hv.chg (X:=fun _=>False) (QI H' h.lob (.cells (pre++(Zr { r with poss:=xs } { V with vP:=v }++post)) e)) (fun _=>id) ⟨_,_,hb.trans h.blk⟩
 exact ⟨⟨by simpa using Nat.lt_of_lt_of_le h.bn c.n,h.lob,by rw [Heap.get_set,if_pos rfl],h.aT.chg d (fun cs ⟨_,hx⟩=>by cases hx) hcb,h.aF.chg d (fun cs ⟨_,hx⟩=>by cases hx) hcb,h.aR.chg d (fun cs ⟨_,hx⟩=>by cases hx) hcb,hv2,h.aM.chg d (fun cs ⟨_,hx⟩=>by cases hx) hcb,h.lT,h.lF,h.lR,hl,h.lM⟩,d.mono fun x ⟨cs,hx⟩=>⟨cs,_,_,hx,by decide⟩⟩
theorem RegW.putM (h:RegW lo H b pre post e r V) (c:Chg lo b (Xt 2 67) H H') (hb:H'.get b=H.get b) {xs:List Mch} {v:AV} (hv:PW lo H' v 2 67 (xs.map Pos.Mch.row)) (hl:xs.length≤Z1):RegW lo (H'.set b (.cells (pre++(Zr { r with machs:=xs } { V with vM:=v }++post)) e)) b pre post e { r with machs:=xs } { V with vM:=v }∧Chg lo b Yg H (H'.set b (.cells (pre++(Zr { r with machs:=xs } { V with vM:=v }++post)) e)):=by
 have hcb:∃ cs e,H.get b=.cells cs e:=⟨_,_,h.blk⟩;have d:=c.set h.lob (.inl rfl) (.cells (pre++(Zr { r with machs:=xs } { V with vM:=v }++post)) e)
 have hv2:=hv.chg (X:=fun _=>False) (QI H' h.lob (.cells (pre++(Zr { r with machs:=xs } { V with vM:=v }++post)) e)) (fun _=>id) ⟨_,_,hb.trans h.blk⟩
 exact ⟨⟨by simpa using Nat.lt_of_lt_of_le h.bn c.n,h.lob,by rw [Heap.get_set,if_pos rfl],h.aT.chg d (fun cs ⟨_,hx⟩=>by cases hx) hcb,h.aF.chg d (fun cs ⟨_,hx⟩=>by cases hx) hcb,h.aR.chg d (fun cs ⟨_,hx⟩=>by cases hx) hcb,h.aP.chg d (fun cs ⟨_,hx⟩=>by cases hx) hcb,hv2,h.lT,h.lF,h.lR,h.lP,hl⟩,d.mono fun x ⟨cs,hx⟩=>⟨cs,_,_,hx,by decide⟩⟩
end
theorem ZbB (a:Nm):(Z0 [a]).length=1:=rfl
theorem ZbC (a b:Nm):(Z0 [a,b]).length=2:=rfl
theorem ZbD (a:Nm):(Z0 [a])[0]? = some [.str a]:=rfl
theorem ZbE (a b:Nm):(Z0 [a,b])[0]? = some [.str a]:=rfl
theorem ZbF (a b:Nm):(Z0 [a,b])[1]? = some [.str b]:=rfl
theorem ZbG (a:Int):(Z3 [a]).length=1:=rfl
theorem ZbH (a b:Int):(Z3 [a,b]).length=2:=rfl
theorem ZbI (a b c:Int):(Z3 [a,b,c]).length=3:=rfl
theorem ZbJ (a b c d:Int):(Z3 [a,b,c,d]).length=4:=rfl
theorem ZbK (a:Int):(Z3 [a])[0]? = some [.int .i64 a]:=rfl
theorem ZbL (a b:Int):(Z3 [a,b])[0]? = some [.int .i64 a]:=rfl
theorem ZbM (a b:Int):(Z3 [a,b])[1]? = some [.int .i64 b]:=rfl
theorem ZbN (a b c:Int):(Z3 [a,b,c])[1]? = some [.int .i64 b]:=rfl
theorem ZbO (a b c:Int):(Z3 [a,b,c])[2]? = some [.int .i64 c]:=rfl
theorem ZbP (a b c d:Int):(Z3 [a,b,c,d])[1]? = some [.int .i64 b]:=rfl
theorem ZbQ (a b c d:Int):(Z3 [a,b,c,d])[2]? = some [.int .i64 c]:=rfl
theorem ZbR (a b c d:Int):(Z3 [a,b,c,d])[3]? = some [.int .i64 d]:=rfl
attribute [go_sem] ZbB ZbC ZbD ZbE ZbF ZbG ZbH ZbI ZbJ ZbK ZbL ZbM ZbN ZbO ZbP ZbQ ZbR
theorem en155:YS 155:=YY
theorem en158:YS 158:=YY
theorem en160:YS 160:=YY
theorem en162:YS 162:=YY
theorem en164:YS 164:=YY
theorem en166:YS 166:=YY
theorem en170:YS 170:=YY
theorem en178:YS 178:=YY
theorem en179:YS 179:=YY
theorem KM:YS 274:=YY
theorem PW.cells1 {lo sz:Nat} {te:TypeId} {H:Heap} {v:AV} {rows:List (List AV)} (h:PW lo H v sz te rows):v.cells=[v]:=by obtain ⟨t,rfl,_⟩:=h;rfl
theorem PW.one1 {lo sz:Nat} {te:TypeId} {H:Heap} {v:AV} {rows:List (List AV)} (h:PW lo H v sz te rows):v.one=true:=by obtain ⟨t,rfl,_⟩:=h;rfl
theorem SW.cells1 {lo sz:Nat} {te:TypeId} {H:Heap} {v:AV} {rows:List (List AV)} (h:SW lo H v sz te rows):v.cells=[v]:=by obtain ⟨⟨_,rfl⟩ | ⟨_,_,_,rfl,_⟩,_⟩:=h<;>rfl
theorem SW.one1 {lo sz:Nat} {te:TypeId} {H:Heap} {v:AV} {rows:List (List AV)} (h:SW lo H v sz te rows):v.one=true:=by obtain ⟨⟨_,rfl⟩ | ⟨_,_,_,rfl,_⟩,_⟩:=h<;>rfl
theorem Fn {lo:Nat} {X:ABlk→Prop} {H H':Heap} (c:Chg lo H.n X H H') {b:Nat} (hb:b < H.n) (h:¬ X (H.get b)):H'.get b=H.get b:=by
 rcases c.ch b hb with h2 | ⟨_,h2 | h2⟩
 · exact h2
 · omega
 · exact absurd h2 h
theorem Gf {lo b:Nat} {X:ABlk→Prop} {H H':Heap} (c:Chg lo H.n X H H'):Chg lo b X H H' :=
 ⟨c.n,fun i hi=>(c.ch i hi).imp id fun ⟨a,d⟩=>⟨a,d.elim (fun h=>absurd h (by omega)) .inr⟩⟩
theorem AW {lo sz b:Nat} {te:TypeId} {H:Heap} {v:AV} {rows:List (List AV)} {bc:List AV} {be:TypeId} (h:PW lo H v sz te rows) (hlo:lo≤H.n) (hb:b < H.n) (hbb:H.get b=.cells bc be) {r:List AV} (h1:rows.length+1≤Z1) (h2:XV r=true) (h2':r.map AV.strip0=r) (h3:0 < sz) (h4:Len sz rows) :
 ∃ v' H',Xn lo H sz te v [r]=some (v',H')∧PW lo H' v' sz te (rows++[r])∧Chg lo b (Xt sz te) H H'∧H'.get b=H.get b:=by
 obtain ⟨v',H',a,c,d⟩:=app_w (b:=H.n) h hlo h1 h2 h2' h3 h4;exact ⟨v',H',a,c,Gf d,Fn d hb (fun ⟨_,hx⟩=>by rw [hbb] at hx;cases hx)⟩
theorem M6 {lo sz b:Nat} {te:TypeId} {H:Heap} {v:AV} {rows:List (List AV)} {bc:List AV} {be:TypeId} (r:List AV) (h:SW lo H v sz te rows) (hlo:lo≤H.n) (hb:b < H.n) (hbb:H.get b=.cells bc be) (hL:Len sz rows) (hr:r.length=sz) (ho:r.all AV.one=true) (hs:0 < sz) (hm:rows.length+1≤Z1) :
 ∃ v' H',XW lo H sz te v [r]=some (v',H')∧SW lo H' v' sz te (rows++[r])∧Chg lo b (Xt sz te) H H'∧H'.get b=H.get b:=by
 obtain ⟨v',H',a,c,d⟩:=app_s (b:=H.n) r h hlo hL hr ho hs hm;exact ⟨v',H',a,c,Gf d,Fn d hb (fun ⟨_,hx⟩=>by rw [hbb] at hx;cases hx)⟩
theorem ZbS {lo:Nat} {H:Heap} {b:Nat} {pre post:List AV} {e:TypeId} {r:Reg} {V:RegV} (h:RegW lo H b pre post e r V) {num tk v:Int} {kind text t:Nm} (hm:r.tracks.length+1≤Z1):∃ w H',R PT (.call lo 155 [.ptr b pre.length,.agg (evC num kind [t] [tk,v] text)] H)=some (.ofVal w H') ∧ ∃ V',RegW lo H' b pre post e { r with tracks:=r.tracks++[⟨t,v⟩] } V'∧Chg lo b Yg H H':=by
 refine Za (C:=PT) (f:=155) (lo:=lo) (args:=[.ptr b pre.length,.agg (evC num kind [t] [tk,v] text)]) (H:=H) (fn:=Tryz.f155) (Q:=fun _ H'=>∃ V',RegW lo H' b pre post e { r with tracks:=r.tracks++[⟨t,v⟩] } V'∧Chg lo b Yg H H') (by kernel_rfl) Tryz.func155 rfl rfl ?_
 have ho:Old H.n H (H.push (.cells (evC num kind [t] [tk,v] text) 53)):=((Old.refl H).push _);have h1:=h.old ho;have hl1:lo≤(H.push (.cells (evC num kind [t] [tk,v] text) 53)).n:=Nat.le_of_lt (Nat.lt_of_le_of_lt h1.lob h1.bn);obtain ⟨v',H2,ha,hv,hc,hcb⟩:=AW h1.aT hl1 h1.bn h1.blk (r:=[.str t,.int .i64 v]) (by rw [List.length_map];exact hm) rfl rfl (by decide) (Zw (by intro x;rfl) _);have hst:sst lo H2 43 (.ptr b (pre.length+1)) v'=_:=Jo (hcb.trans h1.blk) h.lob (by show 1 < 6;decide) (by kernel_rfl) hv.cells1 hv.one1;obtain ⟨g1,g2⟩:=h1.putT hc hcb (xs:=r.tracks++[⟨t,v⟩]) (by rw [List.map_append];exact hv) (by simpa using hm);have l1:=fun H'=>h.is.l1 (H':=H')
 have hbn:=eq_true h.bn;obtain ⟨tt,hvt,htt⟩:=h.aT;rw [hvt] at ha l1;rcases htt with ⟨rfl,hr⟩ | ⟨j,rfl,_,hj,hjn,hjr⟩
 · simp (maxDischargeDepth:=12) only [go_sem,reduceEqDiff,reduceAdd,reduceMul,reduceSub,reduceLeDiff,reduceCtorEq,ZT,l1,ha,hst];exact ⟨_,g1,((Chg.refl H).push _).to g2⟩
 · have hjb:(j=b)=False:=eq_false (fun he=>by rw [he,h.blk] at hjr;cases hjr);have hjn':=eq_true hjn;have hjh:(j=H.n)=False:=eq_false (by omega);simp (maxDischargeDepth:=12) only [go_sem,reduceEqDiff,reduceAdd,reduceMul,reduceSub,reduceLeDiff,reduceCtorEq,ZT,l1,ha,hst];exact ⟨_,g1,((Chg.refl H).push _).to g2⟩
theorem ZbT {lo:Nat} {H:Heap} {b:Nat} {pre post:List AV} {e:TypeId} {r:Reg} {V:RegV} (h:RegW lo H b pre post e r V) {num tk v:Int} {kind text x t:Nm} (hm:r.trains.length+1≤Z1):∃ w H',R PT (.call lo 164 [.ptr b pre.length,.agg (evC num kind [x,t] [tk,v] text)] H)=some (.ofVal w H') ∧ ∃ V',RegW lo H' b pre post e { r with trains:=r.trains++[⟨x,t,v⟩] } V'∧Chg lo b Yg H H':=by
 refine Za (C:=PT) (f:=164) (lo:=lo) (args:=[.ptr b pre.length,.agg (evC num kind [x,t] [tk,v] text)]) (H:=H) (fn:=Tryz.f164) (Q:=fun _ H'=>∃ V',RegW lo H' b pre post e { r with trains:=r.trains++[⟨x,t,v⟩] } V'∧Chg lo b Yg H H') (by kernel_rfl) Tryz.func164 rfl rfl ?_
 have ho:Old H.n H (H.push (.cells (evC num kind [x,t] [tk,v] text) 53)):=((Old.refl H).push _);have h1:=h.old ho;have hl1:lo≤(H.push (.cells (evC num kind [x,t] [tk,v] text) 53)).n:=Nat.le_of_lt (Nat.lt_of_le_of_lt h1.lob h1.bn);obtain ⟨v',H2,ha,hv,hc,hcb⟩:=AW h1.aR hl1 h1.bn h1.blk (r:=[.str x,.str t,.int .i64 v]) (by rw [List.length_map];exact hm) rfl rfl (by decide) (Zw (by intro x;rfl) _);have hst:sst lo H2 45 (.ptr b (pre.length+3)) v'=_:=Jo (hcb.trans h1.blk) h.lob (by show 3 < 6;decide) (by kernel_rfl) hv.cells1 hv.one1;obtain ⟨g1,g2⟩:=h1.putR hc hcb (xs:=r.trains++[⟨x,t,v⟩]) (by rw [List.map_append];exact hv) (by simpa using hm);have l1:=fun H'=>h.is.l3 (H':=H')
 have hbn:=eq_true h.bn;obtain ⟨tt,hvt,htt⟩:=h.aR;rw [hvt] at ha l1;rcases htt with ⟨rfl,hr⟩ | ⟨j,rfl,_,hj,hjn,hjr⟩
 · simp (maxDischargeDepth:=12) only [go_sem,reduceEqDiff,reduceAdd,reduceMul,reduceSub,reduceLeDiff,reduceCtorEq,ZT,l1,ha,hst];exact ⟨_,g1,((Chg.refl H).push _).to g2⟩
 · have hjb:(j=b)=False:=eq_false (fun he=>by rw [he,h.blk] at hjr;cases hjr);have hjn':=eq_true hjn;have hjh:(j=H.n)=False:=eq_false (by omega);simp (maxDischargeDepth:=12) only [go_sem,reduceEqDiff,reduceAdd,reduceMul,reduceSub,reduceLeDiff,reduceCtorEq,ZT,l1,ha,hst];exact ⟨_,g1,((Chg.refl H).push _).to g2⟩
theorem w_In {lo:Nat} {H:Heap} {b:Nat} {pre post:List AV} {e:TypeId} {r:Reg} {V:RegV} (h:RegW lo H b pre post e r V) {num tk:Int} {kind text m p:Nm} (hm:r.machs.length+1≤Z1):∃ w H',R PT (.call lo 178 [.ptr b pre.length,.agg (evC num kind [m,p] [tk] text)] H)=some (.ofVal w H') ∧ ∃ V',RegW lo H' b pre post e { r with machs:=r.machs++[⟨m,p⟩] } V'∧Chg lo b Yg H H':=by
 refine Za (C:=PT) (f:=178) (lo:=lo) (args:=[.ptr b pre.length,.agg (evC num kind [m,p] [tk] text)]) (H:=H) (fn:=Tryz.f178) (Q:=fun _ H'=>∃ V',RegW lo H' b pre post e { r with machs:=r.machs++[⟨m,p⟩] } V'∧Chg lo b Yg H H') (by kernel_rfl) Tryz.func178 rfl rfl ?_
 have ho:Old H.n H (H.push (.cells (evC num kind [m,p] [tk] text) 53)):=((Old.refl H).push _);have h1:=h.old ho;have hl1:lo≤(H.push (.cells (evC num kind [m,p] [tk] text) 53)).n:=Nat.le_of_lt (Nat.lt_of_le_of_lt h1.lob h1.bn);obtain ⟨v',H2,ha,hv,hc,hcb⟩:=AW h1.aM hl1 h1.bn h1.blk (r:=[.str m,.str p]) (by rw [List.length_map];exact hm) rfl rfl (by decide) (Zw (by intro x;rfl) _);have hst:sst lo H2 47 (.ptr b (pre.length+5)) v'=_:=Jo (hcb.trans h1.blk) h.lob (by show 5 < 6;decide) (by kernel_rfl) hv.cells1 hv.one1;obtain ⟨g1,g2⟩:=h1.putM hc hcb (xs:=r.machs++[⟨m,p⟩]) (by rw [List.map_append];exact hv) (by simpa using hm);have l1:=fun H'=>h.is.l5 (H':=H')
 have hbn:=eq_true h.bn;obtain ⟨tt,hvt,htt⟩:=h.aM;rw [hvt] at ha l1;rcases htt with ⟨rfl,hr⟩ | ⟨j,rfl,_,hj,hjn,hjr⟩
 · simp (maxDischargeDepth:=12) only [go_sem,reduceEqDiff,reduceAdd,reduceMul,reduceSub,reduceLeDiff,reduceCtorEq,ZT,l1,ha,hst];exact ⟨_,g1,((Chg.refl H).push _).to g2⟩
 · have hjb:(j=b)=False:=eq_false (fun he=>by rw [he,h.blk] at hjr;cases hjr);have hjn':=eq_true hjn;have hjh:(j=H.n)=False:=eq_false (by omega);simp (maxDischargeDepth:=12) only [go_sem,reduceEqDiff,reduceAdd,reduceMul,reduceSub,reduceLeDiff,reduceCtorEq,ZT,l1,ha,hst];exact ⟨_,g1,((Chg.refl H).push _).to g2⟩
theorem ZbU {lo:Nat} {H:Heap} {b:Nat} {pre post:List AV} {e:TypeId} {r:Reg} {V:RegV} (h:RegW lo H b pre post e r V) {num tk x y v:Int} {kind text f t:Nm} (hm:r.faults.length+1≤Z1):∃ w H',R PT (.call lo 158 [.ptr b pre.length,.agg (evC num kind [f,t] [tk,x,y,v] text)] H)=some (.ofVal w H') ∧ ∃ V',RegW lo H' b pre post e { r with faults:=r.faults++[⟨f,t,x,y,v,false,false⟩] } V'∧Chg lo b Yg H H':=by
 refine Za (C:=PT) (f:=158) (lo:=lo) (args:=[.ptr b pre.length,.agg (evC num kind [f,t] [tk,x,y,v] text)]) (H:=H) (fn:=Tryz.f158) (Q:=fun _ H'=>∃ V',RegW lo H' b pre post e { r with faults:=r.faults++[⟨f,t,x,y,v,false,false⟩] } V'∧Chg lo b Yg H H') (by kernel_rfl) Tryz.func158 rfl rfl ?_
 have hlo:lo≤H.n:=Nat.le_of_lt (Nat.lt_of_le_of_lt h.lob h.bn);have ho:Old H.n H (((H.push (.cells (evC num kind [f,t] [tk,x,y,v] text) 53)).push (.cells [.int .i64 0,.int .i64 0] 57)).set (H.n+1) (.cells [.int .i64 x,.int .i64 y] 57)):=(((Old.refl H).push _).push _).set (Nat.le_succ _) _;have hch:Chg lo b Yg H (((H.push (.cells (evC num kind [f,t] [tk,x,y,v] text) 53)).push (.cells [.int .i64 0,.int .i64 0] 57)).set (H.n+1) (.cells [.int .i64 x,.int .i64 y] 57)):=(((Chg.refl H).push _).push _).set (by omega) (.inr (.inr (Nat.le_succ _))) _;have h1:=h.old ho;have hl1:lo≤(((H.push (.cells (evC num kind [f,t] [tk,x,y,v] text) 53)).push (.cells [.int .i64 0,.int .i64 0] 57)).set (H.n+1) (.cells [.int .i64 x,.int .i64 y] 57)).n:=Nat.le_of_lt (Nat.lt_of_le_of_lt h1.lob h1.bn);have hsp:=UY ⟨num,kind,[f,t],[tk,x,y,v],text⟩ (by show 3≤4;decide);simp only [Pos.Ev.row,List.getD_cons_succ,List.getD_cons_zero] at hsp;obtain ⟨v',H2,ha,hv,hc,hcb⟩:=M6 [.str f,.str t,.int .i64 x,.int .i64 y,.int .i64 v,.bool false,.bool false] h1.aF hl1 h1.bn h1.blk (Zw (by intro x;rfl) _) rfl rfl (by decide) (by rw [List.length_map];exact hm);have hst:sst lo H2 44 (.ptr b (pre.length+2)) v'=_:=Jo (hcb.trans h1.blk) h.lob (by show 2 < 6;decide) (by kernel_rfl) hv.cells1 hv.one1;obtain ⟨g1,g2⟩:=h1.putF hc hcb (xs:=r.faults++[⟨f,t,x,y,v,false,false⟩]) (by rw [List.map_append];exact hv) (by simpa using hm);have l1:=fun H'=>h.is.l2 (H':=H')
 have hbn:=eq_true h.bn;have hlo1:(lo≤H.n+1)=True:=eq_true (by omega);have hvs:=h.aF.1;rcases hvs with ⟨hr,hvt⟩ | ⟨j,cs,m,hvt,hjn,hjr,hcs⟩<;>(try rw [List.length_map] at hvt)<;>rw [hvt] at ha l1
 · simp (maxDischargeDepth:=12) only [go_sem,reduceEqDiff,reduceAdd,reduceMul,reduceSub,reduceLeDiff,reduceCtorEq,ZT,l1,ha,hst,hsp,hlo1];exact ⟨_,g1,hch.to g2⟩
 · have hjb:(j=b)=False:=eq_false (fun he=>by rw [he,h.blk] at hjr;cases hjr);have hjn':=eq_true hjn;have hjh:(j=H.n)=False:=eq_false (by omega);have hjh1:(j=H.n+1)=False:=eq_false (by omega);have hjh2:(H.n=j)=False:=eq_false (by omega);have hjh3:(H.n+1=j)=False:=eq_false (by omega);have hjb2:(b=j)=False:=eq_false (fun he=>by rw [← he,h.blk] at hjr;cases hjr);simp (maxDischargeDepth:=12) only [go_sem,reduceEqDiff,reduceAdd,reduceMul,reduceSub,reduceLeDiff,reduceCtorEq,ZT,l1,ha,hst,hsp,hlo1];exact ⟨_,g1,hch.to g2⟩
theorem ZbV {lo:Nat} {H:Heap} {b:Nat} {pre post:List AV} {e:TypeId} {r:Reg} {V:RegV} (h:RegW lo H b pre post e r V) {num tk x y:Int} {kind text p t:Nm} (hm:r.poss.length+1≤Z1):∃ w H',R PT (.call lo 170 [.ptr b pre.length,.agg (evC num kind [p,t] [tk,x,y] text)] H)=some (.ofVal w H') ∧ ∃ V',RegW lo H' b pre post e { r with poss:=r.poss++[⟨p,t,x,y,false,false,false,0,0,0⟩] } V'∧Chg lo b Yg H H':=by
 refine Za (C:=PT) (f:=170) (lo:=lo) (args:=[.ptr b pre.length,.agg (evC num kind [p,t] [tk,x,y] text)]) (H:=H) (fn:=Tryz.f170) (Q:=fun _ H'=>∃ V',RegW lo H' b pre post e { r with poss:=r.poss++[⟨p,t,x,y,false,false,false,0,0,0⟩] } V'∧Chg lo b Yg H H') (by kernel_rfl) Tryz.func170 rfl rfl ?_
 have hlo:lo≤H.n:=Nat.le_of_lt (Nat.lt_of_le_of_lt h.lob h.bn);have ho:Old H.n H (((H.push (.cells (evC num kind [p,t] [tk,x,y] text) 53)).push (.cells [.int .i64 0,.int .i64 0] 57)).set (H.n+1) (.cells [.int .i64 x,.int .i64 y] 57)):=(((Old.refl H).push _).push _).set (Nat.le_succ _) _;have hch:Chg lo b Yg H (((H.push (.cells (evC num kind [p,t] [tk,x,y] text) 53)).push (.cells [.int .i64 0,.int .i64 0] 57)).set (H.n+1) (.cells [.int .i64 x,.int .i64 y] 57)):=(((Chg.refl H).push _).push _).set (by omega) (.inr (.inr (Nat.le_succ _))) _;have h1:=h.old ho;have hl1:lo≤(((H.push (.cells (evC num kind [p,t] [tk,x,y] text) 53)).push (.cells [.int .i64 0,.int .i64 0] 57)).set (H.n+1) (.cells [.int .i64 x,.int .i64 y] 57)).n:=Nat.le_of_lt (Nat.lt_of_le_of_lt h1.lob h1.bn);have hsp:=UY ⟨num,kind,[p,t],[tk,x,y],text⟩ (by show 3≤3;decide);simp only [Pos.Ev.row,List.getD_cons_succ,List.getD_cons_zero] at hsp;obtain ⟨v',H2,ha,hv,hc,hcb⟩:=M6 [.str p,.str t,.int .i64 x,.int .i64 y,.bool false,.bool false,.bool false,.int .i64 0,.int .i64 0,.int .i64 0] h1.aP hl1 h1.bn h1.blk (Zw (by intro x;rfl) _) rfl rfl (by decide) (by rw [List.length_map];exact hm);have hst:sst lo H2 46 (.ptr b (pre.length+4)) v'=_:=Jo (hcb.trans h1.blk) h.lob (by show 4 < 6;decide) (by kernel_rfl) hv.cells1 hv.one1;obtain ⟨g1,g2⟩:=h1.putP hc hcb (xs:=r.poss++[⟨p,t,x,y,false,false,false,0,0,0⟩]) (by rw [List.map_append];exact hv) (by simpa using hm);have l1:=fun H'=>h.is.l4 (H':=H')
 have hbn:=eq_true h.bn;have hlo1:(lo≤H.n+1)=True:=eq_true (by omega);have hvs:=h.aP.1;rcases hvs with ⟨hr,hvt⟩ | ⟨j,cs,m,hvt,hjn,hjr,hcs⟩<;>(try rw [List.length_map] at hvt)<;>rw [hvt] at ha l1
 · simp (maxDischargeDepth:=12) only [go_sem,reduceEqDiff,reduceAdd,reduceMul,reduceSub,reduceLeDiff,reduceCtorEq,ZT,l1,ha,hst,hsp,hlo1];exact ⟨_,g1,hch.to g2⟩
 · have hjb:(j=b)=False:=eq_false (fun he=>by rw [he,h.blk] at hjr;cases hjr);have hjn':=eq_true hjn;have hjh:(j=H.n)=False:=eq_false (by omega);have hjh1:(j=H.n+1)=False:=eq_false (by omega);have hjh2:(H.n=j)=False:=eq_false (by omega);have hjh3:(H.n+1=j)=False:=eq_false (by omega);have hjb2:(b=j)=False:=eq_false (fun he=>by rw [← he,h.blk] at hjr;cases hjr);simp (maxDischargeDepth:=12) only [go_sem,reduceEqDiff,reduceAdd,reduceMul,reduceSub,reduceLeDiff,reduceCtorEq,ZT,l1,ha,hst,hsp,hlo1];exact ⟨_,g1,hch.to g2⟩
end Go.Sim

namespace Go.Sim
open Go Go.Proofs
open Go.Sim.Pos (Nm Trk Flt Trn Pos Mch Reg Ev Len ZW Yd Y8 Ye Jh)
set_option maxRecDepth 100000
set_option maxHeartbeats 4000000
theorem ZbW {A B vs:List AV} {k:Nat} (h:k+vs.length≤A.length):over (A++B) k vs=over A k vs++B:=by
 unfold over;rw [List.take_append_of_le_length (by omega),List.drop_append_of_le_length (by omega)];simp
theorem ZbX {sz i k:Nat} {rows:List (List AV)} {row:List AV} (hL:Len sz rows) (hx:rows[i]? = some row) (hk:k < sz):i * sz+k+1≤rows.flatten.length:=by
 have hi:i < rows.length:=(List.getElem?_eq_some_iff.1 hx).1;rw [ZW hL];have:(i+1) * sz≤rows.length * sz:=Nat.mul_le_mul_right _ hi;rw [Nat.succ_mul] at this;omega
theorem QU {lo id i k sz:Nat} {H:Heap} {rows:List (List AV)} {cs row:List AV} {te t:TypeId} {c:AV} (hg:H.get id=.row (rows.flatten++cs) sz te) (hlo:lo≤id) (hL:Len sz rows) (hx:rows[i]? = some row) (hk:k < sz) (hs:Zh NC.P t=some 1) (h1:c.cells=[c]) (h2:c.one=true):sst lo H t (.ptr id (i * sz+k)) c=some (H.set id (.row ((rows.set i (row.set k c)).flatten++cs) sz te)):=by
 show Qo NC.P lo H t (.ptr id (i * sz+k)) c=_;unfold Qo;have hfit:=ZbX hL hx hk;simp only [hs,h1,List.length_cons,List.length_nil,List.all_cons,List.all_nil,h2,hlo,decide_true,Bool.and_true,Nat.zero_add,if_true,hg,Qn];rw [if_pos (by rw [List.length_append];omega),ZbW (by simpa using hfit),Jh hL hx hk]
theorem AX {id i k sz:Nat} {H:Heap} {rows:List (List AV)} {cs row:List AV} {te t:TypeId} {c:AV} (hg:H.get id=.row (rows.flatten++cs) sz te) (hL:Len sz rows) (hx:rows[i]? = some row) (hk:row[k]? = some c) (hs:(Zh NC.P t).isSome=true) (ha:aggOf NC.P t=some false):sld H t (.ptr id (i * sz+k))=some c:=by
 obtain ⟨n,hn⟩:=Option.isSome_iff_exists.1 hs;have hc:=Pos.Ig hL hx hk;have hc2:Yp (rows.flatten++cs) (i * sz+k) 1=some [c]:=by
  unfold Yp at hc ⊢;split at hc
  · rename_i hle
    rw [if_pos (by rw [List.length_append];omega),List.drop_append_of_le_length (by omega),List.take_append_of_le_length (by rw [List.length_drop];omega)];exact hc
  · cases hc
 show Yk NC.P H t (.ptr id (i * sz+k))=some c;unfold Yk;simp only [hn,ha,YT,hg,XM,if_false,hc2,QY,Bool.false_eq_true]
theorem M7 {sz i:Nat} {rows:List (List AV)} {row:List AV} (hL:Len sz rows) (hr:row.length=sz):Len sz (rows.set i row):=fun x hx=>by
 rcases List.mem_or_eq_of_mem_set hx with h | h
 · exact hL x h
 · rw [h];exact hr
theorem AY {lo sz:Nat} {te:TypeId} {H':Heap} {rows rows':List (List AV)} {id:Nat} {cs:List AV} {m:Nat} (hlo:lo≤id) (hid:id < H'.n) (hl:rows'.length=rows.length) (hc:cs.length=m * sz) (hg:H'.get id=.row (rows'.flatten++cs) sz te):SW lo H' (.rs id 0 rows.length sz none) sz te rows' :=
 ⟨.inr ⟨id,cs,m,by rw [hl],hid,hg,hc⟩,fun i a b c d h=>by cases h;exact hlo⟩
theorem g_12 {lo id i:Nat} {H:Heap} {ps:List Pos} {cs:List AV} {y:Pos} {num tk  : Int} {kind text p:Nm} (hlo:lo≤id) (hid:id < H.n) (hg:H.get id=.row ((ps.map Pos.Pos.row).flatten++cs) 10 59) (hx:ps[i]? = some y)  : ∃ w H',R PT (.call lo 174 [.ptr id (i * 10),.agg (evC num kind [p] [tk] text)] H)=some (.ofVal w H')∧H'.n=H.n+1∧H'.get id=.row (((ps.set i { y with prot:=true }).map Pos.Pos.row).flatten++cs) 10 59 ∧ ∀ j,j < H.n→j ≠ id→H'.get j=H.get j:=by
 refine Za (C:=PT) (f:=174) (lo:=lo) (args:=[.ptr id (i * 10),.agg (evC num kind [p] [tk] text)]) (H:=H) (fn:=Tryz.f174) (Q:=fun _ H'=>H'.n=H.n+1∧H'.get id=.row (((ps.set i { y with prot:=true }).map Pos.Pos.row).flatten++cs) 10 59 ∧ ∀ j,j < H.n→j ≠ id→H'.get j=H.get j) (by kernel_rfl) Tryz.func174 rfl rfl ?_
 have hL:Len 10 (ps.map Pos.Pos.row):=Zw (by intro x;rfl) _;have hx1:(ps.map Pos.Pos.row)[i]? = some y.row:=Y1 hx;have hidn:(id=H.n)=False:=eq_false (by omega);have hid1:=eq_true hid;have hidl:(id < H.n+1)=True:=eq_true (by omega);have g0:(H.push (.cells (evC num kind [p] [tk] text) 53)).get id=.row ((ps.map Pos.Pos.row).flatten++cs) 10 59:=by rw [Heap.get_push,if_neg (by omega)];exact hg
 have s0:=QU (lo:=lo) (i:=i) (k:=5) (t:=4) (c:=.bool true) g0 hlo hL hx1 (by decide) (by kernel_rfl) rfl rfl;have hfin:((ps.set i { y with prot:=true }).map Pos.Pos.row)=((ps.map Pos.Pos.row).set i (y.row.set 5 (.bool true))):=by
  rw [List.map_set];rfl
 simp (maxDischargeDepth:=12) only [go_sem,reduceEqDiff,reduceAdd,reduceCtorEq,g0,s0];rw [hfin];refine ⟨rfl,fun j hj hne => ?_⟩;have e1:j ≠ H.n:=by omega
 simp only [hne,e1,if_false]
theorem g_14 {lo id i:Nat} {H:Heap} {ps:List Pos} {cs:List AV} {y:Pos} {num tk  : Int} {kind text p:Nm} (hlo:lo≤id) (hid:id < H.n) (hg:H.get id=.row ((ps.map Pos.Pos.row).flatten++cs) 10 59) (hx:ps[i]? = some y)  : ∃ w H',R PT (.call lo 176 [.ptr id (i * 10),.agg (evC num kind [p] [tk] text)] H)=some (.ofVal w H')∧H'.n=H.n+1∧H'.get id=.row (((ps.set i { y with prot:=false }).map Pos.Pos.row).flatten++cs) 10 59 ∧ ∀ j,j < H.n→j ≠ id→H'.get j=H.get j:=by
 refine Za (C:=PT) (f:=176) (lo:=lo) (args:=[.ptr id (i * 10),.agg (evC num kind [p] [tk] text)]) (H:=H) (fn:=Tryz.f176) (Q:=fun _ H'=>H'.n=H.n+1∧H'.get id=.row (((ps.set i { y with prot:=false }).map Pos.Pos.row).flatten++cs) 10 59 ∧ ∀ j,j < H.n→j ≠ id→H'.get j=H.get j) (by kernel_rfl) Tryz.func176 rfl rfl ?_
 have hL:Len 10 (ps.map Pos.Pos.row):=Zw (by intro x;rfl) _;have hx1:(ps.map Pos.Pos.row)[i]? = some y.row:=Y1 hx;have hidn:(id=H.n)=False:=eq_false (by omega);have hid1:=eq_true hid;have hidl:(id < H.n+1)=True:=eq_true (by omega);have g0:(H.push (.cells (evC num kind [p] [tk] text) 53)).get id=.row ((ps.map Pos.Pos.row).flatten++cs) 10 59:=by rw [Heap.get_push,if_neg (by omega)];exact hg
 have s0:=QU (lo:=lo) (i:=i) (k:=5) (t:=4) (c:=.bool false) g0 hlo hL hx1 (by decide) (by kernel_rfl) rfl rfl;have hfin:((ps.set i { y with prot:=false }).map Pos.Pos.row)=((ps.map Pos.Pos.row).set i (y.row.set 5 (.bool false))):=by
  rw [List.map_set];rfl
 simp (maxDischargeDepth:=12) only [go_sem,reduceEqDiff,reduceAdd,reduceCtorEq,g0,s0];rw [hfin];refine ⟨rfl,fun j hj hne => ?_⟩;have e1:j ≠ H.n:=by omega
 simp only [hne,e1,if_false]
theorem g_19 {lo id i:Nat} {H:Heap} {ps:List Pos} {cs:List AV} {y:Pos} {num tk v:Int} {kind text p:Nm} (hlo:lo≤id) (hid:id < H.n) (hg:H.get id=.row ((ps.map Pos.Pos.row).flatten++cs) 10 59) (hx:ps[i]? = some y) (hw:Zk .i64 (Int.add y.pers v)=y.pers+v):∃ w H',R PT (.call lo 183 [.ptr id (i * 10),.agg (evC num kind [p] [tk,v] text)] H)=some (.ofVal w H')∧H'.n=H.n+1∧H'.get id=.row (((ps.set i { y with pers:=y.pers+v }).map Pos.Pos.row).flatten++cs) 10 59 ∧ ∀ j,j < H.n→j ≠ id→H'.get j=H.get j:=by
 refine Za (C:=PT) (f:=183) (lo:=lo) (args:=[.ptr id (i * 10),.agg (evC num kind [p] [tk,v] text)]) (H:=H) (fn:=Tryz.f183) (Q:=fun _ H'=>H'.n=H.n+1∧H'.get id=.row (((ps.set i { y with pers:=y.pers+v }).map Pos.Pos.row).flatten++cs) 10 59 ∧ ∀ j,j < H.n→j ≠ id→H'.get j=H.get j) (by kernel_rfl) Tryz.func183 rfl rfl ?_
 have hL:Len 10 (ps.map Pos.Pos.row):=Zw (by intro x;rfl) _;have hx1:(ps.map Pos.Pos.row)[i]? = some y.row:=Y1 hx;have hidn:(id=H.n)=False:=eq_false (by omega);have hid1:=eq_true hid;have hidl:(id < H.n+1)=True:=eq_true (by omega);have g0:(H.push (.cells (evC num kind [p] [tk,v] text) 53)).get id=.row ((ps.map Pos.Pos.row).flatten++cs) 10 59:=by rw [Heap.get_push,if_neg (by omega)];exact hg
 have hl8:=fun (H':Heap) (hg:H'.get id=.row ((ps.map Pos.Pos.row).flatten++cs) 10 59)=>AX (t:=3) (k:=8) (c:=.int .i64 y.pers) hg hL hx1 rfl (by kernel_rfl) (by kernel_rfl)
 have s0:=QU (lo:=lo) (i:=i) (k:=8) (t:=3) (c:=.int .i64 (y.pers+v)) g0 hlo hL hx1 (by decide) (by kernel_rfl) rfl rfl;have hfin:((ps.set i { y with pers:=y.pers+v }).map Pos.Pos.row)=((ps.map Pos.Pos.row).set i (y.row.set 8 (.int .i64 (y.pers+v)))):=by
  rw [List.map_set];rfl
 simp (maxDischargeDepth:=12) only [go_sem,reduceEqDiff,reduceAdd,reduceSub,reduceCtorEq,g0,hl8,s0,hw];rw [hfin];refine ⟨rfl,fun j hj hne => ?_⟩;have e1:j ≠ H.n:=by omega
 simp only [hne,e1,if_false]
theorem g_21 {lo id i:Nat} {H:Heap} {ps:List Pos} {cs:List AV} {y:Pos} {num tk v:Int} {kind text p:Nm} (hlo:lo≤id) (hid:id < H.n) (hg:H.get id=.row ((ps.map Pos.Pos.row).flatten++cs) 10 59) (hx:ps[i]? = some y) (hw:Zk .i64 (Int.sub y.pers v)=y.pers - v):∃ w H',R PT (.call lo 185 [.ptr id (i * 10),.agg (evC num kind [p] [tk,v] text)] H)=some (.ofVal w H')∧H'.n=H.n+1∧H'.get id=.row (((ps.set i { y with pers:=y.pers - v }).map Pos.Pos.row).flatten++cs) 10 59 ∧ ∀ j,j < H.n→j ≠ id→H'.get j=H.get j:=by
 refine Za (C:=PT) (f:=185) (lo:=lo) (args:=[.ptr id (i * 10),.agg (evC num kind [p] [tk,v] text)]) (H:=H) (fn:=Tryz.f185) (Q:=fun _ H'=>H'.n=H.n+1∧H'.get id=.row (((ps.set i { y with pers:=y.pers - v }).map Pos.Pos.row).flatten++cs) 10 59 ∧ ∀ j,j < H.n→j ≠ id→H'.get j=H.get j) (by kernel_rfl) Tryz.func185 rfl rfl ?_
 have hL:Len 10 (ps.map Pos.Pos.row):=Zw (by intro x;rfl) _;have hx1:(ps.map Pos.Pos.row)[i]? = some y.row:=Y1 hx;have hidn:(id=H.n)=False:=eq_false (by omega);have hid1:=eq_true hid;have hidl:(id < H.n+1)=True:=eq_true (by omega);have g0:(H.push (.cells (evC num kind [p] [tk,v] text) 53)).get id=.row ((ps.map Pos.Pos.row).flatten++cs) 10 59:=by rw [Heap.get_push,if_neg (by omega)];exact hg
 have hl8:=fun (H':Heap) (hg:H'.get id=.row ((ps.map Pos.Pos.row).flatten++cs) 10 59)=>AX (t:=3) (k:=8) (c:=.int .i64 y.pers) hg hL hx1 rfl (by kernel_rfl) (by kernel_rfl)
 have s0:=QU (lo:=lo) (i:=i) (k:=8) (t:=3) (c:=.int .i64 (y.pers - v)) g0 hlo hL hx1 (by decide) (by kernel_rfl) rfl rfl;have hfin:((ps.set i { y with pers:=y.pers - v }).map Pos.Pos.row)=((ps.map Pos.Pos.row).set i (y.row.set 8 (.int .i64 (y.pers - v)))):=by
  rw [List.map_set];rfl
 simp (maxDischargeDepth:=12) only [go_sem,reduceEqDiff,reduceAdd,reduceSub,reduceCtorEq,g0,hl8,s0,hw];rw [hfin];refine ⟨rfl,fun j hj hne => ?_⟩;have e1:j ≠ H.n:=by omega
 simp only [hne,e1,if_false]
theorem g_23 {lo id i:Nat} {H:Heap} {ps:List Pos} {cs:List AV} {y:Pos} {num tk  : Int} {kind text p:Nm} (hlo:lo≤id) (hid:id < H.n) (hg:H.get id=.row ((ps.map Pos.Pos.row).flatten++cs) 10 59) (hx:ps[i]? = some y)  : ∃ w H',R PT (.call lo 187 [.ptr id (i * 10),.agg (evC num kind [p] [tk] text)] H)=some (.ofVal w H')∧H'.n=H.n+1∧H'.get id=.row (((ps.set i { y with opn:=true }).map Pos.Pos.row).flatten++cs) 10 59 ∧ ∀ j,j < H.n→j ≠ id→H'.get j=H.get j:=by
 refine Za (C:=PT) (f:=187) (lo:=lo) (args:=[.ptr id (i * 10),.agg (evC num kind [p] [tk] text)]) (H:=H) (fn:=Tryz.f187) (Q:=fun _ H'=>H'.n=H.n+1∧H'.get id=.row (((ps.set i { y with opn:=true }).map Pos.Pos.row).flatten++cs) 10 59 ∧ ∀ j,j < H.n→j ≠ id→H'.get j=H.get j) (by kernel_rfl) Tryz.func187 rfl rfl ?_
 have hL:Len 10 (ps.map Pos.Pos.row):=Zw (by intro x;rfl) _;have hx1:(ps.map Pos.Pos.row)[i]? = some y.row:=Y1 hx;have hidn:(id=H.n)=False:=eq_false (by omega);have hid1:=eq_true hid;have hidl:(id < H.n+1)=True:=eq_true (by omega);have g0:(H.push (.cells (evC num kind [p] [tk] text) 53)).get id=.row ((ps.map Pos.Pos.row).flatten++cs) 10 59:=by rw [Heap.get_push,if_neg (by omega)];exact hg
 have s0:=QU (lo:=lo) (i:=i) (k:=6) (t:=4) (c:=.bool true) g0 hlo hL hx1 (by decide) (by kernel_rfl) rfl rfl;have hfin:((ps.set i { y with opn:=true }).map Pos.Pos.row)=((ps.map Pos.Pos.row).set i (y.row.set 6 (.bool true))):=by
  rw [List.map_set];rfl
 simp (maxDischargeDepth:=12) only [go_sem,reduceEqDiff,reduceAdd,reduceCtorEq,g0,s0];rw [hfin];refine ⟨rfl,fun j hj hne => ?_⟩;have e1:j ≠ H.n:=by omega
 simp only [hne,e1,if_false]
theorem g_25 {lo id i:Nat} {H:Heap} {ps:List Pos} {cs:List AV} {y:Pos} {num tk v:Int} {kind text p:Nm} (hlo:lo≤id) (hid:id < H.n) (hg:H.get id=.row ((ps.map Pos.Pos.row).flatten++cs) 10 59) (hx:ps[i]? = some y) (hw:Zk .i64 (Int.add y.closed 1)=y.closed+1):∃ w H',R PT (.call lo 189 [.ptr id (i * 10),.agg (evC num kind [p] [tk,v] text)] H)=some (.ofVal w H')∧H'.n=H.n+1∧H'.get id=.row (((ps.set i { y with opn:=false,closed:=y.closed+1,speed:=v }).map Pos.Pos.row).flatten++cs) 10 59 ∧ ∀ j,j < H.n→j ≠ id→H'.get j=H.get j:=by
 refine Za (C:=PT) (f:=189) (lo:=lo) (args:=[.ptr id (i * 10),.agg (evC num kind [p] [tk,v] text)]) (H:=H) (fn:=Tryz.f189) (Q:=fun _ H'=>H'.n=H.n+1∧H'.get id=.row (((ps.set i { y with opn:=false,closed:=y.closed+1,speed:=v }).map Pos.Pos.row).flatten++cs) 10 59 ∧ ∀ j,j < H.n→j ≠ id→H'.get j=H.get j) (by kernel_rfl) Tryz.func189 rfl rfl ?_
 have hL:Len 10 (ps.map Pos.Pos.row):=Zw (by intro x;rfl) _;have hx1:(ps.map Pos.Pos.row)[i]? = some y.row:=Y1 hx;have hidn:(id=H.n)=False:=eq_false (by omega);have hid1:=eq_true hid;have hidl:(id < H.n+1)=True:=eq_true (by omega);have g0:(H.push (.cells (evC num kind [p] [tk,v] text) 53)).get id=.row ((ps.map Pos.Pos.row).flatten++cs) 10 59:=by rw [Heap.get_push,if_neg (by omega)];exact hg
 have hl7:=fun (H':Heap) (hg:H'.get id=.row ((ps.map Pos.Pos.row).flatten++cs) 10 59)=>AX (t:=3) (k:=7) (c:=.int .i64 y.closed) hg hL hx1 rfl (by kernel_rfl) (by kernel_rfl)
 have s0:=QU (lo:=lo) (i:=i) (k:=6) (t:=4) (c:=.bool false) g0 hlo hL hx1 (by decide) (by kernel_rfl) rfl rfl;have G0:((H.push (.cells (evC num kind [p] [tk,v] text) 53)).set id (.row (((ps.map Pos.Pos.row).set i (y.row.set 6 (.bool false))).flatten++cs) 10 59)).get id=.row (((ps.map Pos.Pos.row).set i (y.row.set 6 (.bool false))).flatten++cs) 10 59:=by rw [Heap.get_set,if_pos rfl]
 have L0:Len 10 ((ps.map Pos.Pos.row).set i (y.row.set 6 (.bool false))):=M7 hL rfl;have X0:((ps.map Pos.Pos.row).set i (y.row.set 6 (.bool false)))[i]? = some (y.row.set 6 (.bool false)):=by rw [List.getElem?_set_self (by simpa using (List.getElem?_eq_some_iff.1 hx1).1)]
 have s1:=QU (lo:=lo) (i:=i) (k:=7) (t:=3) (c:=.int .i64 (y.closed+1)) G0 hlo L0 X0 (by decide) (by kernel_rfl) rfl rfl;have G1:(((H.push (.cells (evC num kind [p] [tk,v] text) 53)).set id (.row (((ps.map Pos.Pos.row).set i (y.row.set 6 (.bool false))).flatten++cs) 10 59)).set id (.row ((((ps.map Pos.Pos.row).set i (y.row.set 6 (.bool false))).set i ((y.row.set 6 (.bool false)).set 7 (.int .i64 (y.closed+1)))).flatten++cs) 10 59)).get id=.row ((((ps.map Pos.Pos.row).set i (y.row.set 6 (.bool false))).set i ((y.row.set 6 (.bool false)).set 7 (.int .i64 (y.closed+1)))).flatten++cs) 10 59:=by rw [Heap.get_set,if_pos rfl]
 have L1:Len 10 (((ps.map Pos.Pos.row).set i (y.row.set 6 (.bool false))).set i ((y.row.set 6 (.bool false)).set 7 (.int .i64 (y.closed+1)))):=M7 L0 rfl;have X1:(((ps.map Pos.Pos.row).set i (y.row.set 6 (.bool false))).set i ((y.row.set 6 (.bool false)).set 7 (.int .i64 (y.closed+1))))[i]? = some ((y.row.set 6 (.bool false)).set 7 (.int .i64 (y.closed+1))):=by rw [List.getElem?_set_self (by simpa using (List.getElem?_eq_some_iff.1 X0).1)]
 have s2:=QU (lo:=lo) (i:=i) (k:=9) (t:=3) (c:=.int .i64 v) G1 hlo L1 X1 (by decide) (by kernel_rfl) rfl rfl;have hfin:((ps.set i { y with opn:=false,closed:=y.closed+1,speed:=v }).map Pos.Pos.row)=((((ps.map Pos.Pos.row).set i (y.row.set 6 (.bool false))).set i ((y.row.set 6 (.bool false)).set 7 (.int .i64 (y.closed+1)))).set i (((y.row.set 6 (.bool false)).set 7 (.int .i64 (y.closed+1))).set 9 (.int .i64 v))):=by
  rw [List.map_set];simp only [List.set_set];rfl
 simp (maxDischargeDepth:=12) only [go_sem,reduceEqDiff,reduceAdd,reduceSub,reduceCtorEq,g0,hl7,s0,s1,s2,hw];rw [hfin];refine ⟨rfl,fun j hj hne => ?_⟩;have e1:j ≠ H.n:=by omega
 simp only [hne,e1,if_false]
theorem g_27 {lo id i:Nat} {H:Heap} {ps:List Pos} {cs:List AV} {y:Pos} {num tk  : Int} {kind text p:Nm} (hlo:lo≤id) (hid:id < H.n) (hg:H.get id=.row ((ps.map Pos.Pos.row).flatten++cs) 10 59) (hx:ps[i]? = some y)  : ∃ w H',R PT (.call lo 191 [.ptr id (i * 10),.agg (evC num kind [p] [tk] text)] H)=some (.ofVal w H')∧H'.n=H.n+1∧H'.get id=.row (((ps.set i { y with ret:=true }).map Pos.Pos.row).flatten++cs) 10 59 ∧ ∀ j,j < H.n→j ≠ id→H'.get j=H.get j:=by
 refine Za (C:=PT) (f:=191) (lo:=lo) (args:=[.ptr id (i * 10),.agg (evC num kind [p] [tk] text)]) (H:=H) (fn:=Tryz.f191) (Q:=fun _ H'=>H'.n=H.n+1∧H'.get id=.row (((ps.set i { y with ret:=true }).map Pos.Pos.row).flatten++cs) 10 59 ∧ ∀ j,j < H.n→j ≠ id→H'.get j=H.get j) (by kernel_rfl) Tryz.func191 rfl rfl ?_
 have hL:Len 10 (ps.map Pos.Pos.row):=Zw (by intro x;rfl) _;have hx1:(ps.map Pos.Pos.row)[i]? = some y.row:=Y1 hx;have hidn:(id=H.n)=False:=eq_false (by omega);have hid1:=eq_true hid;have hidl:(id < H.n+1)=True:=eq_true (by omega);have g0:(H.push (.cells (evC num kind [p] [tk] text) 53)).get id=.row ((ps.map Pos.Pos.row).flatten++cs) 10 59:=by rw [Heap.get_push,if_neg (by omega)];exact hg
 have s0:=QU (lo:=lo) (i:=i) (k:=4) (t:=4) (c:=.bool true) g0 hlo hL hx1 (by decide) (by kernel_rfl) rfl rfl;have hfin:((ps.set i { y with ret:=true }).map Pos.Pos.row)=((ps.map Pos.Pos.row).set i (y.row.set 4 (.bool true))):=by
  rw [List.map_set];rfl
 simp (maxDischargeDepth:=12) only [go_sem,reduceEqDiff,reduceAdd,reduceCtorEq,g0,s0];rw [hfin];refine ⟨rfl,fun j hj hne => ?_⟩;have e1:j ≠ H.n:=by omega
 simp only [hne,e1,if_false]
theorem g_29 {lo id i:Nat} {H:Heap} {ps:List Pos} {cs:List AV} {y:Pos} {num tk v:Int} {kind text p:Nm} (hlo:lo≤id) (hid:id < H.n) (hg:H.get id=.row ((ps.map Pos.Pos.row).flatten++cs) 10 59) (hx:ps[i]? = some y)  : ∃ w H',R PT (.call lo 193 [.ptr id (i * 10),.agg (evC num kind [p] [tk,v] text)] H)=some (.ofVal w H')∧H'.n=H.n+1∧H'.get id=.row (((ps.set i { y with speed:=v }).map Pos.Pos.row).flatten++cs) 10 59 ∧ ∀ j,j < H.n→j ≠ id→H'.get j=H.get j:=by
 refine Za (C:=PT) (f:=193) (lo:=lo) (args:=[.ptr id (i * 10),.agg (evC num kind [p] [tk,v] text)]) (H:=H) (fn:=Tryz.f193) (Q:=fun _ H'=>H'.n=H.n+1∧H'.get id=.row (((ps.set i { y with speed:=v }).map Pos.Pos.row).flatten++cs) 10 59 ∧ ∀ j,j < H.n→j ≠ id→H'.get j=H.get j) (by kernel_rfl) Tryz.func193 rfl rfl ?_
 have hL:Len 10 (ps.map Pos.Pos.row):=Zw (by intro x;rfl) _;have hx1:(ps.map Pos.Pos.row)[i]? = some y.row:=Y1 hx;have hidn:(id=H.n)=False:=eq_false (by omega);have hid1:=eq_true hid;have hidl:(id < H.n+1)=True:=eq_true (by omega);have g0:(H.push (.cells (evC num kind [p] [tk,v] text) 53)).get id=.row ((ps.map Pos.Pos.row).flatten++cs) 10 59:=by rw [Heap.get_push,if_neg (by omega)];exact hg
 have s0:=QU (lo:=lo) (i:=i) (k:=9) (t:=3) (c:=.int .i64 v) g0 hlo hL hx1 (by decide) (by kernel_rfl) rfl rfl;have hfin:((ps.set i { y with speed:=v }).map Pos.Pos.row)=((ps.map Pos.Pos.row).set i (y.row.set 9 (.int .i64 v))):=by
  rw [List.map_set];rfl
 simp (maxDischargeDepth:=12) only [go_sem,reduceEqDiff,reduceAdd,reduceCtorEq,g0,s0];rw [hfin];refine ⟨rfl,fun j hj hne => ?_⟩;have e1:j ≠ H.n:=by omega
 simp only [hne,e1,if_false]
section
variable {lo:Nat} {H H':Heap} {b:Nat} {pre post:List AV} {e:TypeId} {r:Reg} {V:RegV}
theorem RegW.reF (h:RegW lo H b pre post e r V) (c:Chg lo b (Xt 7 65) H H') (hb:H'.get b=H.get b) {xs:List Flt} (hv:SW lo H' V.vF 7 65 (xs.map Pos.Flt.row)) (hl:xs.length≤Z1):RegW lo H' b pre post e { r with faults:=xs } V∧Chg lo b Yg H H':=by
 have hcb:∃ cs e,H.get b=.cells cs e:=⟨_,_,h.blk⟩;exact ⟨⟨Nat.lt_of_lt_of_le h.bn c.n,h.lob,hb.trans h.blk,h.aT.chg c (fun cs ⟨_,hx⟩=>by cases hx) hcb,hv,h.aR.chg c (fun cs ⟨_,hx⟩=>by cases hx) hcb,h.aP.chg c (fun cs ⟨_,hx⟩=>by cases hx) hcb,h.aM.chg c (fun cs ⟨_,hx⟩=>by cases hx) hcb,h.lT,hl,h.lR,h.lP,h.lM⟩,c.mono fun x ⟨cs,hx⟩=>⟨cs,_,_,hx,by decide⟩⟩
theorem RegW.reP (h:RegW lo H b pre post e r V) (c:Chg lo b (Xt 10 59) H H') (hb:H'.get b=H.get b) {xs:List Pos} (hv:SW lo H' V.vP 10 59 (xs.map Pos.Pos.row)) (hl:xs.length≤Z1):RegW lo H' b pre post e { r with poss:=xs } V∧Chg lo b Yg H H':=by
 have hcb:∃ cs e,H.get b=.cells cs e:=⟨_,_,h.blk⟩;exact ⟨⟨Nat.lt_of_lt_of_le h.bn c.n,h.lob,hb.trans h.blk,h.aT.chg c (fun cs ⟨_,hx⟩=>by cases hx) hcb,h.aF.chg c (fun cs ⟨_,hx⟩=>by cases hx) hcb,h.aR.chg c (fun cs ⟨_,hx⟩=>by cases hx) hcb,hv,h.aM.chg c (fun cs ⟨_,hx⟩=>by cases hx) hcb,h.lT,h.lF,h.lR,hl,h.lM⟩,c.mono fun x ⟨cs,hx⟩=>⟨cs,_,_,hx,by decide⟩⟩
end
theorem ZbY {lo:Nat} {H:Heap} {b:Nat} {pre post:List AV} {e:TypeId} {r:Reg} {V:RegV} (h:RegW lo H b pre post e r V) {num tk:Int} {kind text f p:Nm} {i:Nat} {y:Flt} (hf:At (·.name) r.faults f i y):∃ w H',R PT (.call lo 160 [.ptr b pre.length,.agg (evC num kind [f] [tk] text)] H)=some (.ofVal w H')∧RegW lo H' b pre post e { r with faults:=r.faults.set i { y with ans:=true } } V∧Chg lo b Yg H H':=by
 refine Za (C:=PT) (f:=160) (lo:=lo) (args:=[.ptr b pre.length,.agg (evC num kind [f] [tk] text)]) (H:=H) (fn:=Tryz.f160) (Q:=fun _ H'=>RegW lo H' b pre post e { r with faults:=r.faults.set i { y with ans:=true } } V∧Chg lo b Yg H H') (by kernel_rfl) Tryz.func160 rfl rfl ?_
 have ho:Old H.n H (H.push (.cells (evC num kind [f] [tk] text) 53)):=(Old.refl H).push _;have h1:=h.old ho;have hfa:=fun lo K=>U3 h.is hf.idx hf.lt ho (lo:=lo) (K:=K)
 obtain ⟨hr,_⟩ | ⟨id,cs,m,hv,hid,hg,hcs⟩:=h1.aF.1
 · have:=hf.at';rw [List.map_eq_nil_iff.1 hr] at this;cases this
 have hlo:lo≤id:=h1.aF.2 _ _ _ _ _ hv;have hL:Len 7 (r.faults.map Pos.Flt.row):=Zw (by intro x;rfl) _;have hx1:(r.faults.map Pos.Flt.row)[i]? = some y.row:=Y1 hf.at';have hel:elA V.vF 7 i=.ptr id (i * 7):=by rw [hv];show AV.ptr id (0+i * 7)=_;rw [Nat.zero_add]
 have hst:=QU (lo:=lo) (i:=i) (k:=5) (t:=4) (c:=.bool true) hg hlo hL hx1 (by decide) (by kernel_rfl) rfl rfl;have hbn:=eq_true h.bn;have hidb:id ≠ b:=fun he=>by rw [he,h1.blk] at hg;cases hg
 have hc:Chg lo b (Xt 7 65) (H.push (.cells (evC num kind [f] [tk] text) 53)) ((H.push (.cells (evC num kind [f] [tk] text) 53)).set id (.row (((r.faults.map Pos.Flt.row).set i (y.row.set 5 (.bool true))).flatten++cs) 7 65)):=(Chg.refl _).set hlo (.inr (.inl ⟨_,hg⟩)) _;have hfin:((r.faults.set i { y with ans:=true }).map Pos.Flt.row)=((r.faults.map Pos.Flt.row).set i (y.row.set 5 (.bool true))):=by rw [List.map_set];rfl
 obtain ⟨g1,g2⟩:=h1.reF (xs:=r.faults.set i { y with ans:=true }) hc (by rw [Heap.get_set,if_neg (Ne.symm hidb)]) (by
  rw [hv,hfin];exact AY hlo (by simpa using hid) (by rw [List.length_set]) hcs (by rw [Heap.get_set,if_pos rfl])) (by rw [List.length_set];exact h.lF)
 simp (maxDischargeDepth:=12) only [go_sem,reduceEqDiff,reduceAdd,reduceCtorEq,hfa,hel,hst];exact ⟨g1,((Chg.refl H).push _).to g2⟩
theorem ZbZ {lo:Nat} {H:Heap} {b:Nat} {pre post:List AV} {e:TypeId} {r:Reg} {V:RegV} (h:RegW lo H b pre post e r V) {num tk:Int} {kind text f p:Nm} {i:Nat} {y:Flt} (hf:At (·.name) r.faults f i y):∃ w H',R PT (.call lo 162 [.ptr b pre.length,.agg (evC num kind [f,p] [tk] text)] H)=some (.ofVal w H')∧RegW lo H' b pre post e { r with faults:=r.faults.set i { y with rep:=true } } V∧Chg lo b Yg H H':=by
 refine Za (C:=PT) (f:=162) (lo:=lo) (args:=[.ptr b pre.length,.agg (evC num kind [f,p] [tk] text)]) (H:=H) (fn:=Tryz.f162) (Q:=fun _ H'=>RegW lo H' b pre post e { r with faults:=r.faults.set i { y with rep:=true } } V∧Chg lo b Yg H H') (by kernel_rfl) Tryz.func162 rfl rfl ?_
 have ho:Old H.n H (H.push (.cells (evC num kind [f,p] [tk] text) 53)):=(Old.refl H).push _;have h1:=h.old ho;have hfa:=fun lo K=>U3 h.is hf.idx hf.lt ho (lo:=lo) (K:=K)
 obtain ⟨hr,_⟩ | ⟨id,cs,m,hv,hid,hg,hcs⟩:=h1.aF.1
 · have:=hf.at';rw [List.map_eq_nil_iff.1 hr] at this;cases this
 have hlo:lo≤id:=h1.aF.2 _ _ _ _ _ hv;have hL:Len 7 (r.faults.map Pos.Flt.row):=Zw (by intro x;rfl) _;have hx1:(r.faults.map Pos.Flt.row)[i]? = some y.row:=Y1 hf.at';have hel:elA V.vF 7 i=.ptr id (i * 7):=by rw [hv];show AV.ptr id (0+i * 7)=_;rw [Nat.zero_add]
 have hst:=QU (lo:=lo) (i:=i) (k:=6) (t:=4) (c:=.bool true) hg hlo hL hx1 (by decide) (by kernel_rfl) rfl rfl;have hbn:=eq_true h.bn;have hidb:id ≠ b:=fun he=>by rw [he,h1.blk] at hg;cases hg
 have hc:Chg lo b (Xt 7 65) (H.push (.cells (evC num kind [f,p] [tk] text) 53)) ((H.push (.cells (evC num kind [f,p] [tk] text) 53)).set id (.row (((r.faults.map Pos.Flt.row).set i (y.row.set 6 (.bool true))).flatten++cs) 7 65)):=(Chg.refl _).set hlo (.inr (.inl ⟨_,hg⟩)) _;have hfin:((r.faults.set i { y with rep:=true }).map Pos.Flt.row)=((r.faults.map Pos.Flt.row).set i (y.row.set 6 (.bool true))):=by rw [List.map_set];rfl
 obtain ⟨g1,g2⟩:=h1.reF (xs:=r.faults.set i { y with rep:=true }) hc (by rw [Heap.get_set,if_neg (Ne.symm hidb)]) (by
  rw [hv,hfin];exact AY hlo (by simpa using hid) (by rw [List.length_set]) hcs (by rw [Heap.get_set,if_pos rfl])) (by rw [List.length_set];exact h.lF)
 simp (maxDischargeDepth:=12) only [go_sem,reduceEqDiff,reduceAdd,reduceCtorEq,hfa,hel,hst];exact ⟨g1,((Chg.refl H).push _).to g2⟩
theorem KN {lo:Nat} {H:Heap} {b:Nat} {pre post:List AV} {e:TypeId} {r:Reg} {V:RegV} (h:RegW lo H b pre post e r V) {num:Int} {kind text p:Nm} {vals:List Int} {i:Nat} {y:Pos} (hf:At (·.name) r.poss p i y) {bx:Nat} (hbx:bx < H.n) {g:FuncId} (hgb:H.get bx=.cells [.fn g [] []] 274) {f:Pos→Pos}
 (hen:∀ {lo:Nat} {args:List AV} {H:Heap} {K:AV→Heap→Prop},VO (Z8 PT (R PT) lo g args H) K=AO (R PT (.call lo g args H)) fun o=>K o.val o.s.H)
 (hg:∀ (id:Nat) (H:Heap) (cs:List AV),lo≤id→id < H.n→H.get id=.row ((r.poss.map Pos.Pos.row).flatten++cs) 10 59 → ∃ w H',R PT (.call lo g [.ptr id (i * 10),.agg (evC num kind [p] vals text)] H)=some (.ofVal w H')∧H'.n=H.n+1∧H'.get id=.row (((r.poss.set i (f y)).map Pos.Pos.row).flatten++cs) 10 59 ∧ ∀ j,j < H.n→j ≠ id→H'.get j=H.get j) :
 ∃ w H',R PT (.call lo 274 [.ptr b pre.length,.agg (evC num kind [p] vals text),.ptr bx 0] H)=some (.ofVal w H')∧RegW lo H' b pre post e { r with poss:=r.poss.set i (f y) } V∧Chg lo b Yg H H':=by
 refine Za (C:=PT) (f:=274) (lo:=lo) (args:=[.ptr b pre.length,.agg (evC num kind [p] vals text),.ptr bx 0]) (H:=H) (fn:=Tryz.f274) (Q:=fun _ H'=>RegW lo H' b pre post e { r with poss:=r.poss.set i (f y) } V∧Chg lo b Yg H H') (by kernel_rfl) Tryz.func274 rfl rfl ?_
 have ho:Old H.n H (H.push (.cells (evC num kind [p] vals text) 53)):=(Old.refl H).push _;have h1:=h.old ho;have hfa:=fun lo K=>XK h.is hf.idx hf.lt ho (lo:=lo) (K:=K)
 obtain ⟨hr,_⟩ | ⟨id,cs,m,hv,hid,hgi,hcs⟩:=h1.aP.1
 · have:=hf.at';rw [List.map_eq_nil_iff.1 hr] at this;cases this
 have hlo:lo≤id:=h1.aP.2 _ _ _ _ _ hv;have hel:elA V.vP 10 i=.ptr id (i * 10):=by rw [hv];show AV.ptr id (0+i * 10)=_;rw [Nat.zero_add]
 obtain ⟨w,H2,hR,hn,hg2,hoth⟩:=hg id _ cs hlo hid hgi;have hcall:=fun K=>X8 (K:=K) hen hR
 have hbn:=eq_true h.bn;have hidb:id ≠ b:=fun he=>by rw [he,h1.blk] at hgi;cases hgi
 have hc:Chg lo b (Xt 10 59) (H.push (.cells (evC num kind [p] vals text) 53)) H2:=⟨by rw [hn];exact Nat.le_succ _,fun j hj=>by
  by_cases hji:j=id
  · exact .inr ⟨by rw [hji];exact hlo,.inr ⟨_,by rw [hji];exact hgi⟩⟩
  · exact .inl (hoth j hj hji)⟩
 obtain ⟨g1,g2⟩:=h1.reP (xs:=r.poss.set i (f y)) hc (hoth b h1.bn (Ne.symm hidb)) (by
  rw [hv];have:=AY (lo:=lo) (rows:=r.poss.map Pos.Pos.row) (rows':=(r.poss.set i (f y)).map Pos.Pos.row) hlo (by rw [hn];omega) (by simp) hcs hg2;exact this) (by rw [List.length_set];exact h.lP)
 have hbx':=eq_true hbx;have hbxn:(bx=H.n)=False:=eq_false (by omega);simp (maxDischargeDepth:=12) only [go_sem,reduceEqDiff,reduceAdd,reduceSub,reduceCtorEq,hfa,hel,hgb,hbxn,hcall];exact ⟨g1,((Chg.refl H).push _).to g2⟩
theorem en168:ZG 168:=ZI
theorem en181:ZG 181:=ZI
theorem Zc0 {H:Heap} {z:Trn} {id:Nat} {num tk:Int} {kind text x:Nm} (hid:id < H.n) (hg:H.get id=.cells (evC num kind [x] [tk] text) 53) {lo:Nat} {K:AV→Heap→Prop}:VO (Z8 PT (R PT) lo 168 [.agg [.str z.name,.str z.track,.int .i64 z.speed],.ptr id 0] H) K=K (.bool (decide (z.name ≠ x))) H:=by
 obtain ⟨w,H2,h1,h2⟩:=Za (C:=PT) (f:=168) (lo:=H.n) (args:=[.agg [.str z.name,.str z.track,.int .i64 z.speed],.ptr id 0]) (H:=H) (fn:=Tryz.f168) (Q:=fun w _=>w=.bool (decide (z.name ≠ x))) (by kernel_rfl) Tryz.func168 rfl rfl (by
  have hne:(id=H.n)=False:=eq_false (by omega);have hid1:=eq_true hid;by_cases c:z.name=x
  · have c1:decide (z.name=x)=true:=decide_eq_true c;have c2:decide (z.name ≠ x)=false:=decide_eq_false (by simpa using c);simp (maxDischargeDepth:=12) only [go_sem,reduceEqDiff,reduceAdd,reduceSub,reduceCtorEq,hne,hg,Yu,c1,c2]
  · have c1:decide (z.name=x)=false:=decide_eq_false c;have c2:decide (z.name ≠ x)=true:=decide_eq_true c;simp (maxDischargeDepth:=12) only [go_sem,reduceEqDiff,reduceAdd,reduceSub,reduceCtorEq,hne,hg,Yu,c1,c2])
 exact ZF (en168 rfl) ⟨H2,h1⟩ (by rw [h2];rfl) rfl
theorem Zc1 {lo:Nat} {H:Heap} {b:Nat} {pre post:List AV} {e:TypeId} {r:Reg} {V:RegV} (h:RegW lo H b pre post e r V) {num tk:Int} {kind text x:Nm}:∃ w H',R PT (.call lo 166 [.ptr b pre.length,.agg (evC num kind [x] [tk] text)] H)=some (.ofVal w H') ∧ ∃ V',RegW lo H' b pre post e { r with trains:=r.trains.filter fun z=>decide (z.name ≠ x) } V'∧Chg lo b Yg H H':=by
 refine Za (C:=PT) (f:=166) (lo:=lo) (args:=[.ptr b pre.length,.agg (evC num kind [x] [tk] text)]) (H:=H) (fn:=Tryz.f166) (Q:=fun _ H'=>∃ V',RegW lo H' b pre post e { r with trains:=r.trains.filter fun z=>decide (z.name ≠ x) } V'∧Chg lo b Yg H H') (by kernel_rfl) Tryz.func166 rfl rfl ?_
 have hlo:lo≤H.n:=Nat.le_of_lt (Nat.lt_of_le_of_lt h.lob h.bn);have ho:Old H.n H (H.push (.cells (evC num kind [x] [tk] text) 53)):=(Old.refl H).push _;have h1:=h.old ho;obtain ⟨t,H2,hk,hA,hO⟩:=Z9W h1.aR.pa.sl h.lR (g:=168) (caps:=[.ptr H.n 0]) (q:=fun z=>decide (z.name ≠ x)) rfl (fun z _ Hc hoc lo K=>Zc0 (Nat.lt_of_lt_of_le (by simp) hoc.1) (by rw [hoc.2 _ (by simp),Heap.get_push,if_pos rfl]));have hv:PW lo H2 (.ps t ((r.trains.filter fun z=>decide (z.name ≠ x)).map Pos.Trn.row)) 3 61 ((r.trains.filter fun z=>decide (z.name ≠ x)).map Pos.Trn.row):=by
  rcases hA with hA | ⟨j,a1,a2,a3,a4⟩
  · exact ⟨t,rfl,.inl hA⟩
  · exact ⟨t,rfl,.inr ⟨j,a1,a2,by simp at a3;omega,a4⟩⟩
 have hc:Chg lo b (Xt 3 61) (H.push (.cells (evC num kind [x] [tk] text) 53)) H2:=⟨hO.1,fun i hi=>.inl (hO.2 i hi)⟩;have hcb:=hO.2 b h1.bn;have hst:sst lo H2 45 (.ptr b (pre.length+3)) _=_:=Jo (hcb.trans h1.blk) h.lob (by show 3 < 6;decide) (by kernel_rfl) hv.cells1 hv.one1;obtain ⟨g1,g2⟩:=h1.putR hc hcb (xs:=r.trains.filter fun z=>decide (z.name ≠ x)) hv (Nat.le_trans (List.length_filter_le _ _) h.lR);have l1:=fun H'=>h.is.l3 (H':=H')
 have hbn:=eq_true h.bn;simp (maxDischargeDepth:=12) only [go_sem,reduceEqDiff,reduceAdd,reduceCtorEq,l1,hk,hst];exact ⟨_,g1,((Chg.refl H).push _).to g2⟩
theorem Zc2 {H:Heap} {z:Mch} {id:Nat} {num tk:Int} {kind text x:Nm} (hid:id < H.n) (hg:H.get id=.cells (evC num kind [x] [tk] text) 53) {lo:Nat} {K:AV→Heap→Prop}:VO (Z8 PT (R PT) lo 181 [.agg [.str z.name,.str z.poss],.ptr id 0] H) K=K (.bool (decide (z.name ≠ x))) H:=by
 obtain ⟨w,H2,h1,h2⟩:=Za (C:=PT) (f:=181) (lo:=H.n) (args:=[.agg [.str z.name,.str z.poss],.ptr id 0]) (H:=H) (fn:=Tryz.f181) (Q:=fun w _=>w=.bool (decide (z.name ≠ x))) (by kernel_rfl) Tryz.func181 rfl rfl (by
  have hne:(id=H.n)=False:=eq_false (by omega);have hid1:=eq_true hid;by_cases c:z.name=x
  · have c1:decide (z.name=x)=true:=decide_eq_true c;have c2:decide (z.name ≠ x)=false:=decide_eq_false (by simpa using c);simp (maxDischargeDepth:=12) only [go_sem,reduceEqDiff,reduceAdd,reduceSub,reduceCtorEq,hne,hg,Yu,c1,c2]
  · have c1:decide (z.name=x)=false:=decide_eq_false c;have c2:decide (z.name ≠ x)=true:=decide_eq_true c;simp (maxDischargeDepth:=12) only [go_sem,reduceEqDiff,reduceAdd,reduceSub,reduceCtorEq,hne,hg,Yu,c1,c2])
 exact ZF (en181 rfl) ⟨H2,h1⟩ (by rw [h2];rfl) rfl
theorem w_Out {lo:Nat} {H:Heap} {b:Nat} {pre post:List AV} {e:TypeId} {r:Reg} {V:RegV} (h:RegW lo H b pre post e r V) {num tk:Int} {kind text x:Nm}:∃ w H',R PT (.call lo 179 [.ptr b pre.length,.agg (evC num kind [x] [tk] text)] H)=some (.ofVal w H') ∧ ∃ V',RegW lo H' b pre post e { r with machs:=r.machs.filter fun z=>decide (z.name ≠ x) } V'∧Chg lo b Yg H H':=by
 refine Za (C:=PT) (f:=179) (lo:=lo) (args:=[.ptr b pre.length,.agg (evC num kind [x] [tk] text)]) (H:=H) (fn:=Tryz.f179) (Q:=fun _ H'=>∃ V',RegW lo H' b pre post e { r with machs:=r.machs.filter fun z=>decide (z.name ≠ x) } V'∧Chg lo b Yg H H') (by kernel_rfl) Tryz.func179 rfl rfl ?_
 have hlo:lo≤H.n:=Nat.le_of_lt (Nat.lt_of_le_of_lt h.lob h.bn);have ho:Old H.n H (H.push (.cells (evC num kind [x] [tk] text) 53)):=(Old.refl H).push _;have h1:=h.old ho;obtain ⟨t,H2,hk,hA,hO⟩:=AP h1.aM.pa.sl h.lM (g:=181) (caps:=[.ptr H.n 0]) (q:=fun z=>decide (z.name ≠ x)) rfl (fun z _ Hc hoc lo K=>Zc2 (Nat.lt_of_lt_of_le (by simp) hoc.1) (by rw [hoc.2 _ (by simp),Heap.get_push,if_pos rfl]));have hv:PW lo H2 (.ps t ((r.machs.filter fun z=>decide (z.name ≠ x)).map Pos.Mch.row)) 2 67 ((r.machs.filter fun z=>decide (z.name ≠ x)).map Pos.Mch.row):=by
  rcases hA with hA | ⟨j,a1,a2,a3,a4⟩
  · exact ⟨t,rfl,.inl hA⟩
  · exact ⟨t,rfl,.inr ⟨j,a1,a2,by simp at a3;omega,a4⟩⟩
 have hc:Chg lo b (Xt 2 67) (H.push (.cells (evC num kind [x] [tk] text) 53)) H2:=⟨hO.1,fun i hi=>.inl (hO.2 i hi)⟩;have hcb:=hO.2 b h1.bn;have hst:sst lo H2 47 (.ptr b (pre.length+5)) _=_:=Jo (hcb.trans h1.blk) h.lob (by show 5 < 6;decide) (by kernel_rfl) hv.cells1 hv.one1;obtain ⟨g1,g2⟩:=h1.putM hc hcb (xs:=r.machs.filter fun z=>decide (z.name ≠ x)) hv (Nat.le_trans (List.length_filter_le _ _) h.lM);have l1:=fun H'=>h.is.l5 (H':=H')
 have hbn:=eq_true h.bn;simp (maxDischargeDepth:=12) only [go_sem,reduceEqDiff,reduceAdd,reduceCtorEq,l1,hk,hst];exact ⟨_,g1,((Chg.refl H).push _).to g2⟩
def Xu (r:Reg) (a:Pos.Act) (num:Int) (kind:Nm) (names:List Nm) (vals:List Int) (text:Nm) (n:Nat):Prop :=
 ∃ nm fv f1 l1 f2 l2,lkS kind (Ji n)=some (.agg [.str nm,.int .i64 fv,.fn f1 [] l1,.fn f2 [] l2])∧(l1.map ZO=l1∧l2.map ZO=l2)∧(∀ m,n+17≤m→Yi m l1=true∧Yi m l2=true) ∧
   ∀ lo H b pre post e V,FormsAt n H→n+17≤H.n→RegW lo H b pre post e r V → ∃ w H' V',(∀ K,VO (Z8 PT (R PT) lo f2 (.ptr b pre.length :: .agg (evC num kind names vals text)::l2) H) K=K w H')∧RegW lo H' b pre post e (Pos.doA r r.tick a) V'∧Chg lo b Yg H H'
theorem JK {α:Type} {nm:α→Nm} {g:α→α} {l:List α} {s:Nm} {i:Nat} {y:α} (u:Pos.Yn nm l) (h:At nm l s i y):l.set i (g y)=l.map fun z=>if nm z=s then g z else z:=by
 rw [Pos.Ie (g:=g) u h.at',h.nm']
theorem Zc3 {r:Reg} {tk v:Int} {p:Nm} {y:Pos} (S:Pos.Safe r) (hy:r.poss? p=some y) (hok:Pos.okA r tk (.staff p v)=0):0≤y.pers∧y.pers≤100∧1≤v∧v≤100:=by
 have hp:=S.pers y (Pos.JJ hy).1;unfold Pos.okA at hok;split at hok
 · cases hok
 simp only [Pos.XH,hy] at hok;split at hok
 · cases hok
 split at hok
 · cases hok
 omega
theorem Zc4 {r:Reg} {tk v:Int} {p:Nm} {y:Pos} (S:Pos.Safe r) (hy:r.poss? p=some y) (hok:Pos.okA r tk (.off p v)=0):0≤y.pers∧y.pers≤100∧1≤v∧v≤100:=by
 have hp:=S.pers y (Pos.JJ hy).1;unfold Pos.okA at hok;split at hok
 · cases hok
 simp only [Pos.XH,hy] at hok;split at hok
 · cases hok
 split at hok
 · cases hok
 omega
theorem en174:YS 174:=YY
theorem en176:YS 176:=YY
theorem en183:YS 183:=YY
theorem en185:YS 185:=YY
theorem en187:YS 187:=YY
theorem en189:YS 189:=YY
theorem en191:YS 191:=YY
theorem en193:YS 193:=YY
theorem Zc5 {r:Reg} (I:Pos.Inv r) (S:Pos.Safe r) {num tk:Int} {t:Nm} {v:Int} (hok:Pos.okA r tk (.track t v)=0) (n:Nat):Xu r (.track t v) num (Pos.Zf num tk (.track t v)).kind (Pos.Zf num tk (.track t v)).names (Pos.Zf num tk (.track t v)).vals [] n:=by
 refine ⟨_,_,_,[],155,[],rfl,⟨rfl,rfl⟩,fun m hm=>⟨rfl,rfl⟩,fun lo H b pre post e V hF hn h => ?_⟩;obtain ⟨w,H',hR,V',g1,g2⟩:=ZbS h (num:=num) (tk:=tk) (text:=[]) (kind:=(Pos.Zf num tk (.track t v)).kind) (t:=t) (v:=v) (by have:=S.nT;unfold Z1;omega);exact ⟨w,H',V',fun K=>X8 (en155 rfl) hR,g1,g2⟩
theorem Zc6 {r:Reg} (I:Pos.Inv r) (S:Pos.Safe r) {num tk:Int} {f t:Nm} {x y v:Int} (hok:Pos.okA r tk (.fault f t x y v)=0) (n:Nat):Xu r (.fault f t x y v) num (Pos.Zf num tk (.fault f t x y v)).kind (Pos.Zf num tk (.fault f t x y v)).names (Pos.Zf num tk (.fault f t x y v)).vals [] n:=by
 refine ⟨_,_,_,[],158,[],rfl,⟨rfl,rfl⟩,fun m hm=>⟨rfl,rfl⟩,fun lo H b pre post e V hF hn h => ?_⟩;obtain ⟨w,H',hR,V',g1,g2⟩:=ZbU h (num:=num) (tk:=tk) (text:=[]) (kind:=(Pos.Zf num tk (.fault f t x y v)).kind) (f:=f) (t:=t) (x:=x) (y:=y) (v:=v) (by have:=S.nF;unfold Z1;omega);exact ⟨w,H',V',fun K=>X8 (en158 rfl) hR,g1,g2⟩
theorem Zc7 {r:Reg} (I:Pos.Inv r) (S:Pos.Safe r) {num tk:Int} {f:Nm} (hok:Pos.okA r tk (.answer f)=0) (n:Nat):Xu r (.answer f) num (Pos.Zf num tk (.answer f)).kind (Pos.Zf num tk (.answer f)).names (Pos.Zf num tk (.answer f)).vals [] n:=by
 refine ⟨_,_,_,[],160,[],rfl,⟨rfl,rfl⟩,fun m hm=>⟨rfl,rfl⟩,fun lo H b pre post e V hF hn h => ?_⟩;obtain ⟨y,hy⟩:=Pos.GW (.inl hok);obtain ⟨i,hi⟩:=At.of (nm:=Flt.name) hy;obtain ⟨w,H',hR,g1,g2⟩:=ZbY h (num:=num) (tk:=tk) (text:=[]) (kind:=(Pos.Zf num tk (.answer f)).kind) (p:=[]) hi;have hu:=JK (g:=fun y:Flt=>{ y with ans:=true }) I.uF hi
 rw [hu] at g1;exact ⟨w,H',V,fun K=>X8 (en160 rfl) hR,g1,g2⟩
theorem Zc8 {r:Reg} (I:Pos.Inv r) (S:Pos.Safe r) {num tk:Int} {f p:Nm} (hok:Pos.okA r tk (.repair f p)=0) (n:Nat):Xu r (.repair f p) num (Pos.Zf num tk (.repair f p)).kind (Pos.Zf num tk (.repair f p)).names (Pos.Zf num tk (.repair f p)).vals [] n:=by
 refine ⟨_,_,_,[],162,[],rfl,⟨rfl,rfl⟩,fun m hm=>⟨rfl,rfl⟩,fun lo H b pre post e V hF hn h => ?_⟩;obtain ⟨y,hy⟩:=Pos.GW (.inr ⟨_,hok⟩);obtain ⟨i,hi⟩:=At.of (nm:=Flt.name) hy;obtain ⟨w,H',hR,g1,g2⟩:=ZbZ h (num:=num) (tk:=tk) (text:=[]) (kind:=(Pos.Zf num tk (.repair f p)).kind) (p:=p) hi;have hu:=JK (g:=fun y:Flt=>{ y with rep:=true }) I.uF hi
 rw [hu] at g1;exact ⟨w,H',V,fun K=>X8 (en162 rfl) hR,g1,g2⟩
theorem Zc9 {r:Reg} (I:Pos.Inv r) (S:Pos.Safe r) {num tk:Int} {x t:Nm} {v:Int} (hok:Pos.okA r tk (.enter x t v)=0) (n:Nat):Xu r (.enter x t v) num (Pos.Zf num tk (.enter x t v)).kind (Pos.Zf num tk (.enter x t v)).names (Pos.Zf num tk (.enter x t v)).vals [] n:=by
 refine ⟨_,_,_,[],164,[],rfl,⟨rfl,rfl⟩,fun m hm=>⟨rfl,rfl⟩,fun lo H b pre post e V hF hn h => ?_⟩;obtain ⟨w,H',hR,V',g1,g2⟩:=ZbT h (num:=num) (tk:=tk) (text:=[]) (kind:=(Pos.Zf num tk (.enter x t v)).kind) (x:=x) (t:=t) (v:=v) (by have:=S.nN;unfold Z1;omega);exact ⟨w,H',V',fun K=>X8 (en164 rfl) hR,g1,g2⟩
theorem Zca {r:Reg} (I:Pos.Inv r) (S:Pos.Safe r) {num tk:Int} {x:Nm} (hok:Pos.okA r tk (.leave x)=0) (n:Nat):Xu r (.leave x) num (Pos.Zf num tk (.leave x)).kind (Pos.Zf num tk (.leave x)).names (Pos.Zf num tk (.leave x)).vals [] n:=by
 refine ⟨_,_,_,[],166,[],rfl,⟨rfl,rfl⟩,fun m hm=>⟨rfl,rfl⟩,fun lo H b pre post e V hF hn h => ?_⟩;obtain ⟨w,H',hR,V',g1,g2⟩:=Zc1 h (num:=num) (tk:=tk) (text:=[]) (kind:=(Pos.Zf num tk (.leave x)).kind) (x:=x);exact ⟨w,H',V',fun K=>X8 (en166 rfl) hR,g1,g2⟩
theorem Zcb {r:Reg} (I:Pos.Inv r) (S:Pos.Safe r) {num tk:Int} {p t:Nm} {x y:Int} (hok:Pos.okA r tk (.take p t x y)=0) (n:Nat):Xu r (.take p t x y) num (Pos.Zf num tk (.take p t x y)).kind (Pos.Zf num tk (.take p t x y)).names (Pos.Zf num tk (.take p t x y)).vals [] n:=by
 refine ⟨_,_,_,[],170,[],rfl,⟨rfl,rfl⟩,fun m hm=>⟨rfl,rfl⟩,fun lo H b pre post e V hF hn h => ?_⟩;obtain ⟨w,H',hR,V',g1,g2⟩:=ZbV h (num:=num) (tk:=tk) (text:=[]) (kind:=(Pos.Zf num tk (.take p t x y)).kind) (p:=p) (t:=t) (x:=x) (y:=y) (by have:=S.nP;unfold Z1;omega);exact ⟨w,H',V',fun K=>X8 (en170 rfl) hR,g1,g2⟩
theorem Zcc {r:Reg} (I:Pos.Inv r) (S:Pos.Safe r) {num tk:Int} {p:Nm} (hok:Pos.okA r tk (.prot p)=0) (n:Nat):Xu r (.prot p) num (Pos.Zf num tk (.prot p)).kind (Pos.Zf num tk (.prot p)).names (Pos.Zf num tk (.prot p)).vals [] n:=by
 refine ⟨_,_,_,[.ptr (n+1) 0],274,[.ptr (n+2) 0],rfl,⟨rfl,rfl⟩,fun m hm=>⟨Yh (by omega),Yh (by omega)⟩,fun lo H b pre post e V hF hn h => ?_⟩;obtain ⟨y,hy⟩:=Pos.Xx hok (p:=p) rfl;obtain ⟨i,hi⟩:=At.of (nm:=Pos.name) hy;obtain ⟨w,H',hR,g1,g2⟩:=KN h (num:=num) (text:=[]) (kind:=(Pos.Zf num tk (.prot p)).kind) (vals:=(Pos.Zf num tk (.prot p)).vals) hi (bx:=n+2) (by omega) (hF.box 2 (by omega) (by omega)) (f:=fun y=>{ y with prot:=true }) (en174 rfl) (fun id H cs h1 h2 h3=>g_12 h1 h2 h3 hi.at')
 have hu:=JK (g:=fun y:Pos=>{ y with prot:=true }) I.uP hi
 rw [hu] at g1;exact ⟨w,H',V,fun K=>X8 (KM rfl) hR,g1,g2⟩
theorem Zcd {r:Reg} (I:Pos.Inv r) (S:Pos.Safe r) {num tk:Int} {p:Nm} (hok:Pos.okA r tk (.clear p)=0) (n:Nat):Xu r (.clear p) num (Pos.Zf num tk (.clear p)).kind (Pos.Zf num tk (.clear p)).names (Pos.Zf num tk (.clear p)).vals [] n:=by
 refine ⟨_,_,_,[.ptr (n+3) 0],274,[.ptr (n+4) 0],rfl,⟨rfl,rfl⟩,fun m hm=>⟨Yh (by omega),Yh (by omega)⟩,fun lo H b pre post e V hF hn h => ?_⟩;obtain ⟨y,hy⟩:=Pos.Xx hok (p:=p) rfl;obtain ⟨i,hi⟩:=At.of (nm:=Pos.name) hy;obtain ⟨w,H',hR,g1,g2⟩:=KN h (num:=num) (text:=[]) (kind:=(Pos.Zf num tk (.clear p)).kind) (vals:=(Pos.Zf num tk (.clear p)).vals) hi (bx:=n+4) (by omega) (hF.box 4 (by omega) (by omega)) (f:=fun y=>{ y with prot:=false }) (en176 rfl) (fun id H cs h1 h2 h3=>g_14 h1 h2 h3 hi.at')
 have hu:=JK (g:=fun y:Pos=>{ y with prot:=false }) I.uP hi
 rw [hu] at g1;exact ⟨w,H',V,fun K=>X8 (KM rfl) hR,g1,g2⟩
theorem ap_In {r:Reg} (I:Pos.Inv r) (S:Pos.Safe r) {num tk:Int} {m p:Nm} (hok:Pos.okA r tk (.into m p)=0) (n:Nat):Xu r (.into m p) num (Pos.Zf num tk (.into m p)).kind (Pos.Zf num tk (.into m p)).names (Pos.Zf num tk (.into m p)).vals [] n:=by
 refine ⟨_,_,_,[.ptr (n+5) 0],178,[],rfl,⟨rfl,rfl⟩,fun m hm=>⟨Yh (by omega),rfl⟩,fun lo H b pre post e V hF hn h => ?_⟩;obtain ⟨w,H',hR,V',g1,g2⟩:=w_In h (num:=num) (tk:=tk) (text:=[]) (kind:=(Pos.Zf num tk (.into m p)).kind) (m:=m) (p:=p) (by have:=S.nM;unfold Z1;omega);exact ⟨w,H',V',fun K=>X8 (en178 rfl) hR,g1,g2⟩
theorem Zce {r:Reg} (I:Pos.Inv r) (S:Pos.Safe r) {num tk:Int} {x:Nm} (hok:Pos.okA r tk (.out x)=0) (n:Nat):Xu r (.out x) num (Pos.Zf num tk (.out x)).kind (Pos.Zf num tk (.out x)).names (Pos.Zf num tk (.out x)).vals [] n:=by
 refine ⟨_,_,_,[],179,[],rfl,⟨rfl,rfl⟩,fun m hm=>⟨rfl,rfl⟩,fun lo H b pre post e V hF hn h => ?_⟩;obtain ⟨w,H',hR,V',g1,g2⟩:=w_Out h (num:=num) (tk:=tk) (text:=[]) (kind:=(Pos.Zf num tk (.out x)).kind) (x:=x);exact ⟨w,H',V',fun K=>X8 (en179 rfl) hR,g1,g2⟩
theorem Zcf {r:Reg} (I:Pos.Inv r) (S:Pos.Safe r) {num tk:Int} {p:Nm} {v:Int} (hok:Pos.okA r tk (.staff p v)=0) (n:Nat):Xu r (.staff p v) num (Pos.Zf num tk (.staff p v)).kind (Pos.Zf num tk (.staff p v)).names (Pos.Zf num tk (.staff p v)).vals [] n:=by
 refine ⟨_,_,_,[.ptr (n+6) 0],274,[.ptr (n+7) 0],rfl,⟨rfl,rfl⟩,fun m hm=>⟨Yh (by omega),Yh (by omega)⟩,fun lo H b pre post e V hF hn h => ?_⟩;obtain ⟨y,hy⟩:=Pos.Xx hok (p:=p) rfl;obtain ⟨i,hi⟩:=At.of (nm:=Pos.name) hy;have hpv:=Zc3 S hy hok;have hw:Zk .i64 (Int.add y.pers v)=y.pers+v:=by
  show Zk .i64 (y.pers+v)=_;exact Qx (by omega) (by omega)
 obtain ⟨w,H',hR,g1,g2⟩:=KN h (num:=num) (text:=[]) (kind:=(Pos.Zf num tk (.staff p v)).kind) (vals:=(Pos.Zf num tk (.staff p v)).vals) hi (bx:=n+7) (by omega) (hF.box 7 (by omega) (by omega)) (f:=fun y=>{ y with pers:=y.pers+v }) (en183 rfl) (fun id H cs h1 h2 h3=>g_19 h1 h2 h3 hi.at' hw)
 have hu:=JK (g:=fun y:Pos=>{ y with pers:=y.pers+v }) I.uP hi
 rw [hu] at g1;exact ⟨w,H',V,fun K=>X8 (KM rfl) hR,g1,g2⟩
theorem Zcg {r:Reg} (I:Pos.Inv r) (S:Pos.Safe r) {num tk:Int} {p:Nm} {v:Int} (hok:Pos.okA r tk (.off p v)=0) (n:Nat):Xu r (.off p v) num (Pos.Zf num tk (.off p v)).kind (Pos.Zf num tk (.off p v)).names (Pos.Zf num tk (.off p v)).vals [] n:=by
 refine ⟨_,_,_,[.ptr (n+8) 0],274,[.ptr (n+9) 0],rfl,⟨rfl,rfl⟩,fun m hm=>⟨Yh (by omega),Yh (by omega)⟩,fun lo H b pre post e V hF hn h => ?_⟩;obtain ⟨y,hy⟩:=Pos.Xx hok (p:=p) rfl;obtain ⟨i,hi⟩:=At.of (nm:=Pos.name) hy;have hpv:=Zc4 S hy hok;have hw:Zk .i64 (Int.sub y.pers v)=y.pers - v:=by
  show Zk .i64 (y.pers - v)=_;exact Qx (by omega) (by omega)
 obtain ⟨w,H',hR,g1,g2⟩:=KN h (num:=num) (text:=[]) (kind:=(Pos.Zf num tk (.off p v)).kind) (vals:=(Pos.Zf num tk (.off p v)).vals) hi (bx:=n+9) (by omega) (hF.box 9 (by omega) (by omega)) (f:=fun y=>{ y with pers:=y.pers - v }) (en185 rfl) (fun id H cs h1 h2 h3=>g_21 h1 h2 h3 hi.at' hw)
 have hu:=JK (g:=fun y:Pos=>{ y with pers:=y.pers - v }) I.uP hi
 rw [hu] at g1;exact ⟨w,H',V,fun K=>X8 (KM rfl) hR,g1,g2⟩
theorem Zch {r:Reg} (I:Pos.Inv r) (S:Pos.Safe r) {num tk:Int} {p:Nm} (hok:Pos.okA r tk (.opn p)=0) (n:Nat):Xu r (.opn p) num (Pos.Zf num tk (.opn p)).kind (Pos.Zf num tk (.opn p)).names (Pos.Zf num tk (.opn p)).vals [] n:=by
 refine ⟨_,_,_,[.ptr (n+10) 0],274,[.ptr (n+11) 0],rfl,⟨rfl,rfl⟩,fun m hm=>⟨Yh (by omega),Yh (by omega)⟩,fun lo H b pre post e V hF hn h => ?_⟩;obtain ⟨y,hy⟩:=Pos.Xx hok (p:=p) rfl;obtain ⟨i,hi⟩:=At.of (nm:=Pos.name) hy;obtain ⟨w,H',hR,g1,g2⟩:=KN h (num:=num) (text:=[]) (kind:=(Pos.Zf num tk (.opn p)).kind) (vals:=(Pos.Zf num tk (.opn p)).vals) hi (bx:=n+11) (by omega) (hF.box 11 (by omega) (by omega)) (f:=fun y=>{ y with opn:=true }) (en187 rfl) (fun id H cs h1 h2 h3=>g_23 h1 h2 h3 hi.at')
 have hu:=JK (g:=fun y:Pos=>{ y with opn:=true }) I.uP hi
 rw [hu] at g1;exact ⟨w,H',V,fun K=>X8 (KM rfl) hR,g1,g2⟩
theorem Zci {r:Reg} (I:Pos.Inv r) (S:Pos.Safe r) {num tk:Int} {p:Nm} {v:Int} (hok:Pos.okA r tk (.close p v)=0) (n:Nat):Xu r (.close p v) num (Pos.Zf num tk (.close p v)).kind (Pos.Zf num tk (.close p v)).names (Pos.Zf num tk (.close p v)).vals [] n:=by
 refine ⟨_,_,_,[.ptr (n+12) 0],274,[.ptr (n+13) 0],rfl,⟨rfl,rfl⟩,fun m hm=>⟨Yh (by omega),Yh (by omega)⟩,fun lo H b pre post e V hF hn h => ?_⟩;obtain ⟨y,hy⟩:=Pos.Xx hok (p:=p) rfl;obtain ⟨i,hi⟩:=At.of (nm:=Pos.name) hy;have hcl:=S.closed y (Pos.JJ hy).1;have hw:Zk .i64 (Int.add y.closed 1)=y.closed+1:=by
  show Zk .i64 (y.closed+1)=_;exact Qx (by omega) (by omega)
 obtain ⟨w,H',hR,g1,g2⟩:=KN h (num:=num) (text:=[]) (kind:=(Pos.Zf num tk (.close p v)).kind) (vals:=(Pos.Zf num tk (.close p v)).vals) hi (bx:=n+13) (by omega) (hF.box 13 (by omega) (by omega)) (f:=fun y=>{ y with opn:=false,closed:=y.closed+1,speed:=v }) (en189 rfl) (fun id H cs h1 h2 h3=>g_25 h1 h2 h3 hi.at' hw)
 have hu:=JK (g:=fun y:Pos=>{ y with opn:=false,closed:=y.closed+1,speed:=v }) I.uP hi
 rw [hu] at g1;exact ⟨w,H',V,fun K=>X8 (KM rfl) hR,g1,g2⟩
theorem Zcj {r:Reg} (I:Pos.Inv r) (S:Pos.Safe r) {num tk:Int} {p:Nm} (hok:Pos.okA r tk (.ret p)=0) (n:Nat):Xu r (.ret p) num (Pos.Zf num tk (.ret p)).kind (Pos.Zf num tk (.ret p)).names (Pos.Zf num tk (.ret p)).vals [] n:=by
 refine ⟨_,_,_,[.ptr (n+14) 0],274,[.ptr (n+15) 0],rfl,⟨rfl,rfl⟩,fun m hm=>⟨Yh (by omega),Yh (by omega)⟩,fun lo H b pre post e V hF hn h => ?_⟩;obtain ⟨y,hy⟩:=Pos.Xx hok (p:=p) rfl;obtain ⟨i,hi⟩:=At.of (nm:=Pos.name) hy;obtain ⟨w,H',hR,g1,g2⟩:=KN h (num:=num) (text:=[]) (kind:=(Pos.Zf num tk (.ret p)).kind) (vals:=(Pos.Zf num tk (.ret p)).vals) hi (bx:=n+15) (by omega) (hF.box 15 (by omega) (by omega)) (f:=fun y=>{ y with ret:=true }) (en191 rfl) (fun id H cs h1 h2 h3=>g_27 h1 h2 h3 hi.at')
 have hu:=JK (g:=fun y:Pos=>{ y with ret:=true }) I.uP hi
 rw [hu] at g1;exact ⟨w,H',V,fun K=>X8 (KM rfl) hR,g1,g2⟩
theorem Zck {r:Reg} (I:Pos.Inv r) (S:Pos.Safe r) {num tk:Int} {p:Nm} {v:Int} (hok:Pos.okA r tk (.raise p v)=0) (n:Nat):Xu r (.raise p v) num (Pos.Zf num tk (.raise p v)).kind (Pos.Zf num tk (.raise p v)).names (Pos.Zf num tk (.raise p v)).vals [] n:=by
 refine ⟨_,_,_,[],274,[.ptr (n+16) 0],rfl,⟨rfl,rfl⟩,fun m hm=>⟨rfl,Yh (by omega)⟩,fun lo H b pre post e V hF hn h => ?_⟩;obtain ⟨y,hy⟩:=Pos.Xx hok (p:=p) rfl;obtain ⟨i,hi⟩:=At.of (nm:=Pos.name) hy;obtain ⟨w,H',hR,g1,g2⟩:=KN h (num:=num) (text:=[]) (kind:=(Pos.Zf num tk (.raise p v)).kind) (vals:=(Pos.Zf num tk (.raise p v)).vals) hi (bx:=n+16) (by omega) (hF.box 16 (by omega) (by omega)) (f:=fun y=>{ y with speed:=v }) (en193 rfl) (fun id H cs h1 h2 h3=>g_29 h1 h2 h3 hi.at')
 have hu:=JK (g:=fun y:Pos=>{ y with speed:=v }) I.uP hi
 rw [hu] at g1;exact ⟨w,H',V,fun K=>X8 (KM rfl) hR,g1,g2⟩
theorem AZ {r:Reg} (I:Pos.Inv r) (S:Pos.Safe r) {num tk:Int} {a:Pos.Act} (hok:Pos.okA r tk a=0) (n:Nat):Xu r a num (Pos.Zf num tk a).kind (Pos.Zf num tk a).names (Pos.Zf num tk a).vals [] n:=by
 cases a
 case track=>exact Zc5 I S hok n
 case fault=>exact Zc6 I S hok n
 case answer=>exact Zc7 I S hok n
 case repair=>exact Zc8 I S hok n
 case enter=>exact Zc9 I S hok n
 case leave=>exact Zca I S hok n
 case take=>exact Zcb I S hok n
 case prot=>exact Zcc I S hok n
 case clear=>exact Zcd I S hok n
 case into=>exact ap_In I S hok n
 case out=>exact Zce I S hok n
 case staff=>exact Zcf I S hok n
 case off=>exact Zcg I S hok n
 case opn=>exact Zch I S hok n
 case close=>exact Zci I S hok n
 case ret=>exact Zcj I S hok n
 case raise=>exact Zck I S hok n
end Go.Sim

namespace Go.Sim.Pos
open Go.Sim
theorem M8 (num tk:Int) (a:Act):∃ vs,(Zf num tk a).vals=tk::vs:=by cases a<;>exact ⟨_,rfl⟩
theorem M9 (r:Reg) (tk:Int) (a:Act):{ doA r r.tick a with tick:=tk }=doA r tk a:=by cases a<;>rfl
theorem B0 (num tk:Int) (a:Act):∃ kind names vs,Zf num tk a=⟨num,kind,names,tk::vs,[]⟩:=by cases a<;>exact ⟨_,_,_,rfl⟩
theorem Ma (nm:Nm→Bool) {cs:List Ev} {r r':Reg} (hrun:Yr Y6 (YX cs)=some r) (hc:∀ e ∈ cs,Zp nm e=0∧e.kind ≠ ZN) {k:Nat} {e:Ev} (he:cs[k]? = some e) (hk:Yr Y6 (YX (cs.take k))=some r') :
 ∃ tk a,e=Zf e.num tk a∧okA r' tk a=0∧Yr Y6 (YX (cs.take (k+1)))=some (doA r' tk a)∧Inv r'∧Safe r':=by
 have hlt:k < cs.length:=(List.getElem?_eq_some_iff.1 he).1;have hm:e ∈ cs:=List.mem_of_getElem? he;obtain ⟨h1,h2⟩:=hc e hm;obtain ⟨tk,a,ha,hev,_,_⟩:=Fl nm h1 h2;have hsplit:cs=cs.take k++e::cs.drop (k+1):=by
  have:=List.take_append_drop k cs;rw [List.drop_eq_getElem_cons hlt,(List.getElem?_eq_some_iff.1 he).2] at this;exact this.symm
 have hr:=hrun;rw [hsplit] at hr;unfold YX at hr hk;rw [List.filterMap_append,UM,hk] at hr;simp only [Option.bind_some,List.filterMap_cons,ha] at hr;obtain ⟨h3,h4⟩:=GX hr;obtain ⟨I,S⟩:=CQ I6 I7 hk;refine ⟨tk,a,hev,h3, ?_,I,S⟩;have ht:cs.take (k+1)=cs.take k++[e]:=by
  rw [List.take_add_one,he];rfl
 rw [ht];unfold YX;rw [List.filterMap_append,UM,hk];simp only [Option.bind_some,List.filterMap_cons,ha,List.filterMap_nil];rw [run_ok h3];rfl
end Go.Sim.Pos
namespace Go.Sim
open Go Go.Proofs
open Go.Sim.Pos (Nm Trk Flt Trn Pos Mch Reg Ev Len ZW Yd Y8 Ye Jh)
set_option maxRecDepth 100000
set_option maxHeartbeats 8000000
def V0:RegV:=⟨.ps .nil [],.ps .nil [],.ps .nil [],.ps .nil [],.ps .nil []⟩
theorem Mb:∀ x,Yg x→XC x:=fun _ ⟨cs,sz,te,h,_⟩=>⟨cs,sz,te,h⟩
theorem Fo {lo b:Nat} {H:Heap} {pre post:List AV} {e:TypeId} (hb:b < H.n) (hlo:lo≤b) (hblk:H.get b=.cells (pre++(Zr Pos.Y6 V0++post)) e):RegW lo H b pre post e Pos.Y6 V0 :=
 ⟨hb,hlo,hblk,⟨.nil,rfl,.inl ⟨rfl,rfl⟩⟩,⟨.inl ⟨rfl,rfl⟩,fun i a b c d h=>by cases h⟩,⟨.nil,rfl,.inl ⟨rfl,rfl⟩⟩,⟨.inl ⟨rfl,rfl⟩,fun i a b c d h=>by cases h⟩,⟨.nil,rfl,.inl ⟨rfl,rfl⟩⟩,Nat.zero_le _,Nat.zero_le _,Nat.zero_le _,Nat.zero_le _,Nat.zero_le _⟩
theorem RegW.cells {lo:Nat} {H:Heap} {b:Nat} {pre post:List AV} {e:TypeId} {r:Reg} {V:RegV} (h:RegW lo H b pre post e r V) {j:Nat} {cs:List AV} {te:TypeId} (hj:H.get j=.cells cs te) (hl:lo≤j) (hne:j ≠ b) (cs':List AV) (te':TypeId):RegW lo (H.set j (.cells cs' te')) b pre post e r V:=by
 have c:Chg lo b (fun x=>∃ c e,x=.cells c e) H (H.set j (.cells cs' te')):=(Chg.refl H).set hl (.inr (.inl ⟨_,_,hj⟩)) _;have hb:∃ cs e,H.get b=.cells cs e:=⟨_,_,h.blk⟩;have hx:∀ (a:List AV) (n:Nat) (t:TypeId) (cs:List AV),¬ (fun x=>∃ c e,x=ABlk.cells c e) (ABlk.row cs n t):=fun _ _ _ _ ⟨_,_,h⟩=>by cases h
 exact ⟨by simpa using h.bn,h.lob,by rw [Heap.get_set,if_neg (Ne.symm hne)];exact h.blk,h.aT.chg c (hx [] _ _) hb,h.aF.chg c (hx [] _ _) hb,h.aR.chg c (hx [] _ _) hb,h.aP.chg c (hx [] _ _) hb,h.aM.chg c (hx [] _ _) hb,h.lT,h.lF,h.lR,h.lP,h.lM⟩
theorem RegW.tick {lo:Nat} {H:Heap} {b:Nat} {pre post:List AV} {e:TypeId} {r:Reg} {V:RegV} (h:RegW lo H b pre post e r V) (tk:Int):sst lo H 3 (.ptr b pre.length) (.int .i64 tk)=some (H.set b (.cells (pre++(Zr { r with tick:=tk } V++post)) e))∧RegW lo (H.set b (.cells (pre++(Zr { r with tick:=tk } V++post)) e)) b pre post e { r with tick:=tk } V:=by
 refine ⟨Jo (k:=0) h.blk h.lob (by show 0 < 6;decide) (by kernel_rfl) rfl rfl, ?_⟩;have c:Chg lo b (fun _=>False) H (H.set b (.cells (pre++(Zr { r with tick:=tk } V++post)) e)):=QI H h.lob _
 have hb:∃ cs e,H.get b=.cells cs e:=⟨_,_,h.blk⟩;exact ⟨by simpa using h.bn,h.lob,by rw [Heap.get_set,if_pos rfl],h.aT.chg c (fun _=>id) hb,h.aF.chg c (fun _=>id) hb,h.aR.chg c (fun _=>id) hb,h.aP.chg c (fun _=>id) hb,h.aM.chg c (fun _=>id) hb,h.lT,h.lF,h.lR,h.lP,h.lM⟩
noncomputable def sfl (t:TypeId) (v:AV) (f:Nat):Option AV:=JO NC.P t v f
theorem Zcl {rec:Rec} {fid lo:Nat} {T:TT AV} {H:Heap} {K:AV→Heap→Prop} {d:Option Tmp} {t:TypeId} {p:String} {af:Array Edge} {gd:Option (Nat × Bool)} (t':TypeId) (x:Operand) (f:Nat):VO (aop PT rec fid lo ⟨d,.field t' x f,t,p,af,gd⟩ T H) K=AO (Z4 PT T x) fun v=>AO (sfl t' v f) fun v=>K v H:=Ez t' x f
attribute [go_sem ↓ 2000] Zcl
theorem Zcm (t:TypeId) (cs:List AV) (f:Nat):sfl t (.agg cs) f=JO NC.P t (.agg cs) f:=rfl
attribute [go_sem 100] Zcm
theorem Zcn (a b c d:AV):sfl 175 (.agg [a,b,c,d]) 3=some d:=by kernel_rfl
attribute [go_sem] Zcn
theorem en126:Q5 126:=Qj
theorem Zco (nm:Nm→Bool) {H:Heap} {v:AV} {cs:List Ev} {r:Reg} (hs:Sl H v 5 53 (cs.map Pos.Ev.row)) (hl:cs.length≤1000) (hrun:Pos.Yr Pos.Y6 (Pos.YX cs)=some r) (hc:∀ e ∈ cs,Pos.Zp nm e=0∧e.kind ≠ Pos.ZN) :
 ∃ w H',R PT (.call H.n 126 [v] H)=some (.ofVal w H') ∧ ∃ V,w=.agg (Zr r V)∧Old H.n H H'∧RegW H.n H' (H.n+1) [] [] 49 r V:=by
 refine Za (C:=PT) (f:=126) (lo:=H.n) (args:=[v]) (H:=H) (fn:=Tryz.f126) (Q:=fun w H'=>∃ V,w=.agg (Zr r V)∧Old H.n H H'∧RegW H.n H' (H.n+1) [] [] 49 r V) (by kernel_rfl) Tryz.func126 rfl rfl ?_;have hlen:=fun H'=>hs.len (t:=22) (by kernel_rfl) H'
 simp only [List.length_map] at hlen;simp (maxDischargeDepth:=12) only [go_sem,reduceEqDiff,reduceCtorEq,hlen];refine ZK (fun k T Hc M=>M=[]∧Z2 T 2=.ptr H.n 0∧Z2 T 3=.ptr (H.n+1) 0∧Z2 T 6=v∧Z2 T 7=i64 (cs.length:Nat)∧Z2 T 8=i64 k∧Old H.n H Hc∧Hc.get H.n=.cells (Zr Pos.Y6 V0) 49 ∧ ∃ r' V,Pos.Yr Pos.Y6 (Pos.YX (cs.take k))=some r'∧RegW H.n Hc (H.n+1) [] [] 49 r' V) cs.length ?_ ?_ ?_
 · simp (maxDischargeDepth:=12) only [go_sem,reduceEqDiff,reduceCtorEq];exact ⟨rfl,_,V0,rfl,Fo (by simp) (by omega) (by rw [Heap.get_push,if_pos (by simp)];rfl)⟩
 · rintro k T Hc M hk ⟨rfl,g2,g3,g6,g7,g8,hO,hz,r',V,hr',hW⟩;obtain ⟨e,he⟩:∃ e,cs[k]? = some e:=⟨cs[k],by simp⟩;obtain ⟨tk,a,hev,hok,hrn,I,S⟩:=Pos.Ma nm hrun hc he hr';obtain ⟨kind,names,vs,hp⟩:=Pos.B0 e.num tk a;have hA:=fun n=>AZ I S (num:=e.num) hok n
   rw [hp] at hev;simp only [hp] at hA;generalize e.num=num at hev hA;subst hev;have hw:=ZP hk (by unfold Z1;omega:cs.length≤Z1);have hi:=hs.idx (t:=22) (by kernel_rfl) (by kernel_rfl) (Zw (by intro x;rfl) cs) (by rw [List.length_map];exact hk) .i64;have hd:=hs.ld (by kernel_rfl) (by kernel_rfl) (Zw (by intro x;rfl) cs) (Y1 he) hO;have hHn:H.n+1 < Hc.n:=hW.bn;obtain ⟨H1,hH1⟩:∃ H1,H1=(Hc.push (.cells [.int .i64 0,.str [],.ps .nil [],.ps .nil [],.str []] 53)).set Hc.n (.cells (evC num kind names (tk::vs) []) 53):=⟨_,rfl⟩;have hn1:H1.n=Hc.n+1:=by rw [hH1];simp
   have hO1:Old Hc.n Hc H1:=by rw [hH1];exact (Old.refl Hc).new _ _
   have hg1:H1.get Hc.n=.cells (evC num kind names (tk::vs) []) 53:=by rw [hH1,Heap.get_set,if_pos rfl]
   obtain ⟨H2,hr2,hn2,hk2,hF⟩:=Ve (P:=PPT) (by rfl) (by rfl) H1.n H1 (Nat.le_refl _);have hg2:H2.get Hc.n=.cells (evC num kind names (tk::vs) []) 53:=by rw [hk2 _ (by omega),hg1]
   have hW2:=(hW.old hO1).old ⟨by omega,hk2⟩;obtain ⟨nm',fv,f1,l1,f2,l2,hlk,⟨hst1,hst2⟩,hu,happ⟩:=hA H1.n;obtain ⟨w,H3,V3,hcall,hW3,hch⟩:=happ H.n H2 (H.n+1) [] [] 49 V hF (by omega) hW2;have hlk2:=(KF hF.map (KG _) kind).2;rw [hlk] at hlk2;have hu1:=(hu _ (Nat.le_of_eq hn2.symm)).1;have hu2:=(hu _ (Nat.le_of_eq hn2.symm)).2;have hch':=hch.mono Mb;have hg3:H3.get Hc.n=.cells (evC num kind names (tk::vs) []) 53:=hch'.cells (by omega) (by omega) hg2;obtain ⟨ht1,ht2⟩:=hW3.tick tk;rw [Pos.M9] at ht1 ht2;have hz3:H3.get H.n=.cells (Zr Pos.Y6 V0) 49:=hch'.cells (by omega) (by omega) (by rw [hk2 _ (by omega),hO1.2 _ (by omega),hz]);have hei:(Z3 (tk::vs))[0]? = some [.int .i64 tk]:=rfl;have hel:(0 < (Z3 (tk::vs)).length)=True:=eq_true (by rw [Y4];exact Nat.succ_pos _);have hO3:Old H.n H H3:=(hO.trans (Old.trans ⟨by omega,fun i hi=>hO1.2 i (by omega)⟩ ⟨by omega,fun i hi=>hk2 i (by omega)⟩)).trans (hch.old (by omega));simp only [Pos.Ev.row] at hd;have hkc:=eq_true hk;have hle:=eq_true hO.1;have hn1':(Hc.n < H1.n)=True:=eq_true (by omega);have hn2':(H1.n < H2.n)=True:=eq_true (by omega);have hn3':(Hc.n < H2.n)=True:=eq_true (by omega);simp only [List.length_nil] at ht1;simp only [List.length_nil] at hcall;simp (maxDischargeDepth:=12) only [go_sem,reduceEqDiff,reduceAdd,reduceSub,g2,g3,g6,g7,g8,hkc,hle,hn2',hw,hi,hd,← hH1,Xk (P:=PPT) rfl,hr2,hg1,hlk2,hst2,hcall,hg3,hei,hel,ht1];refine ⟨hO3.set (by omega) _,hz3,_,V3,hrn, ?_⟩;simpa only [List.nil_append,List.append_nil] using ht2
 · rintro T Hc M ⟨rfl,g2,g3,g6,g7,g8,hO,hz,r',V,hr',hW⟩;rw [List.take_length,hrun] at hr';cases hr';have hblk:=hW.blk;simp only [List.nil_append,List.append_nil] at hblk;have hHn:H.n+1 < Hc.n:=hW.bn;have oT:=hW.aT.one1;have oF:=hW.aF.one1;have oR:=hW.aR.one1;have oP:=hW.aP.one1;have oM:=hW.aM.one1;have hne:(H.n+1=H.n)=False:=eq_false (by omega);obtain ⟨L,hL⟩:∃ L,L=sld Hc 49 (.ptr (H.n+1) 0):=⟨_,rfl⟩;have hld:sld Hc 49 (.ptr (H.n+1) 0)=some (.agg (Zr r V)):=by
    simp (maxDischargeDepth:=12) only [go_sem,reduceAdd,hblk,Zr]
   have hst:sst H.n Hc 49 (.ptr H.n 0) (.agg (Zr r V))=some (Hc.set H.n (.cells (Zr r V) 49)):=by
    unfold AV.one at oT oF oR oP oM;simp (maxDischargeDepth:=12) only [go_sem,reduceAdd,hz,Zr,V0,oT,oF,oR,oP,oM]
   have hld2:Yk NC.P (Hc.set H.n (.cells (Zr r V) 49)) 49 (.ptr H.n 0)=some (.agg (Zr r V)):=by
    simp (maxDischargeDepth:=12) only [go_sem,reduceAdd,Zr]
   have hlt:(cs.length < cs.length)=False:=eq_false (Nat.lt_irrefl _);have hlt':((cs.length:Int) < (cs.length:Int))=False:=eq_false (Int.lt_irrefl _);have h6:(6≤(Zr r V).length)=True:=eq_true (Nat.le_refl 6);have ht6:List.take 6 (Zr r V)=Zr r V:=rfl;simp (maxDischargeDepth:=12) only [go_sem,reduceEqDiff,reduceCtorEq,g2,g3,g7,g8,hlt',hld,hst,h6,ht6];exact ⟨V,rfl,hO.set (Nat.le_refl _) _,hW.cells hz (Nat.le_refl _) (by omega) _ _⟩
end Go.Sim

namespace Go.Sim
open Go Go.Proofs
open Go.Sim.Pos (Nm Trk Flt Trn Pos Mch Reg Ev Len ZW Yd Y8 Ye Jh)
set_option maxRecDepth 100000
set_option maxHeartbeats 8000000
variable {te:TypeId}
theorem Mc {lo sz:Nat} {te:TypeId} {H:Heap} {v:AV} {rows:List (List AV)} (r:List AV) (h:SW lo H v sz te rows) (hlo:lo≤H.n) (hL:Len sz rows) (hr:r.length=sz) (ho:r.all AV.one=true) (hs:0 < sz) (hm:rows.length+1≤Z1) :
 ∃ v' H',XW lo H sz te v [r]=some (v',H')∧SW lo H' v' sz te (rows++[r])∧Chg lo H.n (Xt sz te) H H'∧(∀ i,i < H.n→(∀ a b c d,v ≠ .rs i a b c d)→H'.get i=H.get i)∧(∀ i a b c d,v'=.rs i a b c d→i=H.n ∨ ∃ a b c d,v=.rs i a b c d):=by
 have hf:=ZW hL;obtain ⟨h,hid⟩:=h;rcases h with ⟨rfl,rfl⟩ | ⟨id,cs,m,rfl,h2,h3,h4⟩
 · refine ⟨.rs H.n 0 1 sz none,H.push (.row r sz te), ?_,⟨.inr ⟨H.n,[],0,rfl,by simp,by rw [Heap.get_push,if_pos rfl];simp,by simp⟩,fun i a b c d he=>by cases he;exact hlo⟩,(Chg.refl H).push _,fun i hi _=>by rw [Heap.get_push,if_neg (by omega)],fun i a b c d he=>by cases he;exact .inl rfl⟩;unfold XW;simp only [Tok.full,List.length_nil,Nat.zero_add,List.length_cons,List.all_cons,ho,List.all_nil,hs,decide_true,Bool.and_true,Bool.true_and];rw [if_pos (by simpa using hm)];simp
 · have hil:=hid _ _ _ _ _ rfl;by_cases hc:m=0
   · subst hc;have hcs:cs=[]:=List.length_eq_zero_iff.1 (by omega);subst hcs;rw [List.append_nil] at h3;refine ⟨.rs H.n 0 (rows.length+1) sz none,(H.set id .dead).push (.row (rows++[r]).flatten sz te), ?_,⟨.inr ⟨H.n,[],0,by simp,by simp,by rw [Heap.get_push,if_pos (by simp)];simp,by simp⟩,fun i a b c d he=>by cases he;exact hlo⟩,((Chg.refl H).set hil (.inr (.inl ⟨_,h3⟩)) _).push _,fun i hi hne=>by rw [Heap.get_push,if_neg (by simp;omega),Heap.get_set,if_neg (fun he=>hne _ _ _ _ (by rw [he]))],fun i a b c d he=>by cases he;exact .inl rfl⟩;unfold XW;simp only [List.length_cons,List.length_nil,Nat.zero_add,List.all_cons,ho,List.all_nil,hs,hil,decide_true,Bool.and_true,Option.isNone_none,h3,hf,if_true];rw [if_pos (by simpa using hm)];simp
   · have hm1:sz≤cs.length:=by
      rw [h4]
      calc sz=1 * sz:=(Nat.one_mul _).symm
       _≤m * sz:=Nat.mul_le_mul_right _ (by omega)
     have hov:=Pos.Ih (A:=rows.flatten) (B:=cs) (r:=r);rw [hf] at hov;refine ⟨.rs id 0 (rows.length+1) sz none,H.set id (.row ((rows++[r]).flatten++cs.drop sz) sz te), ?_,⟨.inr ⟨id,cs.drop sz,m - 1,by simp,by simpa using h2,by rw [Heap.get_set,if_pos rfl],by rw [List.length_drop,h4,Nat.sub_mul];omega⟩,fun i a b c d he=>by cases he;exact hil⟩,(Chg.refl H).set hil (.inr (.inl ⟨_,h3⟩)) _,fun i hi hne=>by rw [Heap.get_set,if_neg (fun he=>hne _ _ _ _ (by rw [he]))],fun i a b c d he=>by cases he;exact .inr ⟨_,_,_,_,rfl⟩⟩;unfold XW;simp only [List.length_cons,List.length_nil,Nat.zero_add,List.all_cons,ho,List.all_nil,hs,hil,decide_true,Bool.and_true,Option.isNone_none,h3,if_true];rw [if_pos (by simpa using hm)];have c1':¬ (rows.length * sz=(rows.flatten++cs).length):=by rw [List.length_append,hf];omega
     have c2':(rows.length+1) * sz≤(rows.flatten++cs).length:=by rw [List.length_append,hf,Nat.succ_mul];omega
     simp only [c1',c2',decide_true,decide_false,Bool.and_false,Bool.and_true,Bool.false_eq_true,if_false,if_true];have:[r].flatten=r:=by simp
     rw [this,hov,hr];simp
structure HisW (te:TypeId) (lo:Nat) (H:Heap) (hb:Nat) (es cs:List Ev) (r:Reg) (V:RegV) (vE vC:AV):Prop where
 reg:RegW lo H hb [vE,vC] [] te r V
 aE:SW lo H vE 5 53 (es.map Pos.Ev.row)
 aC:SW lo H vC 5 53 (cs.map Pos.Ev.row)
 dis:∀ i j a b c d a' b' c' d',vE=.rs i a b c d→vC=.rs j a' b' c' d'→i ≠ j
 lE:es.length≤1000
 lCE:cs.length≤es.length
section
variable {lo lo':Nat} {H H':Heap} {b b' hb:Nat} {pre pre' post post':List AV} {e e':TypeId} {r:Reg} {V:RegV} {es cs:List Ev} {vE vC:AV}
theorem HisW.is (h:HisW te lo H hb es cs r V vE vC):HisIs te H hb es cs r V vE vC:=⟨h.reg.blk,h.reg.is,h.aE.1,h.aC.1,h.dis,h.lE,Nat.le_trans h.lCE h.lE⟩
theorem HisW.old (h:HisW te lo H hb es cs r V vE vC) (ho:Old H.n H H'):HisW te lo H' hb es cs r V vE vC:=⟨h.reg.old ho,h.aE.old ho,h.aC.old ho,h.dis,h.lE,h.lCE⟩
theorem PW.mono {sz:Nat} {te:TypeId} {v:AV} {rows:List (List AV)} (h:PW lo' H v sz te rows) (hl:lo≤lo'):PW lo H v sz te rows:=by
 obtain ⟨t,h1,h2 | ⟨j,h2,h3,h4,h5⟩⟩:=h
 · exact ⟨t,h1,.inl h2⟩
 · exact ⟨t,h1,.inr ⟨j,h2,h3,Nat.le_trans hl h4,h5⟩⟩
theorem SW.mono {sz:Nat} {te:TypeId} {v:AV} {rows:List (List AV)} (h:SW lo' H v sz te rows) (hl:lo≤lo'):SW lo H v sz te rows:=⟨h.1,fun i a b c d he=>Nat.le_trans hl (h.2 i a b c d he)⟩
theorem RegW.fore (h:RegW lo H b pre post e r V):RegW lo (H.set b (.cells (pre'++(Zr r V++post)) e)) b pre' post e r V:=by
 have c:Chg lo b (fun _=>False) H (H.set b (.cells (pre'++(Zr r V++post)) e)):=QI H h.lob _;have hb:∃ cs e,H.get b=.cells cs e:=⟨_,_,h.blk⟩;exact ⟨by simpa using h.bn,h.lob,by rw [Heap.get_set,if_pos rfl],h.aT.chg c (fun _=>id) hb,h.aF.chg c (fun _=>id) hb,h.aR.chg c (fun _=>id) hb,h.aP.chg c (fun _=>id) hb,h.aM.chg c (fun _=>id) hb,h.lT,h.lF,h.lR,h.lP,h.lM⟩
theorem RegW.chgE (h:RegW lo H b pre post e r V) (c0:Chg lo H.n (Xt 5 53) H H') (hbb:H'.get b=H.get b):RegW lo H' b pre post e r V:=by
 have c:Chg lo b (Xt 5 53) H H':=Gf c0;have hb:∃ cs e,H.get b=.cells cs e:=⟨_,_,h.blk⟩;exact ⟨Nat.lt_of_lt_of_le h.bn c.n,h.lob,hbb.trans h.blk,h.aT.chg c (fun cs ⟨_,hx⟩=>by cases hx) hb,h.aF.chg c (fun cs ⟨_,hx⟩=>by cases hx) hb,h.aR.chg c (fun cs ⟨_,hx⟩=>by cases hx) hb,h.aP.chg c (fun cs ⟨_,hx⟩=>by cases hx) hb,h.aM.chg c (fun cs ⟨_,hx⟩=>by cases hx) hb,h.lT,h.lF,h.lR,h.lP,h.lM⟩
theorem RegW.move (h:RegW lo' H b' pre' post' e' r V) (hl:lo≤lo') (hb:b < H.n) (hlb:lo≤b) {cs:List AV} {te:TypeId} (hg:H.get b=.cells cs te):RegW lo (H.set b (.cells (pre++(Zr r V++post)) e)) b pre post e r V:=by
 have c:Chg lo b (fun _=>False) H (H.set b (.cells (pre++(Zr r V++post)) e)):=QI H hlb _;have hb':∃ cs e,H.get b=.cells cs e:=⟨_,_,hg⟩;exact ⟨by simpa using hb,hlb,by rw [Heap.get_set,if_pos rfl],(h.aT.mono hl).chg c (fun _=>id) hb',(h.aF.mono hl).chg c (fun _=>id) hb',(h.aR.mono hl).chg c (fun _=>id) hb',(h.aP.mono hl).chg c (fun _=>id) hb',(h.aM.mono hl).chg c (fun _=>id) hb',h.lT,h.lF,h.lR,h.lP,h.lM⟩
theorem SW.keep {sz:Nat} {te:TypeId} {v:AV} {rows:List (List AV)} (h:SW lo H v sz te rows) (hn:H.n≤H'.n) (hg:∀ i a b c d,v=.rs i a b c d→i < H.n→H'.get i=H.get i):SW lo H' v sz te rows :=
 ⟨h.1.keep hn fun i hi hv=>hg _ _ _ _ _ hv hi,h.2⟩
theorem SW.row {sz:Nat} {te:TypeId} {v:AV} {rows:List (List AV)} (h:SW lo H v sz te rows) {i a b c:Nat} {d:Option Nat} (hv:v=.rs i a b c d):i < H.n ∧ ∃ cs,H.get i=.row cs sz te:=by
 obtain ⟨⟨_,h2⟩ | ⟨id,cs,m,h2,h3,h4,_⟩,_⟩:=h
 · rw [hv] at h2;cases h2
 · rw [hv] at h2;cases h2;exact ⟨h3,_,h4⟩
end
theorem Md:YS 106:=YY
theorem Me {lo:Nat} {H:Heap} {hb:Nat} {es cs:List Ev} {r:Reg} {V:RegV} {vE vC:AV} (h:HisW te lo H hb es cs r V vE vC) (e:Ev) (hl:es.length+1≤1000) :
 ∃ v1 H1 H2,XW lo H 5 53 vE [e.row]=some (v1,H1)∧H1.get hb=H.get hb∧sst lo H1 22 (.ptr hb 0) v1=some H2∧HisW te lo H2 hb (es++[e]) cs r V v1 vC∧Chg lo hb XC H H2∧H1.n≤H2.n∧(∀ i,i < H.n→(∀ a b c d,vE ≠ .rs i a b c d)→H1.get i=H.get i)∧H.n≤H1.n:=by
 obtain ⟨v1,H1,ha,hv,hc,ho,hi⟩:=Mc e.row h.aE (Nat.le_of_lt (Nat.lt_of_le_of_lt h.reg.lob h.reg.bn)) (Zw (by intro x;rfl) _) rfl rfl (by decide) (by rw [List.length_map];unfold Z1;omega);have hbb:H1.get hb=H.get hb:=Fn hc h.reg.bn (fun ⟨_,hx⟩=>by rw [h.reg.blk] at hx;cases hx);have hst:=Jo (lo:=lo) (k:=0) (pre:=[]) (cs:=[vE,vC]) (post:=Zr r V++[]) (t:=22) (v:=v1) (hbb.trans h.reg.blk) h.reg.lob (by show 0 < 2;decide) (by kernel_rfl) hv.cells1 hv.one1;have hr1:=h.reg.chgE hc hbb;have hr2:=hr1.fore (pre':=[v1,vC]);have hC1:SW lo H1 vC 5 53 (cs.map Pos.Ev.row):=h.aC.keep hc.n fun i a b c d hv' hi'=>ho i hi' fun a b c d he=>h.dis _ _ _ _ _ _ _ _ _ _ he hv' rfl
 have hcell:∃ cs e,H1.get hb=.cells cs e:=⟨_,_,hbb.trans h.reg.blk⟩;have hcb:Chg lo hb (fun _=>False) H1 (H1.set hb (.cells ([v1,vC]++(Zr r V++[])) te)):=QI H1 h.reg.lob _;refine ⟨v1,H1,_,ha,hbb,hst,⟨hr2, ?_, ?_, ?_,by simpa using hl,by have:=h.lCE;simp;omega⟩, ?_,by simp,ho,hc.n⟩
 · rw [List.map_append];exact hv.chg hcb (fun _=>id) hcell
 · exact hC1.chg hcb (fun _=>id) hcell
 · intro i j a b c d a' b' c' d' h1 h2 hij;subst hij;rcases hi _ _ _ _ _ h1 with h3 | ⟨_,_,_,_,h3⟩
   · have:=(h.aC.row h2).1;omega
   · exact h.dis _ _ _ _ _ _ _ _ _ _ h3 h2 rfl
 · exact ((Gf hc).mono fun x ⟨cs,hx⟩=>⟨cs,_,_,hx⟩).set h.reg.lob (.inl rfl) _
theorem Zcp {lo:Nat} {H:Heap} {hb:Nat} {es cs:List Ev} {r:Reg} {V:RegV} {vE vC:AV} (h:HisW te lo H hb es cs r V vE vC) (e:Ev) (hl:cs.length+1≤es.length) :
 ∃ v1 H1 H2,XW lo H 5 53 vC [e.row]=some (v1,H1)∧H1.get hb=H.get hb∧sst lo H1 22 (.ptr hb 1) v1=some H2∧HisW te lo H2 hb es (cs++[e]) r V vE v1∧Chg lo hb XC H H2∧H1.n≤H2.n∧H.n≤H1.n:=by
 obtain ⟨v1,H1,ha,hv,hc,ho,hi⟩:=Mc e.row h.aC (Nat.le_of_lt (Nat.lt_of_le_of_lt h.reg.lob h.reg.bn)) (Zw (by intro x;rfl) _) rfl rfl (by decide) (by have:=h.lE;rw [List.length_map];unfold Z1;omega);have hbb:H1.get hb=H.get hb:=Fn hc h.reg.bn (fun ⟨_,hx⟩=>by rw [h.reg.blk] at hx;cases hx);have hst:=Jo (lo:=lo) (k:=1) (pre:=[]) (cs:=[vE,vC]) (post:=Zr r V++[]) (t:=22) (v:=v1) (hbb.trans h.reg.blk) h.reg.lob (by show 1 < 2;decide) (by kernel_rfl) hv.cells1 hv.one1;have hr1:=h.reg.chgE hc hbb;have hr2:=hr1.fore (pre':=[vE,v1]);have hE1:SW lo H1 vE 5 53 (es.map Pos.Ev.row):=h.aE.keep hc.n fun i a b c d hv' hi'=>ho i hi' fun a b c d he=>h.dis _ _ _ _ _ _ _ _ _ _ hv' he rfl
 have hcell:∃ cs e,H1.get hb=.cells cs e:=⟨_,_,hbb.trans h.reg.blk⟩;have hcb:Chg lo hb (fun _=>False) H1 (H1.set hb (.cells ([vE,v1]++(Zr r V++[])) te)):=QI H1 h.reg.lob _;refine ⟨v1,H1,_,ha,hbb,hst,⟨hr2, ?_, ?_, ?_,h.lE,by simpa using hl⟩, ?_,by simp,hc.n⟩
 · exact hE1.chg hcb (fun _=>id) hcell
 · rw [List.map_append];exact hv.chg hcb (fun _=>id) hcell
 · intro i j a b c d a' b' c' d' h1 h2 hij;subst hij;rcases hi _ _ _ _ _ h2 with h3 | ⟨_,_,_,_,h3⟩
   · have:=(h.aE.row h1).1;omega
   · exact h.dis _ _ _ _ _ _ _ _ _ _ h1 h3 rfl
 · exact ((Gf hc).mono fun x ⟨cs,hx⟩=>⟨cs,_,_,hx⟩).set h.reg.lob (.inl rfl) _
end Go.Sim

namespace Go.Sim
open Go Go.Proofs
open Go.Sim.Pos (Nm Trk Flt Trn Pos Mch Reg Ev Len ZW Yd Y8 Ye Jh)
set_option maxRecDepth 100000
set_option maxHeartbeats 8000000
variable {te:TypeId}
theorem B1 {lo sz:Nat} {te:TypeId} {H:Heap} {v:AV} {rows:List (List AV)} (h:SW lo H v sz te rows) {b:Nat} {cs:List AV} {e:TypeId} (hb:H.get b=.cells cs e):JC (some v)=none ∨ ∃ j,JC (some v)=some (.wr j)∧j < H.n∧j ≠ b:=by
 obtain ⟨⟨_,rfl⟩ | ⟨id,cs',m,rfl,h2,h3,_⟩,_⟩:=h
 · exact .inl rfl
 · exact .inr ⟨id,rfl,h2,fun he=>by rw [he,hb] at h3;cases h3⟩
theorem Zcq {lo:Nat} {H:Heap} {hb:Nat} {es cs:List Ev} {r:Reg} {V:RegV} {vE vC:AV} (h:HisW te lo H hb es cs r V vE vC) {num tk:Int} {kind:Nm} {names:List Nm} {vs:List Int} {a:Pos.Act} (hk:kind ≠ Pos.ZN) (hA:∀ n,Xu r a num kind names (tk::vs) [] n) (hn:names.length≤Z1∧(tk::vs).length≤Z1) (hle:es.length+1≤1000) :
 ∃ w H',R PT (.call lo 106 [.ptr hb 0,.agg (evC num kind names (tk::vs) [])] H)=some (.ofVal w H') ∧ ∃ vE' vC' V',HisW te lo H' hb (es++[⟨num,kind,names,tk::vs,[]⟩]) (cs++[⟨num,kind,names,tk::vs,[]⟩]) (Pos.doA r tk a) V' vE' vC'∧Chg lo hb XC H H':=by
 refine Za (C:=PT) (f:=106) (lo:=lo) (args:=[.ptr hb 0,.agg (evC num kind names (tk::vs) [])]) (H:=H) (fn:=Tryz.f106) (Q:=fun _ H'=>∃ vE' vC' V',HisW te lo H' hb (es++[⟨num,kind,names,tk::vs,[]⟩]) (cs++[⟨num,kind,names,tk::vs,[]⟩]) (Pos.doA r tk a) V' vE' vC'∧Chg lo hb XC H H') (by kernel_rfl) Tryz.func106 rfl rfl ?_
 have hlo:lo≤H.n:=Nat.le_of_lt (Nat.lt_of_le_of_lt h.reg.lob h.reg.bn)
 have hlo':=eq_true hlo
 have hbn:=eq_true h.reg.bn
 have hku:Z6 kind [117,110,100,111]=false:=by rw [Yu];exact decide_eq_false hk
 obtain ⟨H0,hH0⟩:∃ H0,H0=(H.push (.cells (evC num kind names (tk::vs) []) 53)).set H.n (.cells (evC num kind names (tk::vs) []) 53):=⟨_,rfl⟩
 have hst0:sst lo (H.push (.cells (evC num kind names (tk::vs) []) 53)) 53 (.ptr H.n 0) (.agg (evC num kind names (tk::vs) []))=some H0:=by
  simp (maxDischargeDepth:=12) only [go_sem,reduceAdd,hlo',hH0]
 have hn0:H0.n=H.n+1:=by rw [hH0];simp
 have hO0:Old H.n H H0:=by rw [hH0];exact (Old.refl H).new _ _
 have hc0:Chg lo hb XC H H0:=⟨by omega,fun i hi=>.inl (hO0.2 i hi)⟩
 have hp0:H0.get H.n=.cells (evC num kind names (tk::vs) []) 53:=by rw [hH0,Heap.get_set,if_pos rfl]
 have h0:=h.old hO0
 obtain ⟨v1,H1,H2,ha1,hb1,hst1,h2,hc2,hn12,ho1,hn01⟩:=Me h0 ⟨num,kind,names,tk::vs,[]⟩ hle
 obtain ⟨v2,H3,H4,ha2,hb2,hst2,h4,hc4,hn34,hn23⟩:=Zcp h2 ⟨num,kind,names,tk::vs,[]⟩ (by have:=h.lCE;simp;omega)
 simp only [Pos.Ev.row] at ha1 ha2
 have hp2:H2.get H.n=.cells (evC num kind names (tk::vs) []) 53:=hc2.cells (by omega) (by have:=h.reg.bn;omega) hp0
 have hn2:=hc2.n
 have hn4:=hc4.n
 have hp4:H4.get H.n=.cells (evC num kind names (tk::vs) []) 53:=hc4.cells (by omega) (by have:=h.reg.bn;omega) hp2
 have hg0:=h0.reg.blk
 have hg2:=h2.reg.blk
 simp only [Zr,List.append_nil,List.cons_append,List.nil_append] at hg0 hg2
 have hg1:=hb1.trans hg0
 have hg3:=hb2.trans hg2
 obtain ⟨H5,hr5,hn5,hk5,hF⟩:=Ve (P:=PPT) (by rfl) (by rfl) H4.n H4 (Nat.le_refl _)
 have hp5:H5.get H.n=.cells (evC num kind names (tk::vs) []) 53:=by rw [hk5 _ (by omega),hp4]
 have hO5:Old H4.n H4 H5:=⟨by omega,hk5⟩
 obtain ⟨nm',fv,f1,l1,f2,l2,hlk,⟨hs1,hs2⟩,hu,happ⟩:=hA H4.n
 have h5:=h4.old hO5
 obtain ⟨w,H6,V',hcall,hW6,hc6⟩:=happ lo H5 hb [v1,v2] [] te V hF (by omega) h5.reg
 have hlk2:=(KF hF.map (KG _) kind).2
 rw [hlk] at hlk2
 have hu1:=(hu _ (Nat.le_of_eq hn5.symm)).1
 have hu2:=(hu _ (Nat.le_of_eq hn5.symm)).2
 have hc6':=hc6.mono Mb
 have hp6:H6.get H.n=.cells (evC num kind names (tk::vs) []) 53:=hc6'.cells (by omega) (by have:=h.reg.bn;omega) hp5
 obtain ⟨ht1,ht2⟩:=hW6.tick tk
 rw [Pos.M9] at ht1 ht2
 have hei:(Z3 (tk::vs))[0]? = some [.int .i64 tk]:=rfl
 have hel:(0 < (Z3 (tk::vs)).length)=True:=eq_true (by rw [Y4];exact Nat.succ_pos _)
 have hown:=UX ⟨num,kind,names,tk::vs,[]⟩ hn
 simp only [Pos.Ev.row] at hown
 simp only [List.length_cons,List.length_nil,Nat.zero_add,reduceAdd] at ht1 hcall
 try simp only [List.length_nil,Nat.zero_add,Nat.add_zero] at hst1 hst2
 have q1:(H.n < H0.n)=True:=eq_true (by omega)
 have q2:(H.n < H1.n)=True:=eq_true (by omega)
 have q3:(H.n < H2.n)=True:=eq_true (by omega)
 have q4:(H.n < H4.n)=True:=eq_true (by omega)
 have q5:(H4.n < H5.n)=True:=eq_true (by omega)
 have q6:(H.n < H5.n)=True:=eq_true (by omega)
 have q7:(hb < H0.n)=True:=eq_true (by have:=h.reg.bn;omega)
 have q8:(hb < H2.n)=True:=eq_true (by have:=h.reg.bn;omega)
 have q9:(hb < H5.n)=True:=eq_true (by have:=h.reg.bn;omega)
 have q10:(hb=H.n)=False:=eq_false (by have:=h.reg.bn;omega)
 have q11:(H.n=hb)=False:=eq_false (by have:=h.reg.bn;omega)
 have hfin:HisW te lo (H6.set hb (.cells ([v1,v2]++(Zr (Pos.doA r tk a) V'++[])) te)) hb (es++[⟨num,kind,names,tk::vs,[]⟩]) (cs++[⟨num,kind,names,tk::vs,[]⟩]) (Pos.doA r tk a) V' v1 v2:=by
  have hcb:Chg lo hb (fun _=>False) H6 (H6.set hb (.cells ([v1,v2]++(Zr (Pos.doA r tk a) V'++[])) te)):=QI H6 h.reg.lob _
  have hx:∀ cs,¬ Yg (.row cs 5 53):=fun cs ⟨_,_,_,h1,h2⟩=>by cases h1;exact h2 rfl
  exact ⟨ht2,(h5.aE.chg hc6 hx ⟨_,_,h5.reg.blk⟩).chg hcb (fun _=>id) ⟨_,_,hW6.blk⟩,(h5.aC.chg hc6 hx ⟨_,_,h5.reg.blk⟩).chg hcb (fun _=>id) ⟨_,_,hW6.blk⟩,h5.dis,h5.lE,h5.lCE⟩
 have hchg:Chg lo hb XC H (H6.set hb (.cells ([v1,v2]++(Zr (Pos.doA r tk a) V'++[])) te)):=((((hc0.to hc2).to hc4).to ⟨by omega,fun i hi=>.inl (hk5 i hi)⟩).to hc6').set h.reg.lob (.inl rfl) _
 rcases B1 h0.aE hg0 with aE | ⟨jE,aE,jE1,jE2⟩<;>rcases B1 h2.aC hg2 with aC | ⟨jC,aC,jC1,jC2⟩
 · skip
   simp (maxDischargeDepth:=12) only [go_sem,reduceEqDiff,reduceAdd,reduceMul,reduceSub,reduceLeDiff,reduceCtorEq,ZT,hst0,hst1,hst2,ha1,ha2,hp0,hp2,hp4,hp6,hg0,hg2,hlk2,hs2,hcall,ht1,hei,hel,hown,hku,Xk (P:=PPT) rfl,hr5,q5,aE,aC]
   exact ⟨v1,v2,V',hfin,hchg⟩
 · skip
   have f1:(jC=hb)=False:=eq_false jC2
   have f2:(hb=jC)=False:=eq_false (Ne.symm jC2)
   have f3:(jC=H.n)=False:=eq_false (fun he=>by
    rcases h2.aC.1 with ⟨_,hv⟩ | ⟨id,cs,m,hv,_,hg,_⟩
    · rw [hv] at aC;cases aC
    · rw [hv] at aC
      cases aC
      rw [he,hp2] at hg;cases hg)
   have f4:(H.n=jC)=False:=eq_false (fun he=>by rw [he] at f3;simp at f3)
   simp (maxDischargeDepth:=12) only [go_sem,reduceEqDiff,reduceAdd,reduceMul,reduceSub,reduceLeDiff,reduceCtorEq,ZT,hst0,hst1,hst2,ha1,ha2,hp0,hp2,hp4,hp6,hg0,hg2,hlk2,hs2,hcall,ht1,hei,hel,hown,hku,Xk (P:=PPT) rfl,hr5,q5,aE,aC]
   exact ⟨v1,v2,V',hfin,hchg⟩
 · skip
   have e1:(jE=hb)=False:=eq_false jE2
   have e2:(hb=jE)=False:=eq_false (Ne.symm jE2)
   have e3:(jE=H.n)=False:=eq_false (fun he=>by
    rcases h0.aE.1 with ⟨_,hv⟩ | ⟨id,cs,m,hv,_,hg,_⟩
    · rw [hv] at aE;cases aE
    · rw [hv] at aE
      cases aE
      rw [he,hp0] at hg;cases hg)
   have e4:(H.n=jE)=False:=eq_false (fun he=>by rw [he] at e3;simp at e3)
   simp (maxDischargeDepth:=12) only [go_sem,reduceEqDiff,reduceAdd,reduceMul,reduceSub,reduceLeDiff,reduceCtorEq,ZT,hst0,hst1,hst2,ha1,ha2,hp0,hp2,hp4,hp6,hg0,hg2,hlk2,hs2,hcall,ht1,hei,hel,hown,hku,Xk (P:=PPT) rfl,hr5,q5,aE,aC]
   exact ⟨v1,v2,V',hfin,hchg⟩
 · skip
   have e1:(jE=hb)=False:=eq_false jE2
   have e2:(hb=jE)=False:=eq_false (Ne.symm jE2)
   have e3:(jE=H.n)=False:=eq_false (fun he=>by
    rcases h0.aE.1 with ⟨_,hv⟩ | ⟨id,cs,m,hv,_,hg,_⟩
    · rw [hv] at aE;cases aE
    · rw [hv] at aE
      cases aE
      rw [he,hp0] at hg;cases hg)
   have e4:(H.n=jE)=False:=eq_false (fun he=>by rw [he] at e3;simp at e3)
   have f1:(jC=hb)=False:=eq_false jC2
   have f2:(hb=jC)=False:=eq_false (Ne.symm jC2)
   have f3:(jC=H.n)=False:=eq_false (fun he=>by
    rcases h2.aC.1 with ⟨_,hv⟩ | ⟨id,cs,m,hv,_,hg,_⟩
    · rw [hv] at aC;cases aC
    · rw [hv] at aC
      cases aC
      rw [he,hp2] at hg;cases hg)
   have f4:(H.n=jC)=False:=eq_false (fun he=>by rw [he] at f3;simp at f3)
   simp (maxDischargeDepth:=12) only [go_sem,reduceEqDiff,reduceAdd,reduceMul,reduceSub,reduceLeDiff,reduceCtorEq,ZT,hst0,hst1,hst2,ha1,ha2,hp0,hp2,hp4,hp6,hg0,hg2,hlk2,hs2,hcall,ht1,hei,hel,hown,hku,Xk (P:=PPT) rfl,hr5,q5,aE,aC]
   exact ⟨v1,v2,V',hfin,hchg⟩
end Go.Sim

namespace Go.Sim
open Go Go.Proofs
open Go.Sim.Pos (Nm Trk Flt Trn Pos Mch Reg Ev Len ZW Yd Y8 Ye Jh)
set_option maxRecDepth 100000
set_option maxHeartbeats 8000000
variable {te:TypeId}
theorem Zcr {id n:Nat}:Ys NC.P 22 (.rs id 0 (n+1) 5 none) none (some (.int .i64 (n:Nat))) none=some (.rs id 0 n 5 none):=by
 have hu:NC.P.underlying 22=some (.slice 53):=by kernel_rfl
 have hz:Zh NC.P 53=some 5:=by kernel_rfl
 have hn:X2 (n+1+1) (.int .i64 (n:Nat))=some n:=by rw [Kp,if_pos (by omega)]
 have h0:∀ k,Yx 0 k none=some 0:=fun k=>rfl
 have hb:Yx (n+1) (n+1) (some (.int .i64 (n:Nat)))=some n:=by
  unfold Yx;simp only [hn]
 unfold Ys;simp only [hu,hz,if_true,hb,h0];simp
theorem Zcs (nm:Nm→Bool) {lo:Nat} {H:Heap} {hb:Nat} {es cs:List Ev} {r r':Reg} {V:RegV} {vE vC:AV} (h:HisW te lo H hb es cs r V vE vC) {num:Int} {l:Ev} {ds:List Ev} (hcs:cs=ds++[l]) (hrun:Pos.Yr Pos.Y6 (Pos.YX ds)=some r') (hc:∀ e ∈ ds,Pos.Zp nm e=0∧e.kind ≠ Pos.ZN) (hle:es.length+1≤1000) :
 ∃ w H',R PT (.call lo 106 [.ptr hb 0,.agg (evC num Pos.ZN [] [] [])] H)=some (.ofVal w H') ∧ ∃ vE' vC' V',HisW te lo H' hb (es++[⟨num,Pos.ZN,[],[],[]⟩]) ds r' V' vE' vC'∧Chg lo hb XC H H':=by
 refine Za (C:=PT) (f:=106) (lo:=lo) (args:=[.ptr hb 0,.agg (evC num Pos.ZN [] [] [])]) (H:=H) (fn:=Tryz.f106) (Q:=fun _ H'=>∃ vE' vC' V',HisW te lo H' hb (es++[⟨num,Pos.ZN,[],[],[]⟩]) ds r' V' vE' vC'∧Chg lo hb XC H H') (by kernel_rfl) Tryz.func106 rfl rfl ?_
 have hlo:lo≤H.n:=Nat.le_of_lt (Nat.lt_of_le_of_lt h.reg.lob h.reg.bn)
 have hlo':=eq_true hlo
 have hbn:=eq_true h.reg.bn
 have hbn0:=h.reg.bn
 have hku:Z6 Pos.ZN [117,110,100,111]=true:=by decide
 obtain ⟨H0,hH0⟩:∃ H0,H0=(H.push (.cells (evC num Pos.ZN [] [] []) 53)).set H.n (.cells (evC num Pos.ZN [] [] []) 53):=⟨_,rfl⟩
 have hst0:sst lo (H.push (.cells (evC num Pos.ZN [] [] []) 53)) 53 (.ptr H.n 0) (.agg (evC num Pos.ZN [] [] []))=some H0:=by
  simp (maxDischargeDepth:=12) only [go_sem,reduceAdd,hlo',hH0]
 have hn0:H0.n=H.n+1:=by rw [hH0];simp
 have hO0:Old H.n H H0:=by rw [hH0];exact (Old.refl H).new _ _
 have hc0:Chg lo hb XC H H0:=⟨by omega,fun i hi=>.inl (hO0.2 i hi)⟩
 have hp0:H0.get H.n=.cells (evC num Pos.ZN [] [] []) 53:=by rw [hH0,Heap.get_set,if_pos rfl]
 have h0:=h.old hO0
 obtain ⟨v1,H1,H2,ha1,hb1,hst1,h2,hc2,hn12,ho1,hn01⟩:=Me h0 ⟨num,Pos.ZN,[],[],[]⟩ hle
 simp only [Pos.Ev.row] at ha1
 have hp2:H2.get H.n=.cells (evC num Pos.ZN [] [] []) 53:=hc2.cells (by omega) (by omega) hp0
 have hn2:=hc2.n
 have hg0:=h0.reg.blk
 have hg2:=h2.reg.blk
 simp only [Zr,List.append_nil,List.cons_append,List.nil_append] at hg0 hg2
 have hg1:=hb1.trans hg0
 subst hcs
 obtain ⟨hr0,_⟩ | ⟨idC,tl,m,hvC,hid,hgi,htl⟩:=h2.aC.1
 · simp at hr0
 have hll:((ds++[l]).map Pos.Ev.row).length=ds.length+1:=by simp
 rw [hll] at hvC
 have hidl:=h2.aC.2 _ _ _ _ _ hvC
 have hlC:=h2.lCE
 have hlE:=h2.lE
 simp only [List.length_append,List.length_cons,List.length_nil] at hlC hlE
 have hw2:Zk .i64 (Int.sub ((ds.length+1:Nat):Int) 1)=(ds.length:Int):=Dq (k:=ds.length+1) (by omega) (Nat.le_refl _) (by unfold Z1;omega)
 have hsl:=Zcr (id:=idC) (n:=ds.length)
 have hst2:=Jo (lo:=lo) (k:=1) (pre:=[]) (cs:=[v1,vC]) (post:=Zr r V++[]) (t:=22) (v:=.rs idC 0 ds.length 5 none) h2.reg.blk h.reg.lob (by show 1 < 2;decide) (by kernel_rfl) rfl rfl
 have hr3:=h2.reg.fore (pre':=[v1,.rs idC 0 ds.length 5 none])
 obtain ⟨H3,hH3⟩:∃ H3,H3=H2.set hb (.cells ([v1,.rs idC 0 ds.length 5 none]++(Zr r V++[])) te):=⟨_,rfl⟩
 have hst2':sst lo H2 22 (.ptr hb 1) (.rs idC 0 ds.length 5 none)=some H3:=by rw [hH3];exact hst2
 rw [← hH3] at hr3
 have hn3:H3.n=H2.n:=by rw [hH3];simp
 have hidb:idC ≠ hb:=fun he=>by rw [he,h2.reg.blk] at hgi;cases hgi
 have hg3':H3.get idC=.row (((ds++[l]).map Pos.Ev.row).flatten++tl) 5 53:=by rw [hH3,Heap.get_set,if_neg hidb];exact hgi
 have hC3:SW lo H3 (.rs idC 0 ds.length 5 none) 5 53 (ds.map Pos.Ev.row):=⟨.inr ⟨idC,l.row++tl,m+1,by rw [List.length_map],by omega,by rw [hg3'];simp,by rw [List.length_append,htl,Nat.succ_mul];show 5+m * 5=_;omega⟩,fun i a b c d he=>by cases he;exact hidl⟩
 have hcb3:Chg lo hb (fun _=>False) H2 H3:=by rw [hH3];exact QI H2 h.reg.lob _
 have hE3:SW lo H3 v1 5 53 ((es++[(⟨num,Pos.ZN,[],[],[]⟩:Ev)]).map Pos.Ev.row):=h2.aE.chg hcb3 (fun _=>id) ⟨_,_,h2.reg.blk⟩
 obtain ⟨w,H4,hm,V',rfl,hO4,hW4⟩:=Zco nm (Q7 hC3.1) (by omega) hrun hc
 have hmade:=fun lo K=>Q6 (K:=K) (en126 (lo:=lo) rfl) hm
 have hn4:=hO4.1
 have hg4:H4.get hb=.cells ([v1,.rs idC 0 ds.length 5 none]++(Zr r V++[])) te:=by rw [hO4.2 _ (by omega)];exact hr3.blk
 have hr5:=hW4.move (lo:=lo) (b:=hb) (pre:=[v1,.rs idC 0 ds.length 5 none]) (post:=[]) (e:=te) (by omega) (by omega) h.reg.lob hg4
 have hg4':=hg4
 simp only [Zr,List.append_nil,List.cons_append,List.nil_append] at hg4'
 obtain ⟨H5,hH5⟩:∃ H5,H5=H4.set hb (.cells ([v1,.rs idC 0 ds.length 5 none]++(Zr r' V'++[])) te):=⟨_,rfl⟩
 rw [← hH5] at hr5
 have hlob:=eq_true h.reg.lob
 have oT:=hW4.aT.one1
 have oF:=hW4.aF.one1
 have oR:=hW4.aR.one1
 have oP:=hW4.aP.one1
 have oM:=hW4.aM.one1
 have hst4:sst lo H4 49 (.ptr hb 2) (.agg (Zr r' V'))=some H5:=by
  unfold AV.one at oT oF oR oP oM
  rw [hH5]
  simp (maxDischargeDepth:=12) only [go_sem,reduceAdd,hg4',Zr,oT,oF,oR,oP,oM,hlob]
 have hcb5:Chg lo hb (fun _=>False) H4 H5:=by rw [hH5];exact QI H4 h.reg.lob _
 have hfin:HisW te lo H5 hb (es++[⟨num,Pos.ZN,[],[],[]⟩]) ds r' V' v1 (.rs idC 0 ds.length 5 none):=by
  refine ⟨hr5,(hE3.old hO4).chg hcb5 (fun _=>id) ⟨_,_,hg4⟩,(hC3.old hO4).chg hcb5 (fun _=>id) ⟨_,_,hg4⟩, ?_,h2.lE,by simp;omega⟩
  intro i j a b c d a' b' c' d' e1 e2
  cases e2
  exact h2.dis _ _ _ _ _ _ _ _ _ _ e1 hvC
 have hchg:Chg lo hb XC H H5:=(((hc0.to hc2).to (hcb3.mono fun _ hx=>hx.elim)).to ⟨hn4,fun i hi=>.inl (hO4.2 i hi)⟩).to (hcb5.mono fun _ hx=>hx.elim)
 have hown:=UX ⟨num,Pos.ZN,[],[],[]⟩ ⟨Nat.zero_le _,Nat.zero_le _⟩
 simp only [Pos.Ev.row] at hown
 have q1:(H.n < H0.n)=True:=eq_true (by omega)
 have q2:(H.n < H2.n)=True:=eq_true (by omega)
 have q7:(hb < H0.n)=True:=eq_true (by omega)
 have q8:(hb < H2.n)=True:=eq_true (by omega)
 have q9:(idC < H2.n)=True:=eq_true hid
 have q10:(hb=H.n)=False:=eq_false (by omega)
 have q11:(H.n=hb)=False:=eq_false (by omega)
 have hun:(AV.rs idC 0 (ds.length+1) 5 none).under H2.n=true:=Nat.ble_eq.symm ▸ (show idC < H2.n from hid)
 have hg2n:=hg2
 rw [hvC] at hg2n
 have hg3n:=hr3.blk
 simp only [Zr,List.append_nil,List.cons_append,List.nil_append] at hg3n
 try simp only [List.length_nil,Nat.zero_add,Nat.add_zero] at hst1
 rcases B1 h0.aE hg0 with aE | ⟨jE,aE,jE1,jE2⟩
 · simp (maxDischargeDepth:=12) only [go_sem,reduceEqDiff,reduceAdd,reduceMul,reduceSub,reduceLeDiff,reduceCtorEq,ZT,hst0,hst1,hst2',hst4,ha1,hp0,hp2,hg0,hg2n,hg3n,hown,hku,hw2,hsl,hmade,aE]
   exact ⟨v1,_,V',hfin,hchg⟩
 · have e1:(jE=hb)=False:=eq_false jE2
   have e2:(hb=jE)=False:=eq_false (Ne.symm jE2)
   have e3:(jE=H.n)=False:=eq_false (fun he=>by
    rcases h0.aE.1 with ⟨_,hv⟩ | ⟨id,cs,m,hv,_,hg,_⟩
    · rw [hv] at aE;cases aE
    · rw [hv] at aE
      cases aE
      rw [he,hp0] at hg;cases hg)
   have e4:(H.n=jE)=False:=eq_false (fun he=>by rw [he] at e3;simp at e3)
   simp (maxDischargeDepth:=12) only [go_sem,reduceEqDiff,reduceAdd,reduceMul,reduceSub,reduceLeDiff,reduceCtorEq,ZT,hst0,hst1,hst2',hst4,ha1,hp0,hp2,hg0,hg2n,hg3n,hown,hku,hw2,hsl,hmade,aE]
   exact ⟨v1,_,V',hfin,hchg⟩
theorem Zct {k:Nm} {a b:Nat} (h:Pos.YO k=some (a,b)):a≤4∧b≤4:=by
 have go:∀ {p:Prop} [Decidable p] {x:Nat × Nat} {v:Option (Nat × Nat)},(if p then some x else v)=some (a,b)→x=(a,b)∨v=some (a,b):=fun {p} _ {x v} h=>by
  split at h
  · exact .inl (Option.some.inj h)
  · exact .inr h
 unfold Pos.YO at h
 iterate 18
  rcases go h with h1 | h
  · cases h1;decide
 cases h
theorem Mf (nm:Nm→Bool) {lo:Nat} {H:Heap} {hb:Nat} {es cs:List Ev} {r:Reg} {V:RegV} {vE vC:AV} (h:HisW te lo H hb es cs r V vE vC) (J:Pos.JOk nm ⟨cs,r⟩) {e:Ev} (hw:Pos.Xi nm ⟨cs,r⟩ es.length e=0) (hle:es.length+1≤1000) :
 ∃ w H',R PT (.call lo 106 [.ptr hb 0,.agg e.row] H)=some (.ofVal w H') ∧ ∃ vE' vC' V',HisW te lo H' hb (es++[e]) (Pos.Q2 ⟨cs,r⟩ e).cs (Pos.Q2 ⟨cs,r⟩ e).reg V' vE' vC'∧Chg lo hb XC H H':=by
 have J':=Pos.F0 nm J hw;have h1:Pos.Zp nm e=0:=by
  unfold Pos.Xi at hw;split at hw
  · rename_i h;exact absurd hw h
  · rename_i h;simpa using h
 have hacc:Pos.Q1 ⟨cs,r⟩ es.length e=0:=by
  unfold Pos.Xi at hw;rw [if_neg (by simpa using h1)] at hw;exact hw
 by_cases hk:e.kind=Pos.ZN
 · have he:=Pos.LY nm h1 hk;generalize e.num=num at he;subst he;unfold Pos.Q1 at hacc;by_cases hnum:num ≠ (es.length:Int)+1
   · rw [if_pos hnum] at hacc;cases hacc
   rw [if_neg hnum,if_pos rfl] at hacc;rcases List.eq_nil_or_concat cs with rfl | ⟨ds,l,rfl⟩
   · cases hacc
   rw [List.concat_eq_append] at *;have hadd:Pos.Q2 ⟨ds++[l],r⟩ ⟨num,Pos.ZN,[],[],[]⟩=⟨ds,Pos.K5 ds⟩:=by
    unfold Pos.Q2;rw [if_pos rfl];simp
   rw [hadd] at J' ⊢;exact Zcs nm h rfl J'.run J'.chk hle
 · obtain ⟨tk,a,ha,hev,h0,h9⟩:=Pos.Fl nm h1 hk;obtain ⟨kind,names,vs,hp⟩:=Pos.B0 e.num tk a;have hok:Pos.okA r tk a=0:=by
    unfold Pos.Q1 at hacc;by_cases hnum:e.num ≠ (es.length:Int)+1
    · rw [if_pos hnum] at hacc;cases hacc
    rw [if_neg hnum,if_neg hk] at hacc;simpa only [ha] using hacc
   obtain ⟨I,S⟩:=Pos.CS nm J;have hA:=fun n=>AZ I S (num:=e.num) hok n
   have hadd:Pos.Q2 ⟨cs,r⟩ e=⟨cs++[e],Pos.doA r tk a⟩:=by
    unfold Pos.Q2;rw [if_neg hk];unfold Pos.doE;simp only [ha]
   obtain ⟨a1,a2,hf,hl1,hl2,_⟩:=Pos.Kw nm h1;rw [hadd];rw [hp] at hev;simp only [hp] at hA;have hnn:e.names.length≤Z1∧e.vals.length≤Z1:=by
    have:=Zct hf;unfold Z1;omega
   generalize e.num=num at hev hA;subst hev;exact Zcq h hk hA hnn hle
end Go.Sim

namespace Go.Sim
open Go Go.Proofs
open Go.Sim.Pos (Nm Trk Flt Trn Pos Mch Reg Ev Len ZW Yd Y8 Ye Jh)
set_option maxRecDepth 100000
set_option maxHeartbeats 8000000
def EvS (e:Ev):Prop:=e.names.length≤Z1∧e.vals.length≤Z1
theorem Zcu (nm:Nm→Bool) (j:Pos.Jn) (n:Nat) (e:Ev) (l:List Ev):Pos.ZQ nm j n (e::l)=if Pos.Xi nm j n e ≠ 0 then (j,n+1,Pos.Xi nm j n e) else Pos.ZQ nm (Pos.Q2 j e) (n+1) l:=rfl
theorem en74:Q5 74:=Qj
theorem Mg {H:Heap} {v:AV} {l:List Ev} (hs:Sl H v 5 53 (l.map Pos.Ev.row)) (hl:l.length≤1000) (hsm:∀ e ∈ l,EvS e) :
 ∃ w H',R PT (.call H.n 74 [v] H)=some (.ofVal w H')∧w=.tup [.ptr H.n 0,.int .i64 (Pos.ZQ Z7 Pos.zJn 0 l).2.1,.int .i64 (Pos.ZQ Z7 Pos.zJn 0 l).2.2]∧Old H.n H H' ∧
   ∃ es V vE vC,HisW 170 H.n H' H.n es (Pos.ZQ Z7 Pos.zJn 0 l).1.cs (Pos.ZQ Z7 Pos.zJn 0 l).1.reg V vE vC∧Pos.JOk Z7 (Pos.ZQ Z7 Pos.zJn 0 l).1∧((Pos.ZQ Z7 Pos.zJn 0 l).2.2=0→es=l):=by
 have hJz:=Pos.CR Z7 (l:=l) (n:=0) (Pos.GZ Z7);generalize hq:Pos.ZQ Z7 Pos.zJn 0 l=q at hJz ⊢;refine Za (C:=PT) (f:=74) (lo:=H.n) (args:=[v]) (H:=H) (fn:=Tryz.f74) (Q:=fun w H'=>w=.tup [.ptr H.n 0,.int .i64 q.2.1,.int .i64 q.2.2]∧Old H.n H H' ∧ ∃ es V vE vC,HisW 170 H.n H' H.n es q.1.cs q.1.reg V vE vC∧Pos.JOk Z7 q.1∧(q.2.2=0→es=l)) (by kernel_rfl) Tryz.func74 rfl rfl ?_;have hlen:=fun H'=>hs.len (t:=22) (by kernel_rfl) H'
 simp only [List.length_map] at hlen;have hl1:((1000:Int) < (l.length:Int))=False:=eq_false (by omega);simp (maxDischargeDepth:=12) only [go_sem,reduceEqDiff,reduceCtorEq,hlen,hl1];refine ZK (fun k T Hc M=>M=[]∧Z2 T 5=.ptr H.n 0∧Z2 T 15=v∧Z2 T 16=i64 (l.length:Nat)∧Z2 T 17=i64 k∧Old H.n H Hc ∧ ∃ j V vE vC,HisW 170 H.n Hc H.n (l.take k) j.cs j.reg V vE vC∧Pos.JOk Z7 j∧Pos.ZQ Z7 j k (l.drop k)=q) l.length ?_ ?_ ?_
 · simp (maxDischargeDepth:=12) only [go_sem,reduceEqDiff,reduceCtorEq];refine ⟨Pos.zJn,V0,.ps .nil [],.ps .nil [],⟨Fo (by simp) (Nat.le_refl _) (by rw [Heap.get_push,if_pos rfl];rfl),⟨.inl ⟨rfl,rfl⟩,fun i a b c d h=>by cases h⟩,⟨.inl ⟨rfl,rfl⟩,fun i a b c d h=>by cases h⟩,fun i j a b c d a' b' c' d' h1=>by (cases h1),Nat.zero_le _,Nat.zero_le _⟩,Pos.GZ Z7,hq⟩
 · rintro k T Hc M hk ⟨rfl,g5,g15,g16,g17,hO,j,V,vE,vC,hW,J,hrep⟩;obtain ⟨e,he⟩:∃ e,l[k]? = some e:=⟨l[k],by simp⟩;have hw:=ZP hk (by unfold Z1;omega:l.length≤Z1);have hi:=hs.idx (t:=22) (by kernel_rfl) (by kernel_rfl) (Zw (by intro x;rfl) l) (by rw [List.length_map];exact hk) .i64;have hd:=hs.ld (by kernel_rfl) (by kernel_rfl) (Zw (by intro x;rfl) l) (Y1 he) hO;have hes:=hsm e (List.mem_of_getElem? he);have hHn:H.n < Hc.n:=hW.reg.bn;have hkc:=eq_true hk;have hle:=eq_true hO.1;obtain ⟨H1,hH1⟩:∃ H1,H1=(Hc.push (.cells [.int .i64 0,.str [],.ps .nil [],.ps .nil [],.str []] 53)).set Hc.n (.cells e.row 53):=⟨_,rfl⟩;have hn1:H1.n=Hc.n+1:=by rw [hH1];simp
   have hO1:Old Hc.n Hc H1:=by rw [hH1];exact (Old.refl Hc).new _ _
   have hg1:H1.get Hc.n=.cells e.row 53:=by rw [hH1,Heap.get_set,if_pos rfl]
   have hO1':Old H.n H H1:=hO.trans ⟨by omega,fun i hi=>hO1.2 i (by omega)⟩;have hW1:=hW.old hO1;have hck:=UW e hes;rw [K9 he,Zcu] at hrep;have htk:(l.take k).length=k:=by rw [List.length_take];omega
   have hst1:sst H.n (Hc.push (.cells [.int .i64 0,.str [],.ps .nil [],.ps .nil [],.str []] 53)) 53 (.ptr Hc.n 0) (.agg e.row)=some H1:=by
    simp (maxDischargeDepth:=12) only [go_sem,reduceAdd,Pos.Ev.row,hle,hH1]
   have hld1:sld H1 53 (.ptr Hc.n 0)=some (.agg e.row):=by
    simp (maxDischargeDepth:=12) only [go_sem,reduceAdd,Pos.Ev.row,hg1]
   have hsr:List.map AV.strip0 e.row=e.row:=rfl;have q1:(Hc.n < H1.n)=True:=eq_true (by omega);by_cases c1:Pos.Zp Z7 e=0
   · have hwr:Pos.Xi Z7 j k e=Pos.Q1 j k e:=by
      unfold Pos.Xi;rw [if_neg (by simpa using c1)]
     rw [hwr] at hrep;have hacc:=fun lo K=>M5 Z7 (e:=e) hW1.is (Pos.CS Z7 J).2 c1 (Old.refl H1) (lo:=lo) (K:=K)
     rw [htk] at hacc;by_cases c2:Pos.Q1 j k e=0
     · rw [if_neg (by simpa using c2)] at hrep;obtain ⟨w,H2,hadd,vE',vC',V',hW2,hch⟩:=Mf Z7 hW1 J (e:=e) (by rw [htk,hwr];exact c2) (by rw [htk];omega);have hadd':=fun K=>X8 (K:=K) (Md rfl) hadd
       have J2:=Pos.F0 Z7 J (n:=k) (e:=e) (by rw [hwr];exact c2);simp (maxDischargeDepth:=12) only [go_sem,reduceEqDiff,g5,g15,g16,g17,hkc,hw,hi,hd,hst1,hld1,hsr,hck,c1,hacc,c2,hadd'];have ht:l.take (k+1)=l.take k++[e]:=by rw [List.take_add_one,he];rfl
       rw [ht];exact ⟨hO1'.trans (hch.old (by omega)),_,V',vE',vC',hW2,J2,hrep⟩
     · rw [if_pos (by simpa using c2)] at hrep;subst hrep;simp (maxDischargeDepth:=12) only [go_sem,reduceEqDiff,reduceCtorEq,g5,g15,g16,g17,hkc,hw,hi,hd,hst1,hld1,hsr,hck,c1,hacc,c2];exact ⟨hO1',l.take k,V,vE,vC,hW1,J,fun h=>h.elim⟩
   · have hwr:Pos.Xi Z7 j k e=Pos.Zp Z7 e:=by
      unfold Pos.Xi;rw [if_pos (by simpa using c1)]
     rw [hwr,if_pos (by simpa using c1)] at hrep;subst hrep;simp (maxDischargeDepth:=12) only [go_sem,reduceEqDiff,reduceCtorEq,g5,g15,g16,g17,hkc,hw,hi,hd,hst1,hld1,hsr,hck,c1];exact ⟨hO1',l.take k,V,vE,vC,hW1,J,fun h=>h.elim⟩
 · rintro T Hc M ⟨rfl,g5,g15,g16,g17,hO,j,V,vE,vC,hW,J,hrep⟩;rw [List.drop_length] at hrep;rw [List.take_length] at hW;subst hrep;have hlt:(l.length < l.length)=False:=eq_false (Nat.lt_irrefl _);simp (maxDischargeDepth:=12) only [go_sem,reduceEqDiff,reduceCtorEq,g5,g16,g17,hlt];exact ⟨rfl,hO,l,V,vE,vC,hW,J,fun _=>rfl⟩
theorem en73:Q5 73:=Qj
theorem Fp {H:Heap} {l:List Ev} (hl:l.length≤1000) (hsm:∀ e ∈ l,EvS e) (c:Int) (s:Nm) :
 ∃ w H2,R PT (.call H.n 73 [.ps .unk (l.map Pos.Ev.row),.int .u8 c,.str s] H)=some (.ofVal w H2)∧Old H.n H H2 ∧
   ((Pos.ZQ Z7 Pos.zJn 0 l).2.2 ≠ 0→w=.tup [.nilp,.int .i64 (Pos.ZQ Z7 Pos.zJn 0 l).2.2]) ∧
   ((Pos.ZQ Z7 Pos.zJn 0 l).2.2=0→w=.tup [.ptr H.n 2,.int .i64 (Z5 (!decide (s ∈ Zz (Pos.ZQ Z7 Pos.zJn 0 l).1.reg c)) 10)] ∧ ∃ V,RegIs H2 H.n 2 (Pos.ZQ Z7 Pos.zJn 0 l).1.reg V)∧Pos.JOk Z7 (Pos.ZQ Z7 Pos.zJn 0 l).1:=by
 have hJz:=Pos.CR Z7 (l:=l) (n:=0) (Pos.GZ Z7);obtain ⟨w,H2,hr,rfl,hO,es,V,vE,vC,hW,J,hes⟩:=Mg (H:=H) (v:=.ps .unk (l.map Pos.Ev.row)) (l:=l) (.inl ⟨_,rfl,rfl⟩) hl hsm;have hrep:=fun lo K=>Q6 (K:=K) (en74 (lo:=lo) rfl) hr
 generalize hq:Pos.ZQ Z7 Pos.zJn 0 l=q at *;obtain ⟨w,H3,h1,h2,h3,h4⟩:=Za (C:=PT) (f:=73) (lo:=H.n) (args:=[.ps .unk (l.map Pos.Ev.row),.int .u8 c,.str s]) (H:=H) (fn:=Tryz.f73) (Q:=fun w H2=>Old H.n H H2∧(q.2.2 ≠ 0→w=.tup [.nilp,.int .i64 q.2.2])∧(q.2.2=0→w=.tup [.ptr H.n 2,.int .i64 (Z5 (!decide (s ∈ Zz q.1.reg c)) 10)] ∧ ∃ V,RegIs H2 H.n 2 q.1.reg V)) (by kernel_rfl) Tryz.func73 rfl rfl (by
  by_cases c1:q.2.2=0
  · have hna:=fun lo K=>KK hW.reg.is c (Old.refl H2) (lo:=lo) (K:=K)
    simp only [List.length_cons,List.length_nil,Nat.zero_add,reduceAdd] at hna;have hlen:=LR (r:=q.1.reg) c hW.reg.lT hW.reg.lF hW.reg.lR hW.reg.lP hW.reg.lM;have hpc:=CZ (Zz q.1.reg c) s hlen;have hbn:(H.n < H2.n)=True:=eq_true hW.reg.bn;simp (maxDischargeDepth:=12) only [go_sem,reduceEqDiff,reduceAdd,reduceSub,reduceCtorEq,hrep,c1,hna,hpc,hbn];exact ⟨hO,fun h=>absurd rfl h,fun _=>⟨V,hW.reg.is⟩⟩
  · simp (maxDischargeDepth:=12) only [go_sem,reduceEqDiff,reduceAdd,reduceCtorEq,hrep,c1];exact ⟨hO,fun _=>trivial,fun h=>h.elim⟩)
 exact ⟨w,H3,h1,h2,h3,h4,hJz⟩
def JL (l:List Ev) (s:Nm):Int × Int:=if (Pos.ZQ Z7 Pos.zJn 0 l).2.2 ≠ 0 then (0,(Pos.ZQ Z7 Pos.zJn 0 l).2.2) else match (Pos.ZQ Z7 Pos.zJn 0 l).1.reg.track? s with
 | none=>(0,10)
 | some _=>if Pos.UN (Pos.ZQ Z7 Pos.zJn 0 l).1.reg s ≠ 0 then (0,Pos.UN (Pos.ZQ Z7 Pos.zJn 0 l).1.reg s) else ((Pos.ZQ Z7 Pos.zJn 0 l).1.reg.permitted s,0)
end Go.Sim

namespace Go.Sim
open Go Go.Proofs
open Go.Sim.Pos (Nm Trk Flt Trn Pos Mch Reg Ev)
set_option maxRecDepth 100000
set_option maxHeartbeats 16000000
variable {te:TypeId}
theorem en38:YS 38:=YY
theorem Zcv:NC.P.underlying 89=some (.pointer 203):=by kernel_rfl
attribute [go_sem] Zcv
def DoQ (te:TypeId) (lo:Nat) (H:Heap) (hb:Nat) (d:Pos.Ses × Nm × Int) (w:AV) (H':Heap):Prop:=w=.tup [.str d.2.1,.int .i64 d.2.2]∧(∃ V vE vC,HisW te lo H' hb d.1.evs d.1.j.cs d.1.j.reg V vE vC)∧Pos.JOk Z7 d.1.j∧Chg lo hb XC H H'
theorem B2 {lo hb:Nat} {H H':Heap} (h:Old H.n H H'):Chg lo hb XC H H':=⟨h.1,fun i hi=>.inl (h.2 i hi)⟩
theorem r_Do {lo:Nat} {H:Heap} {hb:Nat} {s:Pos.Ses} {V:RegV} {vE vC:AV} (h:HisW te lo H hb s.evs s.j.cs s.j.reg V vE vC) (J:Pos.JOk Z7 s.j) {line:Nm} (hll:line.length≤1000000) (hq:AT s line=true) :
 ∃ w H',R PT (.call lo 38 [.ptr hb 0,.str line] H)=some (.ofVal w H')∧DoQ te lo H hb (Pos.doL s line) w H':=by
 refine Za (C:=PT) (f:=38) (lo:=lo) (args:=[.ptr hb 0,.str line]) (H:=H) (fn:=Tryz.f38) (Q:=fun w H'=>DoQ te lo H hb (Pos.doL s line) w H') (by kernel_rfl) Tryz.func38 rfl rfl ?_;have same:∀ (out:Nm) (c:Int) (H':Heap),Old H.n H H'→DoQ te lo H hb (s,out,c) (.tup [.str out,.int .i64 c]) H':=fun out c H' ho=>⟨rfl,⟨V,vE,vC,h.old ho⟩,J,B2 ho⟩
 have z1:((0:Int)=0)=True:=eq_true rfl;have z25:((25:Int)=0)=False:=eq_false (by decide);have z26:((26:Int)=0)=False:=eq_false (by decide);have z5:((5:Int)=0)=False:=eq_false (by decide);have wt:∀ c:Int,Z5 true c=c:=fun _=>rfl
 have wf:∀ c:Int,Z5 false c=0:=fun _=>rfl
 have f1:∀ c,Z9 [26,c]=26:=fun _=>rfl
 have f2:Z9 [0,25]=25:=rfl;have f3:Z9 [0,0]=0:=rfl;have f4:∀ c,Z9 [25,c]=25:=fun _=>rfl
 have f5:Z9 [0,5]=5:=rfl;unfold Pos.doL;by_cases h1:4096 < line.length
 · have q1:((4096:Int) < (line.length:Int))=True:=eq_true (by omega);rw [if_pos h1];simp (maxDischargeDepth:=12) only [go_sem,reduceEqDiff,reduceAdd,reduceMul,reduceLeDiff,reduceCtorEq,q1,wt,f1,z26];exact same _ _ _ (Old.refl H)
 have q1:((4096:Int) < (line.length:Int))=False:=eq_false (by omega);rw [if_neg h1];by_cases h2:line=[]
 · subst h2;have q2:Z6 ([]:List Nat) []=true:=rfl;rw [if_pos rfl];have q0:((4096:Int) < 0)=False:=eq_false (by decide);simp (maxDischargeDepth:=12) only [go_sem,reduceEqDiff,reduceAdd,reduceMul,reduceLeDiff,reduceCtorEq,q0,q2,wt,wf,f2,z25];exact same _ _ _ (Old.refl H)
 have q2:Z6 line []=false:=by rw [YV];simpa using h2
 rw [if_neg h2];have hsp:=pe59 line 32 (by unfold Z1;omega);have hwm:∀ w ∈ Zu 32 line,w.length≤Z1:=fun w hw=>by
  have:=Fc hw;unfold Z1;omega
 have hwl:=Fd 32 line;have hnz:=G8 32 line;unfold AT at hq;generalize Zu 32 line=WS at *
 match WS,hnz with
 | w::rest,_ =>
 simp only [Bool.and_eq_true,Bool.not_eq_true',decide_eq_false_iff_not,decide_eq_true_eq] at hq;obtain ⟨⟨⟨⟨nT,nP⟩,nK⟩,nM⟩,hal,hml,hperm⟩:=hq;have hd:List.headD (w::rest) []=w:=rfl;rw [hd];have hs0:(Z0 (w::rest))[0]? = some [.str w]:=rfl;have hsl:(0 < (Z0 (w::rest)).length)=True:=by simp [Z0]
 have htl:=Ap (w:=w) (r:=rest);obtain ⟨Hq,hrq,hnq,hkq,hmq⟩:=Za4 (P:=PPT) H.n H (Nat.le_refl _);have hOq:Old H.n H Hq:=⟨by omega,hkq⟩;have hlq:=(Za2 hmq Za3 w).1;have hlo:lo≤H.n:=Nat.le_of_lt (Nat.lt_of_le_of_lt h.reg.lob h.reg.bn);have hloq:=eq_true (show lo≤Hq.n by omega);have hq1:=eq_true (show H.n < Hq.n by omega);have hb1:(hb < Hq.n+1)=True:=eq_true (by have:=h.reg.bn;omega);rcases ZaZ w with hw | ⟨rfl,hw⟩ | hw | ⟨rfl,hw⟩ | hw | ⟨rfl,hw⟩ | hw | hw
 case inr.inr.inl=>exact absurd hw nT
 case inr.inr.inr.inr.inl=>exact absurd hw nP
 case inr.inr.inr.inr.inr.inr.inl=>exact absurd hw nK
 case inr.inr.inr.inr.inr.inr.inr=>exact absurd hw nM
 case inr.inl =>
  have hk:Pos.KB Pos.Ky=false:=by decide
  rw [if_pos hk];rw [hw] at hlq;rw [ZaV] at hal ⊢;have hOb:Old H.n H ((Hq.push (.cells [.int .u8 0,.nilf] 212)).set Hq.n (.cells [.int .u8 116,.fn 211 [] []] 212)):=hOq.new _ _;have ha:=fun lo' K=>LW (te:=te) h.is (c:=116) (.inl rfl) (g:=211) (rest:=rest) (F:=fun x=>[Zi (s.j.reg.permitted x)]) (fun x hr hx hm=>by
   subst hr;have hj:(JI (Zz s.j.reg 116) (fun x=>[Zi (s.j.reg.permitted x)]) [x])=(Zi (s.j.reg.permitted x),0):=by
    show (if x=[] then _ else if x ∈ Zz s.j.reg 116 then _ else _)=_
    rw [if_neg hx,if_pos hm];rfl
   rw [hj] at hal;cases hf:s.j.reg.track? x with
   | none=>exact absurd hm (Fk (nm:=fun z:Trk=>z.name) (l:=s.j.reg.tracks) hf)
   | some y=>exact ⟨⟨hal,by show 1≤1073741824;decide⟩,fun Hc ho lo' K=>e_q1 h.is.reg hf (by simp only [Bool.and_eq_true,decide_eq_true_eq] at hperm;exact hperm) ho⟩) (by have:=h.is.reg.lT;show (List.map _ _).length≤_;rw [List.length_map];exact this) hOb (lo:=lo') (K:=K)
  simp (maxDischargeDepth:=12) only [go_sem,reduceEqDiff,reduceAdd,reduceMul,reduceSub,reduceLeDiff,reduceCtorEq,q1,q2,wf,f3,hsp,hs0,hsl,JH (P:=PPT) rfl,hrq,hlq,hloq,hq1,htl,hb1,ha];exact same _ _ _ hOb
 case inr.inr.inr.inl =>
  have hk:Pos.KB Pos.Kz=false:=by decide
  rw [if_pos hk];rw [hw] at hlq;rw [ZaW] at hal ⊢;have hOb:Old H.n H ((Hq.push (.cells [.int .u8 0,.nilf] 212)).set Hq.n (.cells [.int .u8 112,.fn 216 [] []] 212)):=hOq.new _ _;have ha:=fun lo' K=>LW (te:=te) h.is (c:=112) (.inr rfl) (g:=216) (rest:=rest) (F:=Vo s.j.reg) (fun x hr hx hm=>by
   subst hr;have hj:(JI (Zz s.j.reg 112) (Vo s.j.reg) [x])=(Pos.Q3 (Vo s.j.reg x),0):=by
    show (if x=[] then _ else if x ∈ Zz s.j.reg 112 then _ else _)=_
    rw [if_neg hx,if_pos hm]
   rw [hj] at hal;cases hf:s.j.reg.poss? x with
   | none=>exact absurd hm (Fk (nm:=fun z:Pos=>z.name) (l:=s.j.reg.poss) hf)
   | some y =>
     have hb:Vo s.j.reg x=YI s.j.reg x y:=by unfold Vo;rw [hf]
     rw [hb] at hal ⊢;have hll:(YI s.j.reg x y).length≤s.j.reg.machs.length+3:=by
      have hle:(s.j.reg.within x).length≤s.j.reg.machs.length:=List.length_filter_le _ _;have n1:∀ (c:Prop) [Decidable c] (z:Nm),(if c then [z] else []).length≤1:=fun c _ z=>by split<;>simp
      unfold YI;simp only [List.length_append,List.length_map];have a1:=n1 (0 < y.pers) [115,116,97,102,102];have a2:=n1 (y.opn=true) [109,101,97,115,117,114,101,109,101,110,116];have a3:=n1 (y.prot=true) [112,114,111,116,101,99,116,105,111,110];omega
     refine ⟨⟨?_,by unfold Z1;omega⟩,fun Hc ho lo' K=>e_q3 h.is.reg hf (by unfold Z1;omega) ho⟩;unfold Pos.Q3 at hal;split at hal
     · rename_i h0;rw [h0];exact Nat.zero_le _
     · exact hal) (by have:=h.is.reg.lP;show (List.map _ _).length≤_;rw [List.length_map];exact this) hOb (lo:=lo') (K:=K)
  simp (maxDischargeDepth:=12) only [go_sem,reduceEqDiff,reduceAdd,reduceMul,reduceSub,reduceLeDiff,reduceCtorEq,q1,q2,wf,f3,hsp,hs0,hsl,JH (P:=PPT) rfl,hrq,hlq,hloq,hq1,htl,hb1,ha];exact same _ _ _ hOb
 case inr.inr.inr.inr.inr.inl =>
  have hk:Pos.KB Pos.Vb=false:=by decide
  rw [if_pos hk];rw [hw] at hlq;rw [ZaX] at hal ⊢;have hOb:Old H.n H ((Hq.push (.cells [.int .u8 0,.nilf] 212)).set Hq.n (.cells [.int .u8 0,.fn 218 [] []] 212)):=hOq.new _ _;have hfl:((s.j.reg.faults.filter Flt.silent).map (·.name)).length≤Z1:=by
   rw [List.length_map];exact Nat.le_trans (List.length_filter_le _ _) h.is.reg.lF
  have ha:=fun lo' K=>ZaT (te:=te) h.is (g:=218) (rest:=rest) (l:=(s.j.reg.faults.filter Flt.silent).map (·.name)) (fun Hc ho lo' K=>e_q5 h.is.reg ho) (fun hr=>by
   rw [if_pos hr] at hal;unfold Pos.Q3 at hal;split at hal
   · rename_i h0;rw [h0];exact Nat.zero_le _
   · exact hal) hfl hOb (lo:=lo') (K:=K)
  simp (maxDischargeDepth:=12) only [go_sem,reduceEqDiff,reduceAdd,reduceMul,reduceSub,reduceLeDiff,reduceCtorEq,q1,q2,wf,f3,hsp,hs0,hsl,JH (P:=PPT) rfl,hrq,hlq,hloq,hq1,htl,hb1,ha];exact same _ _ _ hOb
 rw [hw] at hlq;have hO1:Old H.n H ((Hq.push (.cells [.int .u8 0,.nilf] 212)).set Hq.n (.cells [.int .u8 0,.nilf] 212)):=hOq.new _ _;obtain ⟨Hf,hrf,hnf,hkf,hF⟩:=Ve (P:=PPT) (by rfl) (by rfl) (Hq.n+1) ((Hq.push (.cells [.int .u8 0,.nilf] 212)).set Hq.n (.cells [.int .u8 0,.nilf] 212)) (by simp);have hnn:((Hq.push (.cells [.int .u8 0,.nilf] 212)).set Hq.n (.cells [.int .u8 0,.nilf] 212)).n=Hq.n+1:=by simp
 rw [hnn] at hrf hnf hkf hF;have hOf:Old H.n H Hf:=⟨by omega,fun i hi=>by rw [hkf i (by omega),hO1.2 i hi]⟩;have hlk:=(KF hF.map (KG _) w).1;have hlof:=eq_true (show lo≤Hf.n by omega);have hq2:=eq_true (show Hq.n+1 < Hf.n by omega);rcases Au w (Hq.n+1) with ⟨hA,hB⟩ | ⟨nm,fv,g1,g2,l1,l2,hA,hB,hasc,hnm,hfv,hst1,hst2,hu1,hu2⟩
 · have hk:Pos.KB w=false:=by unfold Pos.KB;rw [hB];rfl
   rw [if_pos hk,ZaY hw];rw [hA] at hlk;simp (maxDischargeDepth:=12) only [go_sem,reduceEqDiff,reduceAdd,reduceMul,reduceSub,reduceLeDiff,reduceCtorEq,q1,q2,wf,f3,hsp,hs0,hsl,JH (P:=PPT) rfl,hrq,hlq,hloq,hq1,Xk (P:=PPT) rfl,hrf,hlk,hq2,hlof];exact same _ _ _ (hOf.new _ _)
 have hk:Pos.KB w=true:=by unfold Pos.KB;rw [hB];rfl
 rw [if_neg (by rw [hk];simp)];rw [hA] at hlk;have hu1':=hu1 (Hf.n) (by omega);have hu2':=hu2 (Hf.n) (by omega);obtain ⟨H2,hH2⟩:∃ H2,H2=(Hf.push (.cells [.str [],.int .i64 0,.nilf,.nilf] 175)).set Hf.n (.cells [.str nm,.int .i64 (fv:Int),.fn g1 [] l1,.fn g2 [] l2] 175):=⟨_,rfl⟩;have hO2:Old H.n H H2:=by rw [hH2];exact hOf.new _ _
 have hn2:H2.n=Hf.n+1:=by rw [hH2];simp
 have hst0:sst lo (Hf.push (.cells [.str [],.int .i64 0,.nilf,.nilf] 175)) 175 (.ptr Hf.n 0) (.agg [.str nm,.int .i64 (fv:Int),.fn g1 [] l1,.fn g2 [] l2])=some H2:=by
  have hs1:[AV.str nm,.int .i64 (fv:Int),.fn g1 [] l1,.fn g2 [] l2].map AV.strip0=[AV.str nm,.int .i64 (fv:Int),.fn g1 [] l1,.fn g2 [] l2]:=rfl;simp (maxDischargeDepth:=12) only [go_sem,reduceAdd,hlof,hH2]
 have hev:=Av ((s.evs.length:Int)+1) (w::rest) ⟨by unfold Z1;omega,hwm⟩;have hep:=Ln ((s.evs.length:Int)+1) (w::rest);have hel:=Lo ((s.evs.length:Int)+1) (w::rest);have hen:=fun h=>Lq (num:=(s.evs.length:Int)+1) (ws:=w::rest) h
 generalize evQ ((s.evs.length:Int)+1) (w::rest)=E at *;obtain ⟨e,ok⟩:=E;simp only at hev hep hel hen;have hh0:=fun H'=>h.is.h0 (H':=H')
 have nE:=fun H'=>(Q7 h.is.aE).len (t:=22) (by kernel_rfl) H'
 simp only [List.length_map] at nE;have hlE:=h.lE;have hw1:Zk .i64 (Int.add (s.evs.length:Int) 1)=(s.evs.length:Int)+1:=Ym (n:=s.evs.length+1) (by omega);obtain ⟨H3,hH3⟩:∃ H3,H3=(H2.push (.cells [.int .i64 0,.str [],.ps .nil [],.ps .nil [],.str []] 53)).set H2.n (.cells e.row 53):=⟨_,rfl⟩;have hO3:Old H.n H H3:=by rw [hH3];exact hO2.new _ _
 have hn3:H3.n=H2.n+1:=by rw [hH3];simp
 have hlo2:=eq_true (show lo≤H2.n by omega);have hst1':sst lo (H2.push (.cells [.int .i64 0,.str [],.ps .nil [],.ps .nil [],.str []] 53)) 53 (.ptr H2.n 0) (.agg e.row)=some H3:=by
  simp (maxDischargeDepth:=12) only [go_sem,reduceAdd,Pos.Ev.row,hlo2,hH3]
 have hg3:H3.get H2.n=.cells e.row 53:=by rw [hH3,Heap.get_set,if_pos rfl]
 have hld1:sld H3 53 (.ptr H2.n 0)=some (.agg e.row):=by
  simp (maxDischargeDepth:=12) only [go_sem,reduceAdd,Pos.Ev.row,hg3]
 have hld0:sld H3 3 (.ptr H2.n 0)=some (.int .i64 e.num):=by
  simp (maxDischargeDepth:=12) only [go_sem,reduceAdd,Pos.Ev.row,hg3]
 have hsr:List.map AV.strip0 e.row=e.row:=rfl;have hb3:(hb < H3.n)=True:=eq_true (by have:=h.reg.bn;have:=hO3.1;omega);have hue:Yi H3.n e.row=true:=rfl;cases ok
 · rw [hep.2 rfl];simp only;by_cases hbig:1000≤s.evs.length
   · have q3:((s.evs.length:Int) < 1000)=False:=eq_false (by omega);simp (maxDischargeDepth:=12) only [go_sem,reduceEqDiff,reduceAdd,reduceMul,reduceSub,reduceLeDiff,reduceCtorEq,q1,q2,wt,wf,f3,hsp,hs0,hsl,JH (P:=PPT) rfl,hrq,hlq,hloq,hq1,Xk (P:=PPT) rfl,hrf,hlk,hq2,hst0,hev,hh0,nE,hw1,hO2,hst1',hO3,q3,f4,z25];exact same _ _ _ hO3
   · have q3:((s.evs.length:Int) < 1000)=True:=eq_true (by omega);simp (maxDischargeDepth:=12) only [go_sem,reduceEqDiff,reduceAdd,reduceMul,reduceSub,reduceLeDiff,reduceCtorEq,q1,q2,wt,wf,f3,hsp,hs0,hsl,JH (P:=PPT) rfl,hrq,hlq,hloq,hq1,Xk (P:=PPT) rfl,hrf,hlk,hq2,hst0,hev,hh0,nE,hw1,hO2,hst1',hO3,q3,f4,z25];exact same _ _ _ hO3
 rw [hep.1 rfl];simp only;have hnum:=hen rfl;by_cases hbig:1000≤s.evs.length
 · have q3:((s.evs.length:Int) < 1000)=False:=eq_false (by omega);rw [if_pos hbig];simp (maxDischargeDepth:=12) only [go_sem,reduceEqDiff,reduceAdd,reduceMul,reduceSub,reduceLeDiff,reduceCtorEq,q1,q2,wt,wf,f3,hsp,hs0,hsl,JH (P:=PPT) rfl,hrq,hlq,hloq,hq1,Xk (P:=PPT) rfl,hrf,hlk,hq2,hst0,hev,hh0,nE,hw1,hO2,hst1',hO3,q3,f5,z5];exact same _ _ _ hO3
 have q3:((s.evs.length:Int) < 1000)=True:=eq_true (by omega);rw [if_neg hbig];have hce:=UW e ⟨by unfold Z1;omega,by unfold Z1;omega⟩;by_cases c1:Pos.Zp Z7 e=0
 case neg =>
  have hwr:Pos.Xi Z7 s.j s.evs.length e=Pos.Zp Z7 e:=by unfold Pos.Xi;rw [if_pos (by simpa using c1)]
  rw [hwr,if_pos (by simpa using c1)];simp (maxDischargeDepth:=12) only [go_sem,reduceEqDiff,reduceAdd,reduceMul,reduceSub,reduceLeDiff,reduceCtorEq,q1,q2,wf,f3,hsp,hs0,hsl,JH (P:=PPT) rfl,hrq,hlq,hloq,hq1,Xk (P:=PPT) rfl,hrf,hlk,hq2,hst0,hev,hh0,nE,hw1,hO2,hst1',hsr,hO3,q3,hld1,hce,c1];exact same _ _ _ hO3
 have hwr:Pos.Xi Z7 s.j s.evs.length e=Pos.Q1 s.j s.evs.length e:=by unfold Pos.Xi;rw [if_neg (by simpa using c1)]
 rw [hwr];have h3:=h.old hO3;have hacc:=fun lo' K=>M5 Z7 (e:=e) h3.is (Pos.CS Z7 J).2 c1 (Old.refl H3) (lo:=lo') (K:=K)
 by_cases c2:Pos.Q1 s.j s.evs.length e=0
 case neg =>
  rw [if_pos (by simpa using c2)];simp (maxDischargeDepth:=12) only [go_sem,reduceEqDiff,reduceAdd,reduceMul,reduceSub,reduceLeDiff,reduceCtorEq,q1,q2,wf,f3,hsp,hs0,hsl,JH (P:=PPT) rfl,hrq,hlq,hloq,hq1,Xk (P:=PPT) rfl,hrf,hlk,hq2,hst0,hev,hh0,nE,hw1,hO2,hst1',hsr,hO3,q3,hld1,hce,c1,hb3,hue,hacc,c2];exact same _ _ _ hO3
 rw [if_neg (by simpa using c2)];obtain ⟨w',H4,hadd,vE',vC',V',hW4,hch⟩:=Mf Z7 h3 J (e:=e) (by rw [hwr];exact c2) (by omega);have hadd':=fun K=>X8 (K:=K) (Md rfl) hadd
 have J2:=Pos.F0 Z7 J (n:=s.evs.length) (e:=e) (by rw [hwr];exact c2);have hbn:=h.reg.bn;have hg4:H4.get H2.n=.cells e.row 53:=hch.cells (by omega) (by have:=hO2.1;omega) hg3;have hld4:sld H4 3 (.ptr H2.n 0)=some (.int .i64 e.num):=by
  simp (maxDischargeDepth:=12) only [go_sem,reduceAdd,Pos.Ev.row,hg4]
 have hit:=F6 (n:=e.num) (by rw [hnum];exact ⟨by omega,by omega⟩);have hil:(5+(Zi e.num).length≤9223372036854775807)=True:=eq_true (by
  have:=(AF (n:=e.num) (by omega) (by omega)).1;omega)
 simp (maxDischargeDepth:=12) only [go_sem,reduceEqDiff,reduceAdd,reduceMul,reduceSub,reduceLeDiff,reduceCtorEq,q1,q2,wf,f3,hsp,hs0,hsl,JH (P:=PPT) rfl,hrq,hlq,hloq,hq1,Xk (P:=PPT) rfl,hrf,hlk,hq2,hst0,hev,hh0,nE,hw1,hO2,hst1',hsr,hO3,q3,hld1,hce,c1,hb3,hue,hacc,c2,hadd',hld4,hit,hil];exact ⟨rfl,⟨_,_,_,hW4⟩,J2,(B2 hO3).to hch⟩
end Go.Sim
