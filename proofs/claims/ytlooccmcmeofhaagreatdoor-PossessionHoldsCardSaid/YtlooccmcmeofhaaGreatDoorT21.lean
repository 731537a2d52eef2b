/-
Lemmas of one proof, the texts Open to Quest2 joined.
-/
import Derived.Test.YtlooccmcmeofhaaGreatDoorT20
set_option linter.unusedSimpArgs false
set_option linter.unusedVariables false
open Nat (reduceEqDiff reduceAdd reduceMul reduceSub reduceLeDiff reduceLT)
set_option maxRecDepth 100000
set_option maxHeartbeats 32000000
noncomputable section
open Go Go.Proofs
open Bool (and_eq_false_iff and_eq_true false_eq_true not_eq_true' or_eq_true)
open Int (not_lt)
open List (all_cons all_eq_true all_nil any_eq_false any_eq_true append_nil concat_eq_append cons_append drop_append_of_le_length drop_eq_getElem_cons drop_length drop_length_add_append eq_nil_or_concat filterMap_append filterMap_cons filterMap_nil find?_eq_none find?_some getD_cons_succ getD_cons_zero getElem?_map getElem?_set_self length_append length_cons length_drop length_eq_zero_iff length_filter_le length_map length_nil length_pos_iff length_set length_take map_append map_eq_nil_iff map_set mem_iff_getElem? mem_map mem_map_of_mem mem_of_find?_eq_some mem_of_getElem? mem_or_eq_of_mem_set nil_append set_eq_take_append_cons_drop set_set take_add_one take_append_drop take_append_of_le_length take_length take_length_add_append)
open Nat (add_assoc add_zero le_of_eq le_of_lt le_succ lt_of_le_of_lt lt_of_lt_of_le mul_le_mul_right one_mul sub_mul succ_mul succ_pos zero_add zero_le)
open Option (bind_some isNone_none isSome_iff_exists)
open Go.Sim.Pos (Ev Flt Gg Hf Ho Jo Jp KF Len Mch Nm Pos Qy Qz Reg Trk Trn Ud Ue Vk X2 XD XV Xc Xd Xg Xp Xq Xr Y1 Y7 YD YE YF YO YP YT YU YZ Yb Yc Yt Yy Yz ZE ZJ ZM ZS ZT ZZ Zl Zw Zx minI)
variable {H H' H0 Hc:Go.Sim.Heap} {T:Go.Sim.TT Go.Sim.AV} {V:Go.Sim.RegV} {X:Go.Sim.ABlk→Prop} {a c fv num tk v:Int} {b bx c1 c2 hb i id j k lo n o off sz sz':Nat} {bc cs post pre:List Go.Sim.AV} {be e te te':Go.TypeId} {es l:List Go.Sim.Pos.Ev} {f kind m p s t text x:Go.Sim.Pos.Nm} {f1 f2 g:Go.FuncId} {names:List Go.Sim.Pos.Nm} {nm:List Nat} {ps:List Go.Sim.Pos.Pos} {q y:Go.Sim.Pos.Pos} {r r':Go.Sim.Pos.Reg} {rows:List (List Go.Sim.AV)} {vC vE:Go.Sim.AV} {vals vs:List Int} {xs:List Go.Sim.Pos.Flt} {α:Type}

namespace Go.Sim
def XW (s:Nm) (p:Pos):Bool:=decide (p.track=s) && !p.ret
theorem en116:Q6 116:=Qm
theorem Z80:R PT (.call lo 116 [.ptr b o,.str s] H)=some (.ofVal (.fn 240 [] [.ptr H.n 0,.ptr (H.n+1) 0]) ((H.push (.cells [.ptr b o] 163)).push (.cells [.str s] 9))):=by
 obtain ⟨v,H2,h1,rfl,rfl⟩:=Zd (C:=PT) (f:=116) (lo:=lo) (args:=[.ptr b o,.str s]) (H:=H) (fn:=Tryz.f116) (Q:=fun w H2=>w=.fn 240 [] [.ptr H.n 0,.ptr (H.n+1) 0]/\H2=(H.push (.cells [.ptr b o] 163)).push (.cells [.str s] 9)) (by kernel_rfl) Tryz.func116 rfl rfl (by
  simp (maxDischargeDepth:=12) only [go_sem,reduceEqDiff,reduceAdd,reduceCtorEq])
 exact h1
theorem Ii {K:AV->Heap->Prop}:VO (Z9 PT (R PT) lo 116 [.ptr b o,.str s] H) K=K (.fn 240 [] [.ptr H.n 0,.ptr (H.n+1) 0]) ((H.push (.cells [.ptr b o] 163)).push (.cells [.str s] 9)):=QA (en116 rfl) Z80
theorem Z81 {y base:Nat} (h:RegIs H0 b o r V) (hlo:lo<=base) (hbase:H0.n<=base) (J:Nat->Heap->Prop) (E:Heap->Prop)
 (hJ0:J 0 H) (hb0:base<=H.n) (hJo:∀ k H,J k H->Old H0.n H0 H) (hJ1:∀ k H,J k H->H.get c1=.cells [.ptr b o] 163) (hJ2:∀ k H,J k H->H.get c2=.cells [.str s] 9) (hc1:c1 < base) (hc2:c2 < base)
 (hJp:∀ k H b,J k H->base<=H.n->J k (H.push b)) (hJs:∀ k H b j,J k H->base<=j->J k (H.set j b))
 (hJn:∀ k p H,r.poss[k]? = some p->XW s p=false->J k H->J (k+1) H)
 (hy:∀ k p H,r.poss[k]? = some p->XW s p=true->J k H->base<=H.n -> ∃ v H',R PT (.yield lo y [.agg p.row] H)=some (.ofVal (.bool v) H')/\(if v then J (k+1) H' else E H')/\H.n<=H'.n /\ ∀ j,base<=j->j < H.n->H'.get j=H.get j) :
 ∃ v H',R PT (.call lo 240 [.yld y,.ptr c1 0,.ptr c2 0] H)=some (.ofVal v H')/\(J r.poss.length H'\/E H'):=by
 refine Zd (C:=PT) (fn:=Tryz.f240) (Q:=fun _ H'=>J r.poss.length H'\/E H') (by kernel_rfl) Tryz.func240 rfl rfl ?_;have hc:=hJ1 0 H hJ0;have l4:=fun H'=>h.l4 (H':=H')
 have hO:=hJo 0 H hJ0;have hlenP:=fun H'=>h.sP.len (t:=46) (by kernel_rfl) H'
 simp only [length_map] at hlenP;simp (maxDischargeDepth:=12) only [go_sem,reduceEqDiff,reduceAdd,reduceCtorEq,hc,l4,hO,hlenP];refine ZP (fun k T' H' M'=>M'=[]/\Z1 T' 0=.yld y/\Z1 T' 2=.ptr c2 0/\Z1 T' 9=V.vP/\Z1 T' 10=i64 (r.poss.length:Nat)/\Z1 T' 11=i64 k/\J k H'/\base<=H'.n) r.poss.length ?_ ?_ ?_
 . simp (maxDischargeDepth:=12) only [go_sem,reduceEqDiff,reduceCtorEq];exact ⟨hJ0,hb0⟩
 . rintro k T' H' M' hk ⟨rfl,g0,g2,g9,g10,g11,hJ,hb⟩;obtain ⟨p,hp⟩:∃ p,r.poss[k]? = some p:=⟨r.poss[k],by simp⟩;have hw:=ZQ hk h.lP;have hO:=hJo k H' hJ;have hlo':lo<=H'.n:=Nat.le_trans hlo hb;have hi:=h.sP.idx (t:=46) (by kernel_rfl) (by kernel_rfl) (ZD (by intro x;rfl) _) (by rw [length_map];exact hk) .i64;have hd:=h.sP.ld (by kernel_rfl) (by kernel_rfl) (ZD (by intro x;rfl) _) (Zy hp) hO;have hs2:=hJ2 k H' hJ;have hne:(c2=H'.n)=False:=eq_false (by omega);obtain ⟨z,hz⟩:∃ z,ZF NC.P 59=some z:=⟨_,Vg⟩;have hJ':=hJs _ _ (.cells p.row 59) H'.n (hJp _ _ (.cells z.cells 59) hJ hb) hb;by_cases ho:XW s p=true
   . obtain ⟨v,H2,hr,h1,h2,h3⟩:=hy k p ((H'.push (.cells z.cells 59)).set H'.n (.cells p.row 59)) hp ho hJ' (by simp only [Heap.n_set,Heap.n_push];omega);have h4:=h3 H'.n hb (by simp);rw [Heap.get_set,if_pos rfl] at h4;rw [Vg] at hz;cases hz;obtain ⟨nm,tr,fa,fb,re,pr,op,cl,pe,sp⟩:=p;have ho2:tr=s/\re=false:=by simpa [XW] using ho
     obtain ⟨ht,hre⟩:=ho2;subst hre;subst ht;simp only [Pos.Pos.row] at hd h4 hr;simp only [AV.cells] at hr;simp only [Heap.n_set,Heap.n_push] at h2;cases v with
     | true =>
       simp (maxDischargeDepth:=12) only [go_sem,reduceEqDiff,reduceAdd,reduceLeDiff,reduceCtorEq,g0,g2,g9,g10,g11,hk,hw,hi,hd,hs2,hne,hlo',Ys,hr,Fv,Fw];exact ⟨h1,by omega⟩
     | false =>
       simp (maxDischargeDepth:=12) only [go_sem,reduceEqDiff,reduceAdd,reduceLeDiff,reduceCtorEq,g0,g2,g9,g10,g11,hk,hi,hd,hs2,hne,hlo',Ys,hr,Fv,Fw];exact .inr h1
   . have ho:XW s p=false:=by simpa using ho
     have hJn':=hJn k p _ hp ho hJ';rw [Vg] at hz;cases hz;obtain ⟨nm,tr,fa,fb,re,pr,op,cl,pe,sp⟩:=p;simp only [Pos.Pos.row] at hd hJn';simp only [AV.cells] at hJn';by_cases c1:tr=s
     . have hre:re=true:=by
        unfold XW at ho;simpa [c1] using ho
       subst hre;simp (maxDischargeDepth:=12) only [go_sem,reduceEqDiff,reduceAdd,reduceLeDiff,reduceCtorEq,g0,g2,g9,g10,g11,hk,hw,hi,hd,hs2,hne,hlo',Ys,c1];exact ⟨by simpa only [c1] using hJn',by omega⟩
     . simp (maxDischargeDepth:=12) only [go_sem,reduceEqDiff,reduceAdd,reduceLeDiff,reduceCtorEq,g0,g2,g9,g10,g11,hk,hw,hi,hd,hs2,hne,hlo',Ys,c1];exact ⟨hJn',by omega⟩
 . rintro T' H' M' ⟨rfl,g0,g2,g9,g10,g11,hJ,hb⟩;simp (maxDischargeDepth:=12) only [go_sem,reduceCtorEq,g10,g11,Nat.lt_irrefl];exact .inl hJ
theorem Ij {fid:FuncId} {g:Operand} {params:Array Tmp} {pa:Tmp} (hpar:params.toList=[pa]) {assign body:Code} {M:List Nat} {Q:AExit->TT AV->Heap->List Nat->Prop} (h:RegIs H0 b o r V) (hO:Old H0.n H0 H)
 (hlo:lo<=H.n) (hg:Z4 PT T g=some (.fn 240 [] [.ptr c1 0,.ptr c2 0])) (h1:H.get c1=.cells [.ptr b o] 163) (h2:H.get c2=.cells [.str s] 9) (hc1:c1 < H.n) (hc2:c2 < H.n) (st:Pos->Bool) (E:AExit->Heap->Prop)
 (round:∀ p Hk m,p ∈ r.poss->XW s p=true->Hk.n=m+(H.n+2)->(∀ i,i < H.n->Hk.get i=H.get i) ->
   W PT lo fid true assign (JD T pa (.agg p.row)) Hk [] fun e T1 H1 M1=>e=.nrm/\(∀ j,H.n<=j->j < Hk.n->H1.get j=Hk.get j) /\
     ∀ rr,W PT lo fid true body T1 (H1.set (H.n+1) rr) M1 fun e T3 H3 _=>H3.get (H.n+1)=rr/\Hk.n<=H3.n/\(∀ j,H.n<=j->j < Hk.n->j ≠ H.n+1->H3.get j=Hk.get j) /\
       next e (st p=false /\ ∀ i,i < H.n->H3.get i=H.get i) (st p=true/\E e H3))
 (fin:∀ H4,(∀ i,i < H.n->H4.get i=H.get i)->(∀ p ∈ r.poss,XW s p=true->st p=false)->H4.get H.n=.defr->H.n+2<=H4.n->Q .nrm T H4 (H.n::M))
 (stop:∀ e H3 H4,e ≠ .nrm->E e H3->(∃ p ∈ r.poss,XW s p=true/\st p=true)->(∀ i,i ≠ H.n+1->H4.get i=H3.get i)->H3.get H.n=.defr->Q e T H4 (H.n::M)) :
 W PT lo fid false (.rangeFunc g params assign body) T H M Q:=by
 refine Ph hg ?_
 let r0:ALoop:=⟨fid,T,params.toList,assign,body,.ready,none,H.n⟩
 let J:Nat->Heap->Prop:=fun k H'=>((∀ i,i < H.n->H'.get i=H.get i) /\ ∀ j p,j < k->r.poss[j]? = some p->XW s p=true->st p=false)/\H'.get H.n=.defr/\H'.get (H.n+1)=.loop r0/\H.n+2<=H'.n
 let EE:Heap->Prop:=fun H'=>(∃ p ∈ r.poss,XW s p=true/\st p=true) /\ ∃ e H3,e ≠ .nrm/\E e H3/\H3.get H.n=.defr/\H'=H3.set (H.n+1) (.loop { r0 with state:=.done,pending:=some e })
 have hrun:∃ v H',R PT (.call lo 240 [.yld (H.n+1),.ptr c1 0,.ptr c2 0] ((H.push .defr).push (.loop r0)))=some (.ofVal v H')/\(J r.poss.length H'\/EE H'):=by
  refine Z81 (s:=s) (lo:=lo) (y:=H.n+1) (c1:=c1) (c2:=c2) (base:=H.n+2) (H:=(H.push .defr).push (.loop r0)) h (by omega) (by have:=hO.1;omega) J EE ?_ ?_ ?_ ?_ ?_ (by omega) (by omega) ?_ ?_ ?_ ?_
  . refine ⟨⟨fun i hi => ?_,fun j p hj=>by omega⟩, ?_, ?_,by simp⟩
    . rw [Heap.get_push,if_neg (by simp;omega),Heap.get_push,if_neg (by omega)]
    . rw [Heap.get_push,if_neg (by simp),Heap.get_push,if_pos rfl]
    . rw [Heap.get_push,if_pos (by simp)]
  . simp
  . rintro k H' ⟨⟨j1,_⟩,_,_,j4⟩;exact ⟨by have:=hO.1;omega,fun i hi=>by rw [j1 i (lt_of_lt_of_le hi hO.1),hO.2 i hi]⟩
  . rintro k H' ⟨⟨j1,_⟩,_⟩;rw [j1 c1 hc1];exact h1
  . rintro k H' ⟨⟨j1,_⟩,_⟩;rw [j1 c2 hc2];exact h2
  . rintro k H' x ⟨⟨j1,hg1⟩,j2,j3,j4⟩ _;exact ⟨⟨fun i hi=>by rw [Heap.get_push,if_neg (by omega)];exact j1 i hi,hg1⟩,by rw [Heap.get_push,if_neg (by omega)];exact j2,by rw [Heap.get_push,if_neg (by omega)];exact j3,by simp;omega⟩
  . rintro k H' x j ⟨⟨j1,hg1⟩,j2,j3,j4⟩ hj;exact ⟨⟨fun i hi=>by rw [Heap.get_set,if_neg (by omega)];exact j1 i hi,hg1⟩,by rw [Heap.get_set,if_neg (by omega)];exact j2,by rw [Heap.get_set,if_neg (by omega)];exact j3,by simp;omega⟩
  . rintro k p H' hp ho ⟨⟨j1,hg1⟩,j2⟩;refine ⟨⟨j1,fun j q hj hq hoq => ?_⟩,j2⟩;by_cases hjk:j=k
    . subst hjk;rw [hp] at hq;cases hq;rw [ho] at hoq;cases hoq
    . exact hg1 j q (by omega) hq hoq
  . rintro k p Hk hp ho ⟨⟨j1,hg1⟩,j2,j3,j4⟩ _;have hmem:=mem_of_getElem? hp;have hrd:=round p Hk (Hk.n - (H.n+2)) hmem ho (by omega) j1;have hW:W PT lo fid true assign (QV params.toList [.agg p.row] T) Hk [] fun e T1 H1 M1=>e=.nrm/\H1.get (H.n+1)=.loop r0 /\
     W PT lo fid true body T1 (H1.set (H.n+1) (.loop { r0 with state:=.busy })) M1 fun e T2 H2 M2=>H2.get (H.n+1)=.loop { r0 with state:=.busy } /\
       next e (((if true then J (k+1) (H2.set (H.n+1) (.loop { r0 with state:=.ready,pending:=none })) else EE (H2.set (H.n+1) (.loop { r0 with state:=.ready,pending:=none })))/\Hk.n<=(H2.set (H.n+1) (.loop { r0 with state:=.ready,pending:=none })).n /\ ∀ j,H.n+2<=j->j < Hk.n->(H2.set (H.n+1) (.loop { r0 with state:=.ready,pending:=none })).get j=Hk.get j))
        (((if false=true then J (k+1) (H2.set (H.n+1) (.loop { r0 with state:=.done,pending:=some e })) else EE (H2.set (H.n+1) (.loop { r0 with state:=.done,pending:=some e })))/\Hk.n<=(H2.set (H.n+1) (.loop { r0 with state:=.done,pending:=some e })).n /\ ∀ j,H.n+2<=j->j < Hk.n->(H2.set (H.n+1) (.loop { r0 with state:=.done,pending:=some e })).get j=Hk.get j)):=by
     rw [hpar];refine G6 hrd fun e T1 H1 M1 ⟨he,hk1,hb⟩=>⟨he, ?_,G6 (hb _) fun e T3 H3 M3 ⟨q1,q2,q3,q4⟩=>⟨q1, ?_⟩⟩
     . rw [hk1 _ (by omega) (by omega)];exact j3
     . have hd:H3.get H.n=.defr:=by rw [q3 _ (Nat.le_refl _) (by omega) (by omega)];exact j2
       have keep:∀ x j,H.n+2<=j->j < Hk.n->(H3.set (H.n+1) x).get j=Hk.get j:=fun x j hj hj2=>by
        rw [Heap.get_set,if_neg (by omega)];exact q3 j (by omega) hj2 (by omega)
       cases e with
       | nrm =>
         refine ⟨⟨⟨fun i hi => ?_,fun j q hj hq hoq => ?_⟩, ?_, ?_,by simp;omega⟩,by simpa using q2,keep _⟩
         . rw [Heap.get_set,if_neg (by omega)];exact q4.2 i hi
         . by_cases hjk:j=k
           . subst hjk;rw [hp] at hq;cases hq;exact q4.1
           . exact hg1 j q (by omega) hq hoq
         . rw [Heap.get_set,if_neg (by omega)];exact hd
         . rw [Heap.get_set,if_pos rfl]
       | ext i=>exact ⟨⟨⟨p,hmem,ho,q4.1⟩,_,_,by simp,q4.2,hd,rfl⟩,by simpa using q2,keep _⟩
       | gto i=>exact ⟨⟨⟨p,hmem,ho,q4.1⟩,_,_,by simp,q4.2,hd,rfl⟩,by simpa using q2,keep _⟩
       | ret=>exact ⟨⟨⟨p,hmem,ho,q4.1⟩,_,_,by simp,q4.2,hd,rfl⟩,by simpa using q2,keep _⟩
    obtain ⟨v,H',e1,e2,e3,e4⟩:=Pg (C:=PT) (r0:=r0) j3 rfl (by show params.toList.length=1;rw [hpar];rfl) (by omega:lo<=H.n+1) (Y:=fun v H'=>(if v then J (k+1) H' else EE H')/\Hk.n<=H'.n /\ ∀ j,H.n+2<=j->j < Hk.n->H'.get j=Hk.get j) hW
    exact ⟨v,H',e1,e2,e3,e4⟩
 obtain ⟨v,H',hr,hJ⟩:=hrun;refine ⟨v,H',hr, ?_⟩;rcases hJ with ⟨⟨j1,hg1⟩,j2,j3,j4⟩ | ⟨hst,e,H3,he,j1,j2,rfl⟩
 . refine ⟨r0,j3,by simp [r0], ?_⟩;refine fin _ (fun i hi=>by rw [Heap.get_set,if_neg (by omega)];exact j1 i hi) (fun p hp ho => ?_) (by rw [Heap.get_set,if_neg (by omega)];exact j2) (by simp;omega);obtain ⟨j,hj⟩:=mem_iff_getElem?.1 hp;exact hg1 j p (List.getElem?_eq_some_iff.1 hj).1 hj ho
 . refine ⟨_,by rw [Heap.get_set,if_pos rfl],by simp, ?_⟩;exact stop e H3 _ he j1 hst (fun i hi=>by rw [Heap.get_set,if_neg hi,Heap.get_set,if_neg hi]) j2
theorem en112:ZY 112:=Y0
theorem en272:ZY 272:=Y0
theorem Z82 {H:Heap} (h:RegIs H b o r V) (s:Nm):∃ w H2,R PT (.call H.n 112 [.ptr b o,.str s] H)=some (.ofVal w H2)/\w=.bool (r.taken s):=by
 refine Zd (C:=PT) (f:=112) (lo:=H.n) (args:=[.ptr b o,.str s]) (H:=H) (fn:=Tryz.f112) (Q:=fun w _=>w=.bool (r.taken s)) (by kernel_rfl) Tryz.func112 rfl rfl ?_;simp (maxDischargeDepth:=12) only [go_sem,reduceEqDiff,reduceAdd,reduceCtorEq,Ii];have hO:Old H.n H (((H.push (.cells [.bool false] 4)).push (.cells [.ptr b o] 163)).push (.cells [.str s] 9)):=(((Old.refl H).push _).push _).push _;have hs:r.taken s=r.poss.any (XW s):=rfl;generalize hK:((H.push (.cells [.bool false] 4)).push (.cells [.ptr b o] 163)).push (.cells [.str s] 9)=Hk at *;have g0:Hk.get H.n=.cells [.bool false] 4:=by rw [<- hK,Heap.get_push,if_neg (by simp only [Heap.n_push];omega),Cm]
 have g1:Hk.get (H.n+1)=.cells [.ptr b o] 163:=by rw [<- hK,Heap.get_push,if_neg (by simp only [Heap.n_push];omega),I9]
 have g2:Hk.get (H.n+1+1)=.cells [.str s] 9:=by rw [<- hK];exact Vr
 have hn:Hk.n=H.n+3:=by rw [<- hK];rfl
 refine Ij (pa:=8) rfl h hO hO.1 (by simp (maxDischargeDepth:=12) only [go_sem,reduceEqDiff,reduceCtorEq]) g1 g2 (by omega) (by omega) (fun _=>true) (fun e H3=>e=.ret/\H3.get H.n=.cells [.bool true] 4) ?_ ?_ ?_
 . intro p Hq m hp ho hm hg;have q0:=hg H.n (by omega);rw [g0] at q0;have hlt:(H.n=Hk.n+1)=False:=eq_false (by omega);have hlt2:(Hk.n+1=H.n)=False:=eq_false (by omega);simp (maxDischargeDepth:=12) only [go_sem,reduceAdd,reduceCtorEq,q0,hlt,hlt2];refine ⟨fun _ _ _=>trivial,fun rr j h1 h2 h3 => ?_⟩;rw [if_neg (by omega),if_neg h3]
 . intro H4 hg hst hd hn4;have q0:=hg H.n (by omega);rw [g0] at q0;have hne:(Hk.n=H.n)=False:=eq_false (by omega);have hne2:(H.n=Hk.n)=False:=eq_false (by omega);have hf:r.poss.any (XW s)=false:=by
    rw [any_eq_false];intro p hp hop;have:=hst p hp hop;cases this
   simp (maxDischargeDepth:=12) only [go_sem,reduceAdd,reduceCtorEq,q0,Ga,hd,hne,hne2,hs,hf]
 . rintro e H3 H4 he ⟨rfl,h3⟩ ⟨p,hp,hop,_⟩ hg hd;have q0:=hg H.n (by omega);rw [h3] at q0;have qd:=hg Hk.n (by omega);rw [hd] at qd;have hne2:(H.n=Hk.n)=False:=eq_false (by omega);have hf:r.poss.any (XW s)=true:=by
    rw [any_eq_true];exact ⟨p,hp,hop⟩
   simp (maxDischargeDepth:=12) only [go_sem,reduceCtorEq,q0,Ga,qd,hne2,hs,hf]
theorem Z83 {H:Heap} (h:RegIs H b o r V) (s:Nm) (ho:Old H.n H Hc) {lo:Nat} {K:AV->Heap->Prop}:VO (Z9 PT (R PT) lo 112 [.ptr b o,.str s] Hc) K=K (.bool (r.taken s)) Hc:=by
 obtain ⟨w,H2,h1,h2⟩:=Z82 (h.old ho) s;exact ZX (en112 rfl) ⟨H2,h1⟩ (by rw [h2];rfl) rfl
def scp (Q:AExit->TT AV->Heap->List Nat->Prop) (e:AExit) (T:TT AV) (H:Heap) (M:List Nat) (_t:Tag Q:=⟨⟩):Prop:=match e with
 | .gto _=>False
 | e=>Q e T H M
section
variable {C:Cfg} {lo:Nat} {fid:FuncId} {rnd:Bool} {T:TT AV} {H:Heap} {M:List Nat} {Q:AExit->TT AV->Heap->List Nat->Prop}
theorem Z84:scp Q .nrm T H M=Q .nrm T H M:=rfl
theorem Z85:scp Q .ret T H M=Q .ret T H M:=rfl
theorem Z86 (i:Nat):scp Q (.ext i) T H M=Q (.ext i) T H M:=rfl
theorem Z87 (b:Code):W C lo fid rnd (.scope b) T H M Q=W C lo fid rnd b T H M fun e T H M=>scp Q e T H M:=by
 unfold W;rw [N7];cases h:R C (.code lo fid rnd b ⟨T,H,M⟩) with
 | none=>rfl
 | some o =>
   obtain ⟨e,s⟩:=o;cases e<;>rfl
end
attribute [go_sem ↓] Z84 Z85 Z86 Z87 Ng
theorem Ik:Qa NC.P 100 57=true:=by kernel_rfl
theorem Il (a b c d:Int):Y5 NC.P 100 57 (.agg [.int .i64 a,.int .i64 b]) (.agg [.int .i64 c,.int .i64 d])=some (decide (a=c) && decide (b=d)):=by
 have h2:Y5 NC.P 100 57 (.agg [.int .i64 a,.int .i64 b]) (.agg [.int .i64 c,.int .i64 d])=match eqI a c with
  | true=>(match eqI b d with
    | true=>some true
    | false=>some false)
  | false=>some false:=by kernel_rfl
 rw [h2,U1,U1];by_cases c1:a=c<;>by_cases c2:b=d<;>simp [c1,c2]
def ovP (p:Pos) (a b:Int):Bool:=decide (p.frm=a) && decide (p.to=b) || decide (KA p.frm a < minI p.to b)
def ovR (r:Reg) (t:Nm) (a b:Int):Bool:=r.poss.any fun p=>XW t p && ovP p a b
theorem Z88 {H:Heap} (h:RegIs H b o r V) (s:Nm) (x y:Int):∃ w H2,R PT (.call H.n 272 [.ptr b o,.str s,.agg [.int .i64 x,.int .i64 y]] H)=some (.ofVal w H2)/\w=.bool (ovR r s x y):=by
 refine Zd (C:=PT) (f:=272) (lo:=H.n) (args:=[.ptr b o,.str s,.agg [.int .i64 x,.int .i64 y]]) (H:=H) (fn:=Tryz.f272) (Q:=fun w _=>w=.bool (ovR r s x y)) (by kernel_rfl) Tryz.func272 rfl rfl ?_;simp (maxDischargeDepth:=12) only [go_sem,reduceEqDiff,reduceAdd,reduceCtorEq,Ii];have hO:Old H.n H (((((H.push (.cells [.int .i64 x,.int .i64 y] 57)).push (.cells [.bool false] 4)).set (H.n+1) (.cells [.bool false] 4)).push (.cells [.ptr b o] 163)).push (.cells [.str s] 9)):=(((((Old.refl H).push _).push _).set (by omega) _).push _).push _;generalize hK:((((H.push (.cells [.int .i64 x,.int .i64 y] 57)).push (.cells [.bool false] 4)).set (H.n+1) (.cells [.bool false] 4)).push (.cells [.ptr b o] 163)).push (.cells [.str s] 9)=Hk at *;have g0:Hk.get H.n=.cells [.int .i64 x,.int .i64 y] 57:=by rw [<- hK];simp (maxDischargeDepth:=12) only [go_sem]
 have g1:Hk.get (H.n+1)=.cells [.bool false] 4:=by rw [<- hK];simp (maxDischargeDepth:=12) only [go_sem]
 have g2:Hk.get (H.n+1+1)=.cells [.ptr b o] 163:=by rw [<- hK];simp (maxDischargeDepth:=12) only [go_sem]
 have g3:Hk.get (H.n+1+1+1)=.cells [.str s] 9:=by rw [<- hK];simp (maxDischargeDepth:=12) only [go_sem]
 have hn:Hk.n=H.n+4:=by rw [<- hK];rfl
 refine Ij (pa:=12) (c1:=H.n+1+1) (c2:=H.n+1+1+1) rfl h hO hO.1 (by simp (maxDischargeDepth:=12) only [go_sem,reduceEqDiff,reduceCtorEq]) g2 g3 (by omega) (by omega) (fun p=>ovP p x y) (fun e H3=>e=.ext 0/\H3.get (H.n+1)=.cells [.bool true] 4) ?_ ?_ ?_
 . intro p Hq m hp ho hm hg;have q0:=hg H.n (by omega);rw [g0] at q0;have q1:=hg (H.n+1) (by omega);rw [g1] at q1;have e0:(H.n=Hk.n+1)=False:=eq_false (by omega);have e1:(H.n+1=Hk.n+1)=False:=eq_false (by omega);have e2:(H.n=Hq.n)=False:=eq_false (by omega);have e3:(H.n+1=Hq.n)=False:=eq_false (by omega);have e4:(Hk.n+1=Hq.n)=False:=eq_false (by omega);have e5:(Hq.n=Hk.n+1)=False:=eq_false (by omega);have e6:(Hk.n+1=H.n+1)=False:=eq_false (by omega);have e7:(Hq.n=H.n+1)=False:=eq_false (by omega);have hle:(H.n<=Hq.n)=True:=eq_true (by omega);have hov:ovP p x y=(decide (p.frm=x) && decide (p.to=y) || decide (KA p.frm x < minI p.to y)):=rfl;obtain ⟨nm,tr,fa,fb,re,pr,op,cl,pe,sp⟩:=p;simp only at hov;rcases Classical.propComplete (fa=x) with c1 | c1<;>rcases Classical.propComplete (fb=y) with c2 | c2<;>rcases Classical.propComplete (KA fa x < minI fb y) with c3 | c3
   all_goals
    simp only [c1,c2,c3,decide_true,decide_false,Bool.and_true,Bool.and_false,Bool.or_true,Bool.or_false] at hov;simp (maxDischargeDepth:=12) only [go_sem,reduceEqDiff,reduceAdd,reduceLeDiff,reduceCtorEq,Pos.Pos.row,q0,q1,e0,e1,e2,e3,e4,e5,e6,hle,Ik,Il,c1,c2,c3,hov];refine ⟨fun j h1 h2=>by rw [if_neg (by omega),if_neg (by omega)],fun rr => ?_⟩
    first
    | exact fun j h1 h2 h3=>by rw [if_neg (by omega),if_neg h3,if_neg (by omega),if_neg (by omega)]
    | exact ⟨fun j h1 h2 h3=>by rw [if_neg h3,if_neg (by omega),if_neg (by omega)],fun i hi=>by rw [if_neg (by omega),if_neg (by omega),if_neg (by omega)];exact hg i hi⟩
 . intro H4 hg hst hd hn4;have q1:=hg (H.n+1) (by omega);rw [g1] at q1;have hne:(Hk.n=H.n+1)=False:=eq_false (by omega);have hne2:(H.n+1=Hk.n)=False:=eq_false (by omega);have hf:ovR r s x y=false:=by
    unfold ovR;rw [any_eq_false];intro p hp hop;rw [and_eq_true] at hop;have:=hst p hp hop.1;rw [hop.2] at this;cases this
   simp (maxDischargeDepth:=12) only [go_sem,reduceEqDiff,reduceCtorEq,q1,Ga,hd,hf]
 . rintro e H3 H4 he ⟨rfl,h3⟩ ⟨p,hp,hop,hov⟩ hg hd;have q1:=hg (H.n+1) (by omega);rw [h3] at q1;have qd:=hg Hk.n (by omega);rw [hd] at qd;have hne2:(H.n+1=Hk.n)=False:=eq_false (by omega);have hf:ovR r s x y=true:=by
    unfold ovR;rw [any_eq_true];exact ⟨p,hp,by rw [hop,hov];rfl⟩
   simp (maxDischargeDepth:=12) only [go_sem,reduceEqDiff,reduceCtorEq,q1,Ga,qd,hf]
theorem Z89 {H:Heap} (h:RegIs H b o r V) (s:Nm) (x y:Int) (ho:Old H.n H Hc) {lo:Nat} {K:AV->Heap->Prop}:VO (Z9 PT (R PT) lo 272 [.ptr b o,.str s,.agg [.int .i64 x,.int .i64 y]] Hc) K=K (.bool (ovR r s x y)) Hc:=by
 obtain ⟨w,H2,h1,h2⟩:=Z88 (h.old ho) s x y;exact ZX (en272 rfl) ⟨H2,h1⟩ (by rw [h2];rfl) rfl
def Zp (r:Reg):List Nat->List Nm->Bool->Int
 | [],_,tw=>Z5 tw 9
 | c::cs,x::xs,tw=>if (!decide (c < 97) && !decide (x ∈ Y3 r ((if c < 97 then c+32 else c:Nat):Int)))=true then 10 else Zp r cs xs (tw || (decide (c < 97) && decide (x ∈ Y3 r ((if c < 97 then c+32 else c:Nat):Int))))
 | _::_,[],_=>0
theorem Vt (r:Reg) (c:Nat) (cs:List Nat) (x:Nm) (xs:List Nm) (tw:Bool):Zp r (c::cs) (x::xs) tw=if (!decide (c < 97) && !decide (x ∈ Y3 r ((if c < 97 then c+32 else c:Nat):Int)))=true then 10 else Zp r cs xs (tw || (decide (c < 97) && decide (x ∈ Y3 r ((if c < 97 then c+32 else c:Nat):Int)))):=rfl
theorem Im (c:Int) (h1:r.tracks.length<=Z2) (h2:r.faults.length<=Z2) (h3:r.trains.length<=Z2) (h4:r.poss.length<=Z2) (h5:r.machs.length<=Z2):(Y3 r c).length<=Z2:=by
 unfold Y3;split
 . rw [length_map];exact h1
 split
 . rw [length_map];exact h2
 split
 . rw [length_map];exact h3
 split
 . rw [length_map];exact h4
 . rw [length_map];exact h5
theorem en231:ZY 231:=Y0
theorem Z8a (h:RegIs H b o r V) {l1 l2:List AV} {e:Ev} (hb:∀ c ∈ nm,c < 128) (hl:e.names.length=nm.length) (hs:nm.length<=2) (hcl:[AV.fn f1 [] l1,AV.fn f2 [] l2].map AV.strip0=[AV.fn f1 [] l1,AV.fn f2 [] l2]):∃ w H2,R PT (.call H.n 231 [.ptr b o,.agg [.str nm,i64 fv,.fn f1 [] l1,.fn f2 [] l2],.agg e.row] H)=some (.ofVal w H2)/\w=.int .i64 (Zp r nm e.names false):=by
 obtain ⟨num,kind,names,vals,text⟩:=e;simp only at hl;refine Zd (C:=PT) (f:=231) (lo:=H.n) (args:=[.ptr b o,.agg [.str nm,i64 fv,.fn f1 [] l1,.fn f2 [] l2],.agg (Pos.Ev.row ⟨num,kind,names,vals,text⟩)]) (H:=H) (fn:=Tryz.f231) (Q:=fun w _=>w=.int .i64 (Zp r nm names false)) (by kernel_rfl) Tryz.func231 rfl rfl ?_;simp (maxDischargeDepth:=12) only [go_sem,reduceEqDiff,reduceAdd,reduceCtorEq,Pos.Ev.row];have hmr:nm.length<=Z2:=Nat.le_trans hs (by unfold Z2;decide);refine ZP (fun k T Hc M=>M=[]/\Z1 T 0=.ptr b o/\Z1 T 4=.ptr H.n 0/\Z1 T 5=.ptr (H.n+1) 0/\Z1 T 14=i64 (nm.length:Nat)/\Z1 T 15=i64 k/\Old H.n H Hc/\H.n+2<=Hc.n/\Hc.get H.n=.cells [.str nm,.int .i64 fv,.fn f1 [] l1,.fn f2 [] l2] 175/\Hc.get (H.n+1)=.cells [.int .i64 num,.str kind,.ps .unk (Z0 names),.ps .unk (Z3 vals),.str text] 53 /\ ∃ tw,Z1 T 7=.bool tw/\Zp r nm names false=Zp r (nm.drop k) (names.drop k) tw) nm.length ?_ ?_ ?_
 . simp (maxDischargeDepth:=12) only [go_sem,reduceEqDiff,reduceCtorEq];exact ⟨false,rfl,rfl⟩
 . rintro k T Hc M hk ⟨rfl,g0,g4,g5,g14,g15,hO,hn,b4,b5,tw,g7,hsp⟩;obtain ⟨c,hc⟩:∃ x,nm[k]? = some x:=⟨nm[k],by simp⟩;obtain ⟨x,hx⟩:∃ x,names[k]? = some x:=⟨names[k]'(by omega),by simp⟩;have hw:=ZQ hk hmr;have hr:=JK hx;have hkn:k < names.length:=by omega
   have hcb:=hb c (mem_of_getElem? hc);have m1:=fun (cc:Int) Hc (ho:Old H.n H Hc) lo K=>Um h cc ho (lo:=lo) (K:=K)
   have hlen:=fun cc=>Im (r:=r) cc h.lT h.lF h.lR h.lP h.lM
   have hbn:(b < Hc.n)=True:=eq_true (lt_of_lt_of_le h.bn hO.1);rw [Vl hc,Vl hx] at hsp;rw [Vt] at hsp;have hwu:ZC .u8 (Int.add (c:Int) 32)=if c < 97 then ((c+32:Nat):Int) else ZC .u8 (Int.add (c:Int) 32):=by
    split
    . have e:Int.add (c:Int) 32=((c+32:Nat):Int):=by show (c:Int)+32=_;omega
      rw [e];unfold ZC inK;have:Nat.ble (c+32) (QT .u8)=true:=by simp [QT];omega
      simp only [this,cond_true]
    . rfl
   have hlt97:((c:Int) < 97)=(c < 97):=by simp only [eq_iff_iff];omega
   by_cases c1:c < 97
   . rw [if_pos c1] at hwu;simp only [c1,if_true,decide_true,Bool.not_true,Bool.false_and,false_eq_true,if_false,Bool.true_and] at hsp;by_cases c2:x ∈ Y3 r ((c+32:Nat):Int)
     . simp only [c2,decide_true,Bool.or_true] at hsp;cases tw
       all_goals
        simp (maxDischargeDepth:=12) only [go_sem,reduceEqDiff,reduceAdd,reduceSub,reduceCtorEq,g0,g4,g5,g7,g14,g15,hk,hc,hkn,Zv,hr,hw,b4,b5,hO,hbn,m1,hlen,hwu,hlt97,c1,c2];exact ⟨hn,_,rfl,hsp⟩
     . simp only [c2,decide_false,Bool.or_false] at hsp;cases tw
       all_goals
        simp (maxDischargeDepth:=12) only [go_sem,reduceEqDiff,reduceAdd,reduceSub,reduceCtorEq,g0,g4,g5,g7,g14,g15,hk,hc,hkn,Zv,hr,hw,b4,b5,hO,hbn,m1,hlen,hwu,hlt97,c1,c2];exact ⟨hn,_,rfl,hsp⟩
   . rw [if_neg c1] at hwu;simp only [c1,if_false,decide_false,Bool.not_false,Bool.true_and,Bool.false_and,Bool.or_false] at hsp;by_cases c2:x ∈ Y3 r (c:Int)
     . simp only [c2,decide_true,Bool.not_true,false_eq_true,if_false] at hsp;cases tw
       all_goals
        simp (maxDischargeDepth:=12) only [go_sem,reduceEqDiff,reduceAdd,reduceSub,reduceCtorEq,g0,g4,g5,g7,g14,g15,hk,hc,hkn,Zv,hr,hw,b4,b5,hO,hbn,m1,hlen,hlt97,c1,c2];exact ⟨hn,_,rfl,hsp⟩
     . simp only [c2,decide_false,Bool.not_false,if_true] at hsp;rw [hsp];simp (maxDischargeDepth:=12) only [go_sem,reduceEqDiff,reduceAdd,reduceSub,reduceCtorEq,g0,g4,g5,g14,g15,hk,hc,hkn,Zv,hr,b4,b5,hO,hbn,m1,hlen,hlt97,c1,c2]
 . rintro T Hc M ⟨rfl,g0,g4,g5,g14,g15,hO,hn,b4,b5,tw,g7,hsp⟩;rw [hsp,drop_length];simp (maxDischargeDepth:=12) only [go_sem,reduceEqDiff,reduceCtorEq,g7,g14,g15,Nat.lt_irrefl];rfl
theorem Z8b (lim:Nat) (k:IntKind):YI lim (.int k 2)=if 2 < lim then some 2 else none:=rfl
theorem Z8c (lim:Nat) (k:IntKind):YI lim (.int k 3)=if 3 < lim then some 3 else none:=rfl
attribute [go_sem] Z8b Z8c
abbrev evC (num:Int) (kind:Nm) (ns:List Nm) (vs:List Int) (text:Nm):List AV:=[.int .i64 num,.str kind,.ps .unk (Z0 ns),.ps .unk (Z3 vs),.str text]
theorem Z8d:Qa NC.P 100 73=true:=by kernel_rfl
theorem Z8e (a b c d:Int):Y5 NC.P 100 73 (.agg [.int .i64 a,.int .i64 b]) (.agg [.int .i64 c,.int .i64 d])=some (decide (a=c) && decide (b=d)):=by
 have h2:Y5 NC.P 100 73 (.agg [.int .i64 a,.int .i64 b]) (.agg [.int .i64 c,.int .i64 d])=match eqI a c with
  | true=>(match eqI b d with
    | true=>some true
    | false=>some false)
  | false=>some false:=by kernel_rfl
 rw [h2,U1,U1];by_cases c1:a=c<;>by_cases c2:b=d<;>simp [c1,c2]
theorem ab0:YC NC.P 73 []=some (.agg [.int .i64 0,.int .i64 0]):=by kernel_rfl
attribute [go_sem] Z8d Z8e ab0 Ik Il
structure At {α:Type} (nm:α->Nm) (l:List α) (s:Nm) (i:Nat) (y:α):Prop where
 idx:Xh s (l.map nm)=(i:Int)
 at':l[i]? = some y
 lt:i < l.length
 nm':nm y=s
theorem At.of {nm:α->Nm} {l:List α} {y:α} (h:(l.find? fun z=>decide (nm z=s))=some y):∃ i,At nm l s i y:=by
 obtain ⟨i,h1,h2,h3,h4⟩:=Vq h;exact ⟨i,h1,h2,h3,h4⟩
theorem en154:ZY 154:=Y0
theorem en156:ZY 156:=Y0
theorem en159:ZY 159:=Y0
theorem en161:ZY 161:=Y0
theorem en163:ZY 163:=Y0
theorem en165:ZY 165:=Y0
theorem en169:ZY 169:=Y0
theorem en271:ZY 271:=Y0
theorem In:ZY 273:=Y0
theorem en172:ZY 172:=Y0
theorem en175:ZY 175:=Y0
theorem en177:ZY 177:=Y0
theorem en182:ZY 182:=Y0
theorem en184:ZY 184:=Y0
theorem en186:ZY 186:=Y0
theorem en188:ZY 188:=Y0
theorem en190:ZY 190:=Y0
theorem en192:ZY 192:=Y0
theorem Z8f (h:RegIs H b o r V):∃ w H2,R PT (.call H.n 154 [.ptr b o,.agg (evC num kind [t] [tk,v] text)] H)=some (.ofVal w H2)/\w=.int .i64 (Zc [ZU v 1 400,Z5 (decide ((r.tracks.length:Int)=8)) 5]):=by
 refine Zd (C:=PT) (f:=154) (lo:=H.n) (args:=[.ptr b o,.agg (evC num kind [t] [tk,v] text)]) (H:=H) (fn:=Tryz.f154) (Q:=fun w _=>w=.int .i64 (Zc [ZU v 1 400,Z5 (decide ((r.tracks.length:Int)=8)) 5])) (by kernel_rfl) Tryz.func154 rfl rfl ?_;have l1:=fun H'=>h.l1 (H':=H')
 have l2:=fun H'=>h.l2 (H':=H')
 have l3:=fun H'=>h.l3 (H':=H')
 have l4:=fun H'=>h.l4 (H':=H')
 have l5:=fun H'=>h.l5 (H':=H')
 have nT:=fun H'=>h.sT.len (t:=43) (by kernel_rfl) H'
 have nF:=fun H'=>h.sF.len (t:=44) (by kernel_rfl) H'
 have nR:=fun H'=>h.sR.len (t:=45) (by kernel_rfl) H'
 have nP:=fun H'=>h.sP.len (t:=46) (by kernel_rfl) H'
 have nM:=fun H'=>h.sM.len (t:=47) (by kernel_rfl) H'
 simp only [length_map] at nT nF nR nP nM;have uT:=fun n (hn:H.n<=n)=>h.sT.under hn
 have uF:=fun n (hn:H.n<=n)=>h.sF.under hn
 have uR:=fun n (hn:H.n<=n)=>h.sR.under hn
 have uP:=fun n (hn:H.n<=n)=>h.sP.under hn
 have uM:=fun n (hn:H.n<=n)=>h.sM.under hn
 have hb:=eq_true h.bn;have en:(Z0 [t]).length=1:=rfl;have ei:(Z3 [tk,v]).length=2:=rfl;have en0:(Z0 [t])[0]? = some [.str t]:=rfl;have ei0:(Z3 [tk,v])[0]? = some [.int .i64 tk]:=rfl;have ei1:(Z3 [tk,v])[1]? = some [.int .i64 v]:=rfl;simp (maxDischargeDepth:=12) only [go_sem,reduceEqDiff,reduceAdd,reduceMul,reduceSub,reduceLeDiff,reduceCtorEq,ei,ei1,l1,nT]
theorem Z8g (h:RegIs H b o r V) {K:AV->Heap->Prop}:VO (Z9 PT (R PT) lo 154 [.ptr b o,.agg (evC num kind [t] [tk,v] text)] H) K=K (.int .i64 (Zc [ZU v 1 400,Z5 (decide ((r.tracks.length:Int)=8)) 5])) H:=by
 obtain ⟨w,H2,h1,h2⟩:=Z8f h ;exact ZX (en154 rfl) ⟨H2,h1⟩ (by rw [h2];rfl) rfl
theorem Z8h (h:RegIs H b o r V) {x y:Int}:∃ w H2,R PT (.call H.n 156 [.ptr b o,.agg (evC num kind [f,t] [tk,x,y,v] text)] H)=some (.ofVal w H2)/\w=.int .i64 (Zc [Pos.spanI x y,ZU v 0 400,Z5 (decide ((r.faults.length:Int)=64)) 5]):=by
 refine Zd (C:=PT) (f:=156) (lo:=H.n) (args:=[.ptr b o,.agg (evC num kind [f,t] [tk,x,y,v] text)]) (H:=H) (fn:=Tryz.f156) (Q:=fun w _=>w=.int .i64 (Zc [Pos.spanI x y,ZU v 0 400,Z5 (decide ((r.faults.length:Int)=64)) 5])) (by kernel_rfl) Tryz.func156 rfl rfl ?_;have l1:=fun H'=>h.l1 (H':=H')
 have l2:=fun H'=>h.l2 (H':=H')
 have l3:=fun H'=>h.l3 (H':=H')
 have l4:=fun H'=>h.l4 (H':=H')
 have l5:=fun H'=>h.l5 (H':=H')
 have nT:=fun H'=>h.sT.len (t:=43) (by kernel_rfl) H'
 have nF:=fun H'=>h.sF.len (t:=44) (by kernel_rfl) H'
 have nR:=fun H'=>h.sR.len (t:=45) (by kernel_rfl) H'
 have nP:=fun H'=>h.sP.len (t:=46) (by kernel_rfl) H'
 have nM:=fun H'=>h.sM.len (t:=47) (by kernel_rfl) H'
 simp only [length_map] at nT nF nR nP nM;have uT:=fun n (hn:H.n<=n)=>h.sT.under hn
 have uF:=fun n (hn:H.n<=n)=>h.sF.under hn
 have uR:=fun n (hn:H.n<=n)=>h.sR.under hn
 have uP:=fun n (hn:H.n<=n)=>h.sP.under hn
 have uM:=fun n (hn:H.n<=n)=>h.sM.under hn
 have hb:=eq_true h.bn;have en:(Z0 [f,t]).length=2:=rfl;have ei:(Z3 [tk,x,y,v]).length=4:=rfl;have en0:(Z0 [f,t])[0]? = some [.str f]:=rfl;have en1:(Z0 [f,t])[1]? = some [.str t]:=rfl;have ei0:(Z3 [tk,x,y,v])[0]? = some [.int .i64 tk]:=rfl;have ei1:(Z3 [tk,x,y,v])[1]? = some [.int .i64 x]:=rfl;have ei2:(Z3 [tk,x,y,v])[2]? = some [.int .i64 y]:=rfl;have ei3:(Z3 [tk,x,y,v])[3]? = some [.int .i64 v]:=rfl;have hsp:=Uk ⟨num,kind,[f,t],[tk,x,y,v],text⟩ (by show 3<=4;decide);simp only [Pos.Ev.row,getD_cons_succ,getD_cons_zero] at hsp;simp (maxDischargeDepth:=12) only [go_sem,reduceEqDiff,reduceAdd,reduceMul,reduceSub,reduceLeDiff,reduceCtorEq,ei,ei3,l2,nF,hsp]
theorem Z8i (h:RegIs H b o r V) {x y:Int} {K:AV->Heap->Prop}:VO (Z9 PT (R PT) lo 156 [.ptr b o,.agg (evC num kind [f,t] [tk,x,y,v] text)] H) K=K (.int .i64 (Zc [Pos.spanI x y,ZU v 0 400,Z5 (decide ((r.faults.length:Int)=64)) 5])) H:=by
 obtain ⟨w,H2,h1,h2⟩:=Z8h h ;exact ZX (en156 rfl) ⟨H2,h1⟩ (by rw [h2];rfl) rfl
theorem Z8j (h:RegIs H b o r V) {y:Flt} (hf:At (·.name) r.faults f i y):∃ w H2,R PT (.call H.n 159 [.ptr b o,.agg (evC num kind [f] [tk] text)] H)=some (.ofVal w H2)/\w=.int .i64 (Zc [Z5 y.rep 23,Z5 y.ans 9]):=by
 refine Zd (C:=PT) (f:=159) (lo:=H.n) (args:=[.ptr b o,.agg (evC num kind [f] [tk] text)]) (H:=H) (fn:=Tryz.f159) (Q:=fun w _=>w=.int .i64 (Zc [Z5 y.rep 23,Z5 y.ans 9])) (by kernel_rfl) Tryz.func159 rfl rfl ?_;have l1:=fun H'=>h.l1 (H':=H')
 have l2:=fun H'=>h.l2 (H':=H')
 have l3:=fun H'=>h.l3 (H':=H')
 have l4:=fun H'=>h.l4 (H':=H')
 have l5:=fun H'=>h.l5 (H':=H')
 have nT:=fun H'=>h.sT.len (t:=43) (by kernel_rfl) H'
 have nF:=fun H'=>h.sF.len (t:=44) (by kernel_rfl) H'
 have nR:=fun H'=>h.sR.len (t:=45) (by kernel_rfl) H'
 have nP:=fun H'=>h.sP.len (t:=46) (by kernel_rfl) H'
 have nM:=fun H'=>h.sM.len (t:=47) (by kernel_rfl) H'
 simp only [length_map] at nT nF nR nP nM;have uT:=fun n (hn:H.n<=n)=>h.sT.under hn
 have uF:=fun n (hn:H.n<=n)=>h.sF.under hn
 have uR:=fun n (hn:H.n<=n)=>h.sR.under hn
 have uP:=fun n (hn:H.n<=n)=>h.sP.under hn
 have uM:=fun n (hn:H.n<=n)=>h.sM.under hn
 have hb:=eq_true h.bn;have en:(Z0 [f]).length=1:=rfl;have ei:(Z3 [tk]).length=1:=rfl;have en0:(Z0 [f])[0]? = some [.str f]:=rfl;have ei0:(Z3 [tk])[0]? = some [.int .i64 tk]:=rfl;obtain ⟨id,he,hP⟩:=el_F h hf.at';have e1:=fun Hc (ho:Old H.n H Hc) lo K=>Gp h hf.idx hf.lt ho (lo:=lo) (K:=K)
 simp (maxDischargeDepth:=12) only [go_sem,reduceEqDiff,reduceAdd,reduceMul,reduceSub,reduceLeDiff,reduceCtorEq,en,en0,he,hP.f5,hP.f6,e1]
theorem Z8k (h:RegIs H b o r V) {y:Flt} (hf:At (·.name) r.faults f i y) {K:AV->Heap->Prop}:VO (Z9 PT (R PT) lo 159 [.ptr b o,.agg (evC num kind [f] [tk] text)] H) K=K (.int .i64 (Zc [Z5 y.rep 23,Z5 y.ans 9])) H:=by
 obtain ⟨w,H2,h1,h2⟩:=Z8j h hf;exact ZX (en159 rfl) ⟨H2,h1⟩ (by rw [h2];rfl) rfl
theorem Z8l (h:RegIs H b o r V) (hf:At (·.name) r.poss p i y):∃ w H2,R PT (.call H.n 192 [.ptr b o,.agg (evC num kind [p] [tk,v] text)] H)=some (.ofVal w H2)/\w=.int .i64 (Zc [Z5 (!y.ret) 22,ZU v 0 400,Z5 (decide (v<=y.speed)) 21]):=by
 refine Zd (C:=PT) (f:=192) (lo:=H.n) (args:=[.ptr b o,.agg (evC num kind [p] [tk,v] text)]) (H:=H) (fn:=Tryz.f192) (Q:=fun w _=>w=.int .i64 (Zc [Z5 (!y.ret) 22,ZU v 0 400,Z5 (decide (v<=y.speed)) 21])) (by kernel_rfl) Tryz.func192 rfl rfl ?_;have l1:=fun H'=>h.l1 (H':=H')
 have l2:=fun H'=>h.l2 (H':=H')
 have l3:=fun H'=>h.l3 (H':=H')
 have l4:=fun H'=>h.l4 (H':=H')
 have l5:=fun H'=>h.l5 (H':=H')
 have nT:=fun H'=>h.sT.len (t:=43) (by kernel_rfl) H'
 have nF:=fun H'=>h.sF.len (t:=44) (by kernel_rfl) H'
 have nR:=fun H'=>h.sR.len (t:=45) (by kernel_rfl) H'
 have nP:=fun H'=>h.sP.len (t:=46) (by kernel_rfl) H'
 have nM:=fun H'=>h.sM.len (t:=47) (by kernel_rfl) H'
 simp only [length_map] at nT nF nR nP nM;have uT:=fun n (hn:H.n<=n)=>h.sT.under hn
 have uF:=fun n (hn:H.n<=n)=>h.sF.under hn
 have uR:=fun n (hn:H.n<=n)=>h.sR.under hn
 have uP:=fun n (hn:H.n<=n)=>h.sP.under hn
 have uM:=fun n (hn:H.n<=n)=>h.sM.under hn
 have hb:=eq_true h.bn;have en:(Z0 [p]).length=1:=rfl;have ei:(Z3 [tk,v]).length=2:=rfl;have en0:(Z0 [p])[0]? = some [.str p]:=rfl;have ei0:(Z3 [tk,v])[0]? = some [.int .i64 tk]:=rfl;have ei1:(Z3 [tk,v])[1]? = some [.int .i64 v]:=rfl;obtain ⟨id,he,hP⟩:=Qn h hf.at';have e1:=fun Hc (ho:Old H.n H Hc) lo K=>JL h hf.idx hf.lt ho (lo:=lo) (K:=K)
 have hle:(!decide (y.speed < v))=decide (v<=y.speed):=by
  by_cases hc:v<=y.speed
  . have:¬ y.speed < v:=by omega
    simp [hc,this]
  . have:y.speed < v:=by omega
    simp [hc,this]
 simp (maxDischargeDepth:=12) only [go_sem,reduceEqDiff,reduceAdd,reduceMul,reduceSub,reduceLeDiff,reduceCtorEq,en,ei,en0,ei1,he,hP.f4,hP.f9,e1,hle]
theorem Z8m (h:RegIs H b o r V) (hf:At (·.name) r.poss p i y) {K:AV->Heap->Prop}:VO (Z9 PT (R PT) lo 192 [.ptr b o,.agg (evC num kind [p] [tk,v] text)] H) K=K (.int .i64 (Zc [Z5 (!y.ret) 22,ZU v 0 400,Z5 (decide (v<=y.speed)) 21])) H:=by
 obtain ⟨w,H2,h1,h2⟩:=Z8l h hf;exact ZX (en192 rfl) ⟨H2,h1⟩ (by rw [h2];rfl) rfl
theorem Z8n (h:RegIs H b o r V) {y:Trk} (hy:r.track? t=some y):∃ w H2,R PT (.call H.n 163 [.ptr b o,.agg (evC num kind [x,t] [tk,v] text)] H)=some (.ofVal w H2)/\w=.int .i64 (Zc [Z5 (r.taken t) 31,Z5 (r.silentOn t) 32,Z5 (decide (v < 1) || decide (r.permitted t < v)) 20,Z5 (decide ((r.trains.length:Int)=16)) 5]):=by
 refine Zd (C:=PT) (f:=163) (lo:=H.n) (args:=[.ptr b o,.agg (evC num kind [x,t] [tk,v] text)]) (H:=H) (fn:=Tryz.f163) (Q:=fun w _=>w=.int .i64 (Zc [Z5 (r.taken t) 31,Z5 (r.silentOn t) 32,Z5 (decide (v < 1) || decide (r.permitted t < v)) 20,Z5 (decide ((r.trains.length:Int)=16)) 5])) (by kernel_rfl) Tryz.func163 rfl rfl ?_;have l1:=fun H'=>h.l1 (H':=H')
 have l2:=fun H'=>h.l2 (H':=H')
 have l3:=fun H'=>h.l3 (H':=H')
 have l4:=fun H'=>h.l4 (H':=H')
 have l5:=fun H'=>h.l5 (H':=H')
 have nT:=fun H'=>h.sT.len (t:=43) (by kernel_rfl) H'
 have nF:=fun H'=>h.sF.len (t:=44) (by kernel_rfl) H'
 have nR:=fun H'=>h.sR.len (t:=45) (by kernel_rfl) H'
 have nP:=fun H'=>h.sP.len (t:=46) (by kernel_rfl) H'
 have nM:=fun H'=>h.sM.len (t:=47) (by kernel_rfl) H'
 simp only [length_map] at nT nF nR nP nM;have uT:=fun n (hn:H.n<=n)=>h.sT.under hn
 have uF:=fun n (hn:H.n<=n)=>h.sF.under hn
 have uR:=fun n (hn:H.n<=n)=>h.sR.under hn
 have uP:=fun n (hn:H.n<=n)=>h.sP.under hn
 have uM:=fun n (hn:H.n<=n)=>h.sM.under hn
 have hb:=eq_true h.bn;have en:(Z0 [x,t]).length=2:=rfl;have ei:(Z3 [tk,v]).length=2:=rfl;have en0:(Z0 [x,t])[0]? = some [.str x]:=rfl;have en1:(Z0 [x,t])[1]? = some [.str t]:=rfl;have ei0:(Z3 [tk,v])[0]? = some [.int .i64 tk]:=rfl;have ei1:(Z3 [tk,v])[1]? = some [.int .i64 v]:=rfl;have e1:=fun Hc (ho:Old H.n H Hc) lo K=>Z83 h t ho (lo:=lo) (K:=K)
 have e2:=fun Hc (ho:Old H.n H Hc) lo K=>Z7H h t ho (lo:=lo) (K:=K)
 have e3:=fun Hc (ho:Old H.n H Hc) lo K=>Z7K h hy ho (lo:=lo) (K:=K)
 rcases Classical.propComplete (v < 1) with c1 | c1
 all_goals
  simp (maxDischargeDepth:=12) only [go_sem,reduceEqDiff,reduceAdd,reduceMul,reduceSub,reduceLeDiff,reduceCtorEq,en,ei,en1,ei1,l3,nR,hb,e1,e2,e3,c1,decide_true,decide_false,Bool.true_or,Bool.false_or]
theorem Z8o (h:RegIs H b o r V) {y:Trk} (hy:r.track? t=some y) {K:AV->Heap->Prop}:VO (Z9 PT (R PT) lo 163 [.ptr b o,.agg (evC num kind [x,t] [tk,v] text)] H) K=K (.int .i64 (Zc [Z5 (r.taken t) 31,Z5 (r.silentOn t) 32,Z5 (decide (v < 1) || decide (r.permitted t < v)) 20,Z5 (decide ((r.trains.length:Int)=16)) 5])) H:=by
 obtain ⟨w,H2,h1,h2⟩:=Z8n h hy;exact ZX (en163 rfl) ⟨H2,h1⟩ (by rw [h2];rfl) rfl
theorem Z8p (h:RegIs H b o r V) {y:Flt} (hf:At (·.name) r.faults f i y) (hq:At (·.name) r.poss p j q) (hp:r.poss? q.name=some q):∃ w H2,R PT (.call H.n 161 [.ptr b o,.agg (evC num kind [f,p] [tk] text)] H)=some (.ofVal w H2)/\w=.int .i64 (Zc [Z5 y.rep 23,Z5 (q.ret || !decide (q.track=y.track) || (decide (y.frm < q.frm) || decide (q.to < y.to))) 21,Z5 (decide (((r.within q.name).length:Int)=0) && decide (q.pers=0)) 12]):=by
 refine Zd (C:=PT) (f:=161) (lo:=H.n) (args:=[.ptr b o,.agg (evC num kind [f,p] [tk] text)]) (H:=H) (fn:=Tryz.f161) (Q:=fun w _=>w=.int .i64 (Zc [Z5 y.rep 23,Z5 (q.ret || !decide (q.track=y.track) || (decide (y.frm < q.frm) || decide (q.to < y.to))) 21,Z5 (decide (((r.within q.name).length:Int)=0) && decide (q.pers=0)) 12])) (by kernel_rfl) Tryz.func161 rfl rfl ?_;have l1:=fun H'=>h.l1 (H':=H')
 have l2:=fun H'=>h.l2 (H':=H')
 have l3:=fun H'=>h.l3 (H':=H')
 have l4:=fun H'=>h.l4 (H':=H')
 have l5:=fun H'=>h.l5 (H':=H')
 have nT:=fun H'=>h.sT.len (t:=43) (by kernel_rfl) H'
 have nF:=fun H'=>h.sF.len (t:=44) (by kernel_rfl) H'
 have nR:=fun H'=>h.sR.len (t:=45) (by kernel_rfl) H'
 have nP:=fun H'=>h.sP.len (t:=46) (by kernel_rfl) H'
 have nM:=fun H'=>h.sM.len (t:=47) (by kernel_rfl) H'
 simp only [length_map] at nT nF nR nP nM;have uT:=fun n (hn:H.n<=n)=>h.sT.under hn
 have uF:=fun n (hn:H.n<=n)=>h.sF.under hn
 have uR:=fun n (hn:H.n<=n)=>h.sR.under hn
 have uP:=fun n (hn:H.n<=n)=>h.sP.under hn
 have uM:=fun n (hn:H.n<=n)=>h.sM.under hn
 have hb:=eq_true h.bn;have en:(Z0 [f,p]).length=2:=rfl;have ei:(Z3 [tk]).length=1:=rfl;have en0:(Z0 [f,p])[0]? = some [.str f]:=rfl;have en1:(Z0 [f,p])[1]? = some [.str p]:=rfl;have ei0:(Z3 [tk])[0]? = some [.int .i64 tk]:=rfl;obtain ⟨id,he,hP⟩:=el_F h hf.at';obtain ⟨ip,hep,hPp⟩:=Qn h hq.at';have e1:=fun Hc (ho:Old H.n H Hc) lo K=>Gp h hf.idx hf.lt ho (lo:=lo) (K:=K)
 have e2:=fun Hc (ho:Old H.n H Hc) lo K=>JL h hq.idx hq.lt ho (lo:=lo) (K:=K)
 have e3:=fun Hc (ho:Old H.n H Hc) lo K=>Cp h hp ho (lo:=lo) (K:=K)
 rcases Classical.propComplete (y.frm < q.frm) with c1 | c1<;>cases c2:q.ret<;>rcases Classical.propComplete (q.track=y.track) with c3 | c3
 all_goals
  simp (maxDischargeDepth:=12) only [go_sem,reduceEqDiff,reduceAdd,reduceMul,reduceSub,reduceLeDiff,reduceCtorEq,en,en0,en1,hb,he,hep,hP.f1,hP.f2,hP.f3,hP.f6,hPp.f0,hPp.f1,hPp.f2,hPp.f3,hPp.f4,e1,e2,e3,c1,c2,c3,Ys,decide_true,decide_false,Bool.true_or,Bool.false_or,Bool.or_true,Bool.or_false]
theorem Z8q (h:RegIs H b o r V) {y:Flt} (hf:At (·.name) r.faults f i y) (hq:At (·.name) r.poss p j q) (hp:r.poss? q.name=some q) {K:AV->Heap->Prop}:VO (Z9 PT (R PT) lo 161 [.ptr b o,.agg (evC num kind [f,p] [tk] text)] H) K=K (.int .i64 (Zc [Z5 y.rep 23,Z5 (q.ret || !decide (q.track=y.track) || (decide (y.frm < q.frm) || decide (q.to < y.to))) 21,Z5 (decide (((r.within q.name).length:Int)=0) && decide (q.pers=0)) 12])) H:=by
 obtain ⟨w,H2,h1,h2⟩:=Z8p h hf hq hp;exact ZX (en161 rfl) ⟨H2,h1⟩ (by rw [h2];rfl) rfl
theorem Z8r {f:Trn} (hid:id < H.n) (hg:H.get id=.cells [.str s] 9) {K:AV->Heap->Prop}:VO (Z9 PT (R PT) lo 271 [.agg [.str f.name,.str f.track,.int .i64 f.speed],.ptr id 0] H) K=K (.bool (decide (f.track=s))) H:=by
 obtain ⟨w,H2,h1,h2⟩:=Zd (C:=PT) (f:=271) (lo:=H.n) (args:=[.agg [.str f.name,.str f.track,.int .i64 f.speed],.ptr id 0]) (H:=H) (fn:=Tryz.f271) (Q:=fun w _=>w=.bool (decide (f.track=s))) (by kernel_rfl) Tryz.func271 rfl rfl (by
  have hne:(id=H.n)=False:=eq_false (by omega);simp (maxDischargeDepth:=12) only [go_sem,reduceEqDiff,reduceAdd,reduceCtorEq,hne,hg,Ys])
 exact ZX (en271 rfl) ⟨H2,h1⟩ (by rw [h2];rfl) rfl
theorem Z8s (h:RegIs H b o r V) {x y:Int}:∃ w H2,R PT (.call H.n 169 [.ptr b o,.agg (evC num kind [p,t] [tk,x,y] text)] H)=some (.ofVal w H2)/\w=.int .i64 (Zc [Pos.spanI x y,Z5 (r.manned t) 31,Z5 (ovR r t x y) 15,Z5 (decide ((r.poss.length:Int)=16)) 5]):=by
 refine Zd (C:=PT) (f:=169) (lo:=H.n) (args:=[.ptr b o,.agg (evC num kind [p,t] [tk,x,y] text)]) (H:=H) (fn:=Tryz.f169) (Q:=fun w _=>w=.int .i64 (Zc [Pos.spanI x y,Z5 (r.manned t) 31,Z5 (ovR r t x y) 15,Z5 (decide ((r.poss.length:Int)=16)) 5])) (by kernel_rfl) Tryz.func169 rfl rfl ?_;have l1:=fun H'=>h.l1 (H':=H')
 have l2:=fun H'=>h.l2 (H':=H')
 have l3:=fun H'=>h.l3 (H':=H')
 have l4:=fun H'=>h.l4 (H':=H')
 have l5:=fun H'=>h.l5 (H':=H')
 have nT:=fun H'=>h.sT.len (t:=43) (by kernel_rfl) H'
 have nF:=fun H'=>h.sF.len (t:=44) (by kernel_rfl) H'
 have nR:=fun H'=>h.sR.len (t:=45) (by kernel_rfl) H'
 have nP:=fun H'=>h.sP.len (t:=46) (by kernel_rfl) H'
 have nM:=fun H'=>h.sM.len (t:=47) (by kernel_rfl) H'
 simp only [length_map] at nT nF nR nP nM;have uT:=fun n (hn:H.n<=n)=>h.sT.under hn
 have uF:=fun n (hn:H.n<=n)=>h.sF.under hn
 have uR:=fun n (hn:H.n<=n)=>h.sR.under hn
 have uP:=fun n (hn:H.n<=n)=>h.sP.under hn
 have uM:=fun n (hn:H.n<=n)=>h.sM.under hn
 have hb:=eq_true h.bn;have en:(Z0 [p,t]).length=2:=rfl;have ei:(Z3 [tk,x,y]).length=3:=rfl;have en0:(Z0 [p,t])[0]? = some [.str p]:=rfl;have en1:(Z0 [p,t])[1]? = some [.str t]:=rfl;have ei0:(Z3 [tk,x,y])[0]? = some [.int .i64 tk]:=rfl;have ei1:(Z3 [tk,x,y])[1]? = some [.int .i64 x]:=rfl;have ei2:(Z3 [tk,x,y])[2]? = some [.int .i64 y]:=rfl;have hsp:=Uk ⟨num,kind,[p,t],[tk,x,y],text⟩ (by show 3<=3;decide);simp only [Pos.Ev.row,getD_cons_succ,getD_cons_zero] at hsp;have e1:=fun Hc (ho:Old H.n H Hc) lo K=>Z89 h t x y ho (lo:=lo) (K:=K)
 have e2:∀ Hc,Old H.n H Hc->H.n+1+1 < Hc.n->Hc.get (H.n+1+1)=.cells [.str t] 9 -> ∀ lo K,VO (Z9 PT (R PT) lo 270 [ZV V.vR,.fn 271 [] [.ptr (H.n+1+1) 0]] Hc) K=K (.bool (r.manned t)) Hc:=fun Hc ho hlt hg lo K =>
  Z7C (h.sR.old ho) h.lR rfl (fun x _ H2 ho2 lo K=>Z8r (lt_of_lt_of_le hlt ho2.1) (by rw [ho2.2 _ hlt,hg]))
 simp (maxDischargeDepth:=12) only [go_sem,reduceEqDiff,reduceAdd,reduceMul,reduceSub,reduceLeDiff,reduceCtorEq,en,en1,l3,l4,nP,hb,hsp,e1,e2]
theorem Z8t (h:RegIs H b o r V) {x y:Int} {K:AV->Heap->Prop}:VO (Z9 PT (R PT) lo 169 [.ptr b o,.agg (evC num kind [p,t] [tk,x,y] text)] H) K=K (.int .i64 (Zc [Pos.spanI x y,Z5 (r.manned t) 31,Z5 (ovR r t x y) 15,Z5 (decide ((r.poss.length:Int)=16)) 5])) H:=by
 obtain ⟨w,H2,h1,h2⟩:=Z8s h ;exact ZX (en169 rfl) ⟨H2,h1⟩ (by rw [h2];rfl) rfl
theorem Io (h:RegIs H b o r V) {ns:List Nm} {K:AV->Heap->Prop}:VO (Z9 PT (R PT) lo 165 [.ptr b o,.agg (evC num kind ns vs text)] H) K=K (.int .i64 0) H:=by
 obtain ⟨w,H2,h1,h2⟩:=Zd (C:=PT) (f:=165) (lo:=H.n) (args:=[.ptr b o,.agg (evC num kind ns vs text)]) (H:=H) (fn:=Tryz.f165) (Q:=fun w _=>w=.int .i64 0) (by kernel_rfl) Tryz.func165 rfl rfl (by simp (maxDischargeDepth:=12) only [go_sem,reduceAdd,reduceCtorEq]);exact ZX (en165 rfl) ⟨H2,h1⟩ (by rw [h2];rfl) rfl
theorem Z8u (h:RegIs H b o r V) (hP:PtP H id off y):∃ w H2,R PT (.call H.n 172 [.ptr b o,.ptr id off,.agg (evC num kind [p] [tk] text)] H)=some (.ofVal w H2)/\w=.int .i64 (Z5 y.prot 9):=by
 refine Zd (C:=PT) (f:=172) (lo:=H.n) (args:=[.ptr b o,.ptr id off,.agg (evC num kind [p] [tk] text)]) (H:=H) (fn:=Tryz.f172) (Q:=fun w _=>w=.int .i64 (Z5 y.prot 9)) (by kernel_rfl) Tryz.func172 rfl rfl ?_;have l1:=fun H'=>h.l1 (H':=H')
 have l2:=fun H'=>h.l2 (H':=H')
 have l3:=fun H'=>h.l3 (H':=H')
 have l4:=fun H'=>h.l4 (H':=H')
 have l5:=fun H'=>h.l5 (H':=H')
 have nT:=fun H'=>h.sT.len (t:=43) (by kernel_rfl) H'
 have nF:=fun H'=>h.sF.len (t:=44) (by kernel_rfl) H'
 have nR:=fun H'=>h.sR.len (t:=45) (by kernel_rfl) H'
 have nP:=fun H'=>h.sP.len (t:=46) (by kernel_rfl) H'
 have nM:=fun H'=>h.sM.len (t:=47) (by kernel_rfl) H'
 simp only [length_map] at nT nF nR nP nM;have uT:=fun n (hn:H.n<=n)=>h.sT.under hn
 have uF:=fun n (hn:H.n<=n)=>h.sF.under hn
 have uR:=fun n (hn:H.n<=n)=>h.sR.under hn
 have uP:=fun n (hn:H.n<=n)=>h.sP.under hn
 have uM:=fun n (hn:H.n<=n)=>h.sM.under hn
 have hb:=eq_true h.bn;have en:(Z0 [p]).length=1:=rfl;have ei:(Z3 [tk]).length=1:=rfl;have en0:(Z0 [p])[0]? = some [.str p]:=rfl;have ei0:(Z3 [tk])[0]? = some [.int .i64 tk]:=rfl;simp (maxDischargeDepth:=12) only [go_sem,reduceEqDiff,reduceAdd,reduceCtorEq,hP.f5]
theorem Z8v (h:RegIs H b o r V) (hP:PtP H id off y) {K:AV->Heap->Prop}:VO (Z9 PT (R PT) lo 172 [.ptr b o,.ptr id off,.agg (evC num kind [p] [tk] text)] H) K=K (.int .i64 (Z5 y.prot 9)) H:=by
 obtain ⟨w,H2,h1,h2⟩:=Z8u h hP;exact ZX (en172 rfl) ⟨H2,h1⟩ (by rw [h2];rfl) rfl
theorem Z8w (h:RegIs H b o r V) (hP:PtP H id off y) (hp:r.poss? y.name=some y):∃ w H2,R PT (.call H.n 175 [.ptr b o,.ptr id off,.agg (evC num kind [p] [tk] text)] H)=some (.ofVal w H2)/\w=.int .i64 (Zc [Z5 (!y.prot) 22,Z5 (!(decide (((r.within y.name).length:Int)=0) && decide (y.pers=0))) 32]):=by
 refine Zd (C:=PT) (f:=175) (lo:=H.n) (args:=[.ptr b o,.ptr id off,.agg (evC num kind [p] [tk] text)]) (H:=H) (fn:=Tryz.f175) (Q:=fun w _=>w=.int .i64 (Zc [Z5 (!y.prot) 22,Z5 (!(decide (((r.within y.name).length:Int)=0) && decide (y.pers=0))) 32])) (by kernel_rfl) Tryz.func175 rfl rfl ?_;have l1:=fun H'=>h.l1 (H':=H')
 have l2:=fun H'=>h.l2 (H':=H')
 have l3:=fun H'=>h.l3 (H':=H')
 have l4:=fun H'=>h.l4 (H':=H')
 have l5:=fun H'=>h.l5 (H':=H')
 have nT:=fun H'=>h.sT.len (t:=43) (by kernel_rfl) H'
 have nF:=fun H'=>h.sF.len (t:=44) (by kernel_rfl) H'
 have nR:=fun H'=>h.sR.len (t:=45) (by kernel_rfl) H'
 have nP:=fun H'=>h.sP.len (t:=46) (by kernel_rfl) H'
 have nM:=fun H'=>h.sM.len (t:=47) (by kernel_rfl) H'
 simp only [length_map] at nT nF nR nP nM;have uT:=fun n (hn:H.n<=n)=>h.sT.under hn
 have uF:=fun n (hn:H.n<=n)=>h.sF.under hn
 have uR:=fun n (hn:H.n<=n)=>h.sR.under hn
 have uP:=fun n (hn:H.n<=n)=>h.sP.under hn
 have uM:=fun n (hn:H.n<=n)=>h.sM.under hn
 have hb:=eq_true h.bn;have en:(Z0 [p]).length=1:=rfl;have ei:(Z3 [tk]).length=1:=rfl;have en0:(Z0 [p])[0]? = some [.str p]:=rfl;have ei0:(Z3 [tk])[0]? = some [.int .i64 tk]:=rfl;have e3:=fun Hc (ho:Old H.n H Hc) lo K=>Cp h hp ho (lo:=lo) (K:=K)
 have hi:=eq_true hP.lt;simp (maxDischargeDepth:=12) only [go_sem,reduceEqDiff,reduceAdd,reduceMul,reduceSub,reduceLeDiff,reduceCtorEq,hb,hP.f0,hP.f5,e3]
theorem Z8x (h:RegIs H b o r V) (hP:PtP H id off y) (hp:r.poss? y.name=some y) {K:AV->Heap->Prop}:VO (Z9 PT (R PT) lo 175 [.ptr b o,.ptr id off,.agg (evC num kind [p] [tk] text)] H) K=K (.int .i64 (Zc [Z5 (!y.prot) 22,Z5 (!(decide (((r.within y.name).length:Int)=0) && decide (y.pers=0))) 32])) H:=by
 obtain ⟨w,H2,h1,h2⟩:=Z8w h hP hp;exact ZX (en175 rfl) ⟨H2,h1⟩ (by rw [h2];rfl) rfl
theorem r_iIn (h:RegIs H b o r V) (hP:PtP H id off y):∃ w H2,R PT (.call H.n 177 [.ptr b o,.ptr id off,.agg (evC num kind [m,p] [tk] text)] H)=some (.ofVal w H2)/\w=.int .i64 (Zc [Z5 (!y.prot) 21,Z5 (decide ((r.machs.length:Int)=16)) 5]):=by
 refine Zd (C:=PT) (f:=177) (lo:=H.n) (args:=[.ptr b o,.ptr id off,.agg (evC num kind [m,p] [tk] text)]) (H:=H) (fn:=Tryz.f177) (Q:=fun w _=>w=.int .i64 (Zc [Z5 (!y.prot) 21,Z5 (decide ((r.machs.length:Int)=16)) 5])) (by kernel_rfl) Tryz.func177 rfl rfl ?_;have l1:=fun H'=>h.l1 (H':=H')
 have l2:=fun H'=>h.l2 (H':=H')
 have l3:=fun H'=>h.l3 (H':=H')
 have l4:=fun H'=>h.l4 (H':=H')
 have l5:=fun H'=>h.l5 (H':=H')
 have nT:=fun H'=>h.sT.len (t:=43) (by kernel_rfl) H'
 have nF:=fun H'=>h.sF.len (t:=44) (by kernel_rfl) H'
 have nR:=fun H'=>h.sR.len (t:=45) (by kernel_rfl) H'
 have nP:=fun H'=>h.sP.len (t:=46) (by kernel_rfl) H'
 have nM:=fun H'=>h.sM.len (t:=47) (by kernel_rfl) H'
 simp only [length_map] at nT nF nR nP nM;have uT:=fun n (hn:H.n<=n)=>h.sT.under hn
 have uF:=fun n (hn:H.n<=n)=>h.sF.under hn
 have uR:=fun n (hn:H.n<=n)=>h.sR.under hn
 have uP:=fun n (hn:H.n<=n)=>h.sP.under hn
 have uM:=fun n (hn:H.n<=n)=>h.sM.under hn
 have hb:=eq_true h.bn;have en:(Z0 [m,p]).length=2:=rfl;have ei:(Z3 [tk]).length=1:=rfl;have en0:(Z0 [m,p])[0]? = some [.str m]:=rfl;have en1:(Z0 [m,p])[1]? = some [.str p]:=rfl;have ei0:(Z3 [tk])[0]? = some [.int .i64 tk]:=rfl;simp (maxDischargeDepth:=12) only [go_sem,reduceEqDiff,reduceAdd,reduceMul,reduceSub,reduceLeDiff,reduceCtorEq,l5,nM,hP.f5]
theorem e_iIn (h:RegIs H b o r V) (hP:PtP H id off y) {K:AV->Heap->Prop}:VO (Z9 PT (R PT) lo 177 [.ptr b o,.ptr id off,.agg (evC num kind [m,p] [tk] text)] H) K=K (.int .i64 (Zc [Z5 (!y.prot) 21,Z5 (decide ((r.machs.length:Int)=16)) 5])) H:=by
 obtain ⟨w,H2,h1,h2⟩:=r_iIn h hP;exact ZX (en177 rfl) ⟨H2,h1⟩ (by rw [h2];rfl) rfl
theorem Z8y (h:RegIs H b o r V) (hP:PtP H id off y) (hw:ZC .i64 (Int.add y.pers v)=y.pers+v):∃ w H2,R PT (.call H.n 182 [.ptr b o,.ptr id off,.agg (evC num kind [p] [tk,v] text)] H)=some (.ofVal w H2)/\w=.int .i64 (Zc [ZU v 1 100,Z5 (!y.prot) 21,Z5 (decide (100 < y.pers+v)) 4]):=by
 refine Zd (C:=PT) (f:=182) (lo:=H.n) (args:=[.ptr b o,.ptr id off,.agg (evC num kind [p] [tk,v] text)]) (H:=H) (fn:=Tryz.f182) (Q:=fun w _=>w=.int .i64 (Zc [ZU v 1 100,Z5 (!y.prot) 21,Z5 (decide (100 < y.pers+v)) 4])) (by kernel_rfl) Tryz.func182 rfl rfl ?_;have l1:=fun H'=>h.l1 (H':=H')
 have l2:=fun H'=>h.l2 (H':=H')
 have l3:=fun H'=>h.l3 (H':=H')
 have l4:=fun H'=>h.l4 (H':=H')
 have l5:=fun H'=>h.l5 (H':=H')
 have nT:=fun H'=>h.sT.len (t:=43) (by kernel_rfl) H'
 have nF:=fun H'=>h.sF.len (t:=44) (by kernel_rfl) H'
 have nR:=fun H'=>h.sR.len (t:=45) (by kernel_rfl) H'
 have nP:=fun H'=>h.sP.len (t:=46) (by kernel_rfl) H'
 have nM:=fun H'=>h.sM.len (t:=47) (by kernel_rfl) H'
 simp only [length_map] at nT nF nR nP nM;have uT:=fun n (hn:H.n<=n)=>h.sT.under hn
 have uF:=fun n (hn:H.n<=n)=>h.sF.under hn
 have uR:=fun n (hn:H.n<=n)=>h.sR.under hn
 have uP:=fun n (hn:H.n<=n)=>h.sP.under hn
 have uM:=fun n (hn:H.n<=n)=>h.sM.under hn
 have hb:=eq_true h.bn;have en:(Z0 [p]).length=1:=rfl;have ei:(Z3 [tk,v]).length=2:=rfl;have en0:(Z0 [p])[0]? = some [.str p]:=rfl;have ei0:(Z3 [tk,v])[0]? = some [.int .i64 tk]:=rfl;have ei1:(Z3 [tk,v])[1]? = some [.int .i64 v]:=rfl;simp (maxDischargeDepth:=12) only [go_sem,reduceEqDiff,reduceAdd,reduceMul,reduceSub,reduceLeDiff,reduceCtorEq,ei,ei1,hP.f5,hP.f8,hw]
theorem Z8z (h:RegIs H b o r V) (hP:PtP H id off y) (hw:ZC .i64 (Int.add y.pers v)=y.pers+v) {K:AV->Heap->Prop}:VO (Z9 PT (R PT) lo 182 [.ptr b o,.ptr id off,.agg (evC num kind [p] [tk,v] text)] H) K=K (.int .i64 (Zc [ZU v 1 100,Z5 (!y.prot) 21,Z5 (decide (100 < y.pers+v)) 4])) H:=by
 obtain ⟨w,H2,h1,h2⟩:=Z8y h hP hw;exact ZX (en182 rfl) ⟨H2,h1⟩ (by rw [h2];rfl) rfl
theorem Z8A (h:RegIs H b o r V) (hP:PtP H id off y):∃ w H2,R PT (.call H.n 184 [.ptr b o,.ptr id off,.agg (evC num kind [p] [tk,v] text)] H)=some (.ofVal w H2)/\w=.int .i64 (Zc [ZU v 1 100,Z5 (decide (y.pers < v)) 16]):=by
 refine Zd (C:=PT) (f:=184) (lo:=H.n) (args:=[.ptr b o,.ptr id off,.agg (evC num kind [p] [tk,v] text)]) (H:=H) (fn:=Tryz.f184) (Q:=fun w _=>w=.int .i64 (Zc [ZU v 1 100,Z5 (decide (y.pers < v)) 16])) (by kernel_rfl) Tryz.func184 rfl rfl ?_;have l1:=fun H'=>h.l1 (H':=H')
 have l2:=fun H'=>h.l2 (H':=H')
 have l3:=fun H'=>h.l3 (H':=H')
 have l4:=fun H'=>h.l4 (H':=H')
 have l5:=fun H'=>h.l5 (H':=H')
 have nT:=fun H'=>h.sT.len (t:=43) (by kernel_rfl) H'
 have nF:=fun H'=>h.sF.len (t:=44) (by kernel_rfl) H'
 have nR:=fun H'=>h.sR.len (t:=45) (by kernel_rfl) H'
 have nP:=fun H'=>h.sP.len (t:=46) (by kernel_rfl) H'
 have nM:=fun H'=>h.sM.len (t:=47) (by kernel_rfl) H'
 simp only [length_map] at nT nF nR nP nM;have uT:=fun n (hn:H.n<=n)=>h.sT.under hn
 have uF:=fun n (hn:H.n<=n)=>h.sF.under hn
 have uR:=fun n (hn:H.n<=n)=>h.sR.under hn
 have uP:=fun n (hn:H.n<=n)=>h.sP.under hn
 have uM:=fun n (hn:H.n<=n)=>h.sM.under hn
 have hb:=eq_true h.bn;have en:(Z0 [p]).length=1:=rfl;have ei:(Z3 [tk,v]).length=2:=rfl;have en0:(Z0 [p])[0]? = some [.str p]:=rfl;have ei0:(Z3 [tk,v])[0]? = some [.int .i64 tk]:=rfl;have ei1:(Z3 [tk,v])[1]? = some [.int .i64 v]:=rfl;simp (maxDischargeDepth:=12) only [go_sem,reduceEqDiff,reduceAdd,reduceMul,reduceSub,reduceLeDiff,reduceCtorEq,ei,ei1,hP.f8]
theorem Z8B (h:RegIs H b o r V) (hP:PtP H id off y) {K:AV->Heap->Prop}:VO (Z9 PT (R PT) lo 184 [.ptr b o,.ptr id off,.agg (evC num kind [p] [tk,v] text)] H) K=K (.int .i64 (Zc [ZU v 1 100,Z5 (decide (y.pers < v)) 16])) H:=by
 obtain ⟨w,H2,h1,h2⟩:=Z8A h hP;exact ZX (en184 rfl) ⟨H2,h1⟩ (by rw [h2];rfl) rfl
theorem Z8C (h:RegIs H b o r V) (hP:PtP H id off y):∃ w H2,R PT (.call H.n 186 [.ptr b o,.ptr id off,.agg (evC num kind [p] [tk] text)] H)=some (.ofVal w H2)/\w=.int .i64 (Zc [Z5 y.opn 9,Z5 (decide (y.closed=8)) 5]):=by
 refine Zd (C:=PT) (f:=186) (lo:=H.n) (args:=[.ptr b o,.ptr id off,.agg (evC num kind [p] [tk] text)]) (H:=H) (fn:=Tryz.f186) (Q:=fun w _=>w=.int .i64 (Zc [Z5 y.opn 9,Z5 (decide (y.closed=8)) 5])) (by kernel_rfl) Tryz.func186 rfl rfl ?_;have l1:=fun H'=>h.l1 (H':=H')
 have l2:=fun H'=>h.l2 (H':=H')
 have l3:=fun H'=>h.l3 (H':=H')
 have l4:=fun H'=>h.l4 (H':=H')
 have l5:=fun H'=>h.l5 (H':=H')
 have nT:=fun H'=>h.sT.len (t:=43) (by kernel_rfl) H'
 have nF:=fun H'=>h.sF.len (t:=44) (by kernel_rfl) H'
 have nR:=fun H'=>h.sR.len (t:=45) (by kernel_rfl) H'
 have nP:=fun H'=>h.sP.len (t:=46) (by kernel_rfl) H'
 have nM:=fun H'=>h.sM.len (t:=47) (by kernel_rfl) H'
 simp only [length_map] at nT nF nR nP nM;have uT:=fun n (hn:H.n<=n)=>h.sT.under hn
 have uF:=fun n (hn:H.n<=n)=>h.sF.under hn
 have uR:=fun n (hn:H.n<=n)=>h.sR.under hn
 have uP:=fun n (hn:H.n<=n)=>h.sP.under hn
 have uM:=fun n (hn:H.n<=n)=>h.sM.under hn
 have hb:=eq_true h.bn;have en:(Z0 [p]).length=1:=rfl;have ei:(Z3 [tk]).length=1:=rfl;have en0:(Z0 [p])[0]? = some [.str p]:=rfl;have ei0:(Z3 [tk])[0]? = some [.int .i64 tk]:=rfl;simp (maxDischargeDepth:=12) only [go_sem,reduceEqDiff,reduceAdd,reduceMul,reduceSub,reduceLeDiff,reduceCtorEq,hP.f6,hP.f7]
theorem Z8D (h:RegIs H b o r V) (hP:PtP H id off y) {K:AV->Heap->Prop}:VO (Z9 PT (R PT) lo 186 [.ptr b o,.ptr id off,.agg (evC num kind [p] [tk] text)] H) K=K (.int .i64 (Zc [Z5 y.opn 9,Z5 (decide (y.closed=8)) 5])) H:=by
 obtain ⟨w,H2,h1,h2⟩:=Z8C h hP;exact ZX (en186 rfl) ⟨H2,h1⟩ (by rw [h2];rfl) rfl
theorem Z8E (h:RegIs H b o r V) (hP:PtP H id off y):∃ w H2,R PT (.call H.n 188 [.ptr b o,.ptr id off,.agg (evC num kind [p] [tk,v] text)] H)=some (.ofVal w H2)/\w=.int .i64 (Zc [ZU v 1 400,Z5 (!y.opn) 22]):=by
 refine Zd (C:=PT) (f:=188) (lo:=H.n) (args:=[.ptr b o,.ptr id off,.agg (evC num kind [p] [tk,v] text)]) (H:=H) (fn:=Tryz.f188) (Q:=fun w _=>w=.int .i64 (Zc [ZU v 1 400,Z5 (!y.opn) 22])) (by kernel_rfl) Tryz.func188 rfl rfl ?_;have l1:=fun H'=>h.l1 (H':=H')
 have l2:=fun H'=>h.l2 (H':=H')
 have l3:=fun H'=>h.l3 (H':=H')
 have l4:=fun H'=>h.l4 (H':=H')
 have l5:=fun H'=>h.l5 (H':=H')
 have nT:=fun H'=>h.sT.len (t:=43) (by kernel_rfl) H'
 have nF:=fun H'=>h.sF.len (t:=44) (by kernel_rfl) H'
 have nR:=fun H'=>h.sR.len (t:=45) (by kernel_rfl) H'
 have nP:=fun H'=>h.sP.len (t:=46) (by kernel_rfl) H'
 have nM:=fun H'=>h.sM.len (t:=47) (by kernel_rfl) H'
 simp only [length_map] at nT nF nR nP nM;have uT:=fun n (hn:H.n<=n)=>h.sT.under hn
 have uF:=fun n (hn:H.n<=n)=>h.sF.under hn
 have uR:=fun n (hn:H.n<=n)=>h.sR.under hn
 have uP:=fun n (hn:H.n<=n)=>h.sP.under hn
 have uM:=fun n (hn:H.n<=n)=>h.sM.under hn
 have hb:=eq_true h.bn;have en:(Z0 [p]).length=1:=rfl;have ei:(Z3 [tk,v]).length=2:=rfl;have en0:(Z0 [p])[0]? = some [.str p]:=rfl;have ei0:(Z3 [tk,v])[0]? = some [.int .i64 tk]:=rfl;have ei1:(Z3 [tk,v])[1]? = some [.int .i64 v]:=rfl;simp (maxDischargeDepth:=12) only [go_sem,reduceEqDiff,reduceAdd,reduceMul,reduceSub,reduceLeDiff,reduceCtorEq,ei,ei1,hP.f6]
theorem Z8F (h:RegIs H b o r V) (hP:PtP H id off y) {K:AV->Heap->Prop}:VO (Z9 PT (R PT) lo 188 [.ptr b o,.ptr id off,.agg (evC num kind [p] [tk,v] text)] H) K=K (.int .i64 (Zc [ZU v 1 400,Z5 (!y.opn) 22])) H:=by
 obtain ⟨w,H2,h1,h2⟩:=Z8E h hP;exact ZX (en188 rfl) ⟨H2,h1⟩ (by rw [h2];rfl) rfl
theorem Z8G (h:RegIs H b o r V) (hP:PtP H id off y) (hp:r.poss? y.name=some y) (hM:r.machs.length+3<=Z2):∃ w H2,R PT (.call H.n 190 [.ptr b o,.ptr id off,.agg (evC num kind [p] [tk] text)] H)=some (.ofVal w H2)/\w=.int .i64 (Zc [Z5 (decide ((0:Int) < ((Xn r y.name y).length:Nat))) 32,Z5 (decide (y.closed=0)) 7]):=by
 refine Zd (C:=PT) (f:=190) (lo:=H.n) (args:=[.ptr b o,.ptr id off,.agg (evC num kind [p] [tk] text)]) (H:=H) (fn:=Tryz.f190) (Q:=fun w _=>w=.int .i64 (Zc [Z5 (decide ((0:Int) < ((Xn r y.name y).length:Nat))) 32,Z5 (decide (y.closed=0)) 7])) (by kernel_rfl) Tryz.func190 rfl rfl ?_;have l1:=fun H'=>h.l1 (H':=H')
 have l2:=fun H'=>h.l2 (H':=H')
 have l3:=fun H'=>h.l3 (H':=H')
 have l4:=fun H'=>h.l4 (H':=H')
 have l5:=fun H'=>h.l5 (H':=H')
 have nT:=fun H'=>h.sT.len (t:=43) (by kernel_rfl) H'
 have nF:=fun H'=>h.sF.len (t:=44) (by kernel_rfl) H'
 have nR:=fun H'=>h.sR.len (t:=45) (by kernel_rfl) H'
 have nP:=fun H'=>h.sP.len (t:=46) (by kernel_rfl) H'
 have nM:=fun H'=>h.sM.len (t:=47) (by kernel_rfl) H'
 simp only [length_map] at nT nF nR nP nM;have uT:=fun n (hn:H.n<=n)=>h.sT.under hn
 have uF:=fun n (hn:H.n<=n)=>h.sF.under hn
 have uR:=fun n (hn:H.n<=n)=>h.sR.under hn
 have uP:=fun n (hn:H.n<=n)=>h.sP.under hn
 have uM:=fun n (hn:H.n<=n)=>h.sM.under hn
 have hb:=eq_true h.bn;have en:(Z0 [p]).length=1:=rfl;have ei:(Z3 [tk]).length=1:=rfl;have en0:(Z0 [p])[0]? = some [.str p]:=rfl;have ei0:(Z3 [tk])[0]? = some [.int .i64 tk]:=rfl;have e3:=fun Hc (ho:Old H.n H Hc) lo K=>Cr h hp hM ho (lo:=lo) (K:=K)
 simp (maxDischargeDepth:=12) only [go_sem,reduceEqDiff,reduceAdd,reduceMul,reduceSub,reduceLeDiff,reduceCtorEq,hb,hP.f0,hP.f7,e3,Zv]
theorem Z8H (h:RegIs H b o r V) (hP:PtP H id off y) (hp:r.poss? y.name=some y) (hM:r.machs.length+3<=Z2) {K:AV->Heap->Prop}:VO (Z9 PT (R PT) lo 190 [.ptr b o,.ptr id off,.agg (evC num kind [p] [tk] text)] H) K=K (.int .i64 (Zc [Z5 (decide ((0:Int) < ((Xn r y.name y).length:Nat))) 32,Z5 (decide (y.closed=0)) 7])) H:=by
 obtain ⟨w,H2,h1,h2⟩:=Z8G h hP hp hM;exact ZX (en190 rfl) ⟨H2,h1⟩ (by rw [h2];rfl) rfl
theorem Z8I (h:RegIs H b o r V) {m:Nm} (hf:At (·.name) r.poss p i y) (he:elA V.vP 10 i=.ptr id (i * 10)) (hP:PtP H id (i * 10) y) (hbx:bx < H.n) (hg:H.get bx=.cells [.fn g [] []] 272) (hc:y.ret=false -> ∀ Hc,Old H.n H Hc -> ∀ lo K,VO (Z9 PT (R PT) lo g [.ptr b o,.ptr id (i * 10),.agg (evC num kind [p] vs text)] Hc) K=K (.int .i64 c) Hc):∃ w H2,R PT (.call H.n 273 [.ptr b o,.agg (evC num kind [p] vs text),.ptr bx 0] H)=some (.ofVal w H2)/\w=.int .i64 (if y.ret then 23 else c):=by
 refine Zd (C:=PT) (f:=273) (lo:=H.n) (args:=[.ptr b o,.agg (evC num kind [p] vs text),.ptr bx 0]) (H:=H) (fn:=Tryz.f273) (Q:=fun w _=>w=.int .i64 (if y.ret then 23 else c)) (by kernel_rfl) Tryz.func273 rfl rfl ?_
 have en:(Z0 [p]).length=1:=rfl;have enl:(Z0 [p])[0]? = some [.str p]:=rfl;have hw:ZC .i64 (Int.sub (1:Nat) 1)=((0:Nat):Int):=rfl;have hne:(bx=H.n)=False:=eq_false (by omega);have e1:=fun Hc (ho:Old H.n H Hc) lo K=>JL h hf.idx hf.lt ho (lo:=lo) (K:=K)
 cases hr:y.ret with
 | true =>
   have hr4:=fun (H':Heap) (ho:Old H.n H H')=>hP.f4 ho
   rw [hr] at hr4;simp (maxDischargeDepth:=12) only [go_sem,reduceEqDiff,reduceAdd,reduceCtorEq,en,enl,hw,e1,he,hr4]
 | false =>
   have hr4:=fun (H':Heap) (ho:Old H.n H H')=>hP.f4 ho
   rw [hr] at hr4;have hc:=hc hr;simp (maxDischargeDepth:=12) only [go_sem,reduceEqDiff,reduceAdd,reduceCtorEq,en,enl,hw,e1,he,hr4,hne,hg,hc]
theorem KQ (h:RegIs H b o r V) {m:Nm} (hf:At (·.name) r.poss p i y) (he:elA V.vP 10 i=.ptr id (i * 10)) (hP:PtP H id (i * 10) y) (hbx:bx < H.n) (hg:H.get bx=.cells [.fn g [] []] 272) (hc:y.ret=false -> ∀ Hc,Old H.n H Hc -> ∀ lo K,VO (Z9 PT (R PT) lo g [.ptr b o,.ptr id (i * 10),.agg (evC num kind [p] vs text)] Hc) K=K (.int .i64 c) Hc) {K:AV->Heap->Prop}:VO (Z9 PT (R PT) lo 273 [.ptr b o,.agg (evC num kind [p] vs text),.ptr bx 0] H) K=K (.int .i64 (if y.ret then 23 else c)) H:=by
 obtain ⟨w,H2,h1,h2⟩:=Z8I (m:=m) h hf he hP hbx hg hc;exact ZX (In rfl) ⟨H2,h1⟩ (by rw [h2];rfl) rfl
theorem Z8J (h:RegIs H b o r V) (hf:At (·.name) r.poss p i y) (he:elA V.vP 10 i=.ptr id (i * 10)) (hP:PtP H id (i * 10) y) (hbx:bx < H.n) (hg:H.get bx=.cells [.fn g [] []] 272) (hc:y.ret=false -> ∀ Hc,Old H.n H Hc -> ∀ lo K,VO (Z9 PT (R PT) lo g [.ptr b o,.ptr id (i * 10),.agg (evC num kind [m,p] vs text)] Hc) K=K (.int .i64 c) Hc):∃ w H2,R PT (.call H.n 273 [.ptr b o,.agg (evC num kind [m,p] vs text),.ptr bx 0] H)=some (.ofVal w H2)/\w=.int .i64 (if y.ret then 23 else c):=by
 refine Zd (C:=PT) (f:=273) (lo:=H.n) (args:=[.ptr b o,.agg (evC num kind [m,p] vs text),.ptr bx 0]) (H:=H) (fn:=Tryz.f273) (Q:=fun w _=>w=.int .i64 (if y.ret then 23 else c)) (by kernel_rfl) Tryz.func273 rfl rfl ?_
 have en:(Z0 [m,p]).length=2:=rfl;have enl:(Z0 [m,p])[1]? = some [.str p]:=rfl;have hw:ZC .i64 (Int.sub (2:Nat) 1)=((1:Nat):Int):=rfl;have hne:(bx=H.n)=False:=eq_false (by omega);have e1:=fun Hc (ho:Old H.n H Hc) lo K=>JL h hf.idx hf.lt ho (lo:=lo) (K:=K)
 cases hr:y.ret with
 | true =>
   have hr4:=fun (H':Heap) (ho:Old H.n H H')=>hP.f4 ho
   rw [hr] at hr4;simp (maxDischargeDepth:=12) only [go_sem,reduceEqDiff,reduceAdd,reduceCtorEq,en,enl,hw,e1,he,hr4]
 | false =>
   have hr4:=fun (H':Heap) (ho:Old H.n H H')=>hP.f4 ho
   rw [hr] at hr4;have hc:=hc hr;simp (maxDischargeDepth:=12) only [go_sem,reduceEqDiff,reduceAdd,reduceCtorEq,en,enl,hw,e1,he,hr4,hne,hg,hc]
theorem Z8K (h:RegIs H b o r V) (hf:At (·.name) r.poss p i y) (he:elA V.vP 10 i=.ptr id (i * 10)) (hP:PtP H id (i * 10) y) (hbx:bx < H.n) (hg:H.get bx=.cells [.fn g [] []] 272) (hc:y.ret=false -> ∀ Hc,Old H.n H Hc -> ∀ lo K,VO (Z9 PT (R PT) lo g [.ptr b o,.ptr id (i * 10),.agg (evC num kind [m,p] vs text)] Hc) K=K (.int .i64 c) Hc) {K:AV->Heap->Prop}:VO (Z9 PT (R PT) lo 273 [.ptr b o,.agg (evC num kind [m,p] vs text),.ptr bx 0] H) K=K (.int .i64 (if y.ret then 23 else c)) H:=by
 obtain ⟨w,H2,h1,h2⟩:=Z8J (m:=m) h hf he hP hbx hg hc;exact ZX (In rfl) ⟨H2,h1⟩ (by rw [h2];rfl) rfl
variable {te:TypeId}
structure HisIs (te:TypeId) (H:Heap) (hb:Nat) (es cs:List Ev) (r:Reg) (V:RegV) (vE vC:AV):Prop where
 blk:H.get hb=.cells (vE::vC::Zq r V) te
 reg:RegIs H hb 2 r V
 aE:Pos.SV 5 53 H vE (es.map Pos.Ev.row)
 aC:Pos.SV 5 53 H vC (cs.map Pos.Ev.row)
 dis:∀ i j a b c d a' b' c' d',vE=.rs i a b c d->vC=.rs j a' b' c' d'->i ≠ j
 lE:es.length<=1000
 lC:cs.length<=1000
section
variable {H H':Heap} {hb:Nat} {es cs:List Ev} {r:Reg} {V:RegV} {vE vC:AV}
theorem HisIs.old (h:HisIs te H hb es cs r V vE vC) (ho:Old H.n H H'):HisIs te H' hb es cs r V vE vC :=
 ⟨by rw [ho.2 hb h.reg.bn];exact h.blk,h.reg.old ho,Ul h.aE ho,Ul h.aC ho,h.dis,h.lE,h.lC⟩
theorem HisIs.ld (h:HisIs te H hb es cs r V vE vC) {v:AV} (hi:(vE::vC::Zq r V)[i]? = some v) {t:TypeId} (hs:(Zf NC.P t).isSome=true) (hg:aggOf NC.P t=some false) (ho:Old H.n H H'):sld H' t (.ptr hb i)=some v:=by
 have hlt:i < (vE::vC::Zq r V).length:=(List.getElem?_eq_some_iff.1 hi).1;obtain ⟨n,hn⟩:=isSome_iff_exists.1 hs;have hsub:ZW (vE::vC::Zq r V) i 1=some [v]:=by
  unfold ZW;rw [if_pos (by omega),drop_eq_getElem_cons hlt,(List.getElem?_eq_some_iff.1 hi).2];rfl
 show Yl NC.P H' t (.ptr hb i)=some v;unfold Yl;simp only [hn,hg,YB,ho.2 hb h.reg.bn,h.blk,Xw,if_false,hsub,QS,false_eq_true]
theorem HisIs.h0 (h:HisIs te H hb es cs r V vE vC) (ho:Old H.n H H'):sld H' 22 (.ptr hb 0)=some vE:=h.ld (i:=0) rfl (by kernel_rfl) (by kernel_rfl) ho
theorem HisIs.h1 (h:HisIs te H hb es cs r V vE vC) (ho:Old H.n H H'):sld H' 22 (.ptr hb 1)=some vC:=h.ld (i:=1) rfl (by kernel_rfl) (by kernel_rfl) ho
theorem HisIs.h2 (h:HisIs te H hb es cs r V vE vC) (ho:Old H.n H H'):sld H' 3 (.ptr hb 2)=some (.int .i64 r.tick):=h.ld (i:=2) rfl (by kernel_rfl) (by kernel_rfl) ho
end
theorem Z8L {H:Heap} {r:Reg} {V:RegV} (h:RegIs H b o r V) {l1 l2:List AV} (hb:∀ c ∈ nm,c < 128) (hl:names.length=nm.length) (hs:nm.length<=2) (ho:Old H.n H Hc) {K:AV->Heap->Prop}:VO (Z9 PT (R PT) lo 231 [.ptr b o,.agg [.str nm,.int .i64 fv,.fn f1 [] l1,.fn f2 [] l2],.agg (evC num kind names vals text)] Hc) K=K (.int .i64 (Zp r nm names false)) Hc:=by
 obtain ⟨w,H2,h1,h2⟩:=Z8a (h.old ho) (fv:=fv) (f1:=f1) (f2:=f2) (l1:=l1) (l2:=l2) (e:=⟨num,kind,names,vals,text⟩) hb hl hs rfl;exact ZX (en231 rfl) ⟨H2,h1⟩ (by rw [h2];rfl) rfl
theorem en105:ZY 105:=Y0
theorem Z8M {H:Heap} {hb:Nat} {es cs:List Ev} {r:Reg} {V:RegV} {vE vC:AV} (h:HisIs te H hb es cs r V vE vC) (hk:kind ≠ ZJ)
 {nm:List Nat} {fv c:Int} {f1 f2:FuncId} {l1 l2:Nat->List AV} (hlk:∀ n,lkS kind (J6 n)=some (.agg [.str nm,.int .i64 fv,.fn f1 [] (l1 n),.fn f2 [] (l2 n)])) (hst:∀ n,(l1 n).map ZV=l1 n) (hu1:∀ n m,n+17<=m->YW m (l1 n)=true) (hu2:∀ n m,n+17<=m->YW m (l2 n)=true)
 (hb1:∀ x ∈ nm,x < 128) (hl:names.length=nm.length) (hs:nm.length<=2)
 (hchk:Zp r nm names false=0 -> ∀ n Hc,FormsAt n Hc->n+17<=Hc.n->Old H.n H Hc -> ∀ lo K,VO (Z9 PT (R PT) lo f1 (.ptr hb 2 :: .agg (evC num kind names (tk::vs) text)::l1 n) Hc) K=K (.int .i64 c) Hc) :
 ∃ w H2,R PT (.call H.n 105 [.ptr hb 0,.agg (evC num kind names (tk::vs) text)] H)=some (.ofVal w H2)/\w=.int .i64 (if num ≠ (es.length:Int)+1 then 11 else if tk < r.tick then 22 else if Zp r nm names false ≠ 0 then Zp r nm names false else c):=by
 refine Zd (C:=PT) (f:=105) (lo:=H.n) (args:=[.ptr hb 0,.agg (evC num kind names (tk::vs) text)]) (H:=H) (fn:=Tryz.f105) (Q:=fun w _=>w=.int .i64 (if num ≠ (es.length:Int)+1 then 11 else if tk < r.tick then 22 else if Zp r nm names false ≠ 0 then Zp r nm names false else c)) (by kernel_rfl) Tryz.func105 rfl rfl ?_
 have hh0:=fun H'=>h.h0 (H':=H')
 have hh2:=fun H'=>h.h2 (H':=H')
 have nE:=fun H'=>(Ju h.aE).len (t:=22) (by kernel_rfl) H'
 simp only [length_map] at nE;have uE:=fun n (hn:H.n<=n)=>(Ju h.aE).under hn
 have hbn:=eq_true h.reg.bn;have hw:ZC .i64 (Int.add (es.length:Int) 1)=(es.length:Int)+1:=by
  have:=h.lE;exact Vb (n:=es.length+1) (by omega)
 have hku:Z6 kind [117,110,100,111]=false:=by rw [Ys];exact decide_eq_false hk
 have ei:(0 < (Z3 (tk::vs)).length)=True:=eq_true (by rw [Yo];exact succ_pos _);have ei0:(Z3 (tk::vs))[0]? = some [.int .i64 tk]:=rfl;by_cases c1:¬ num=(es.length:Int)+1
 . rw [if_pos c1];simp (maxDischargeDepth:=12) only [go_sem,reduceEqDiff,reduceAdd,reduceSub,reduceCtorEq,hh0,nE,hw,c1]
 rw [if_neg c1];have c1:=Decidable.not_not.1 c1;by_cases c2:tk < r.tick
 . rw [if_pos c2];simp (maxDischargeDepth:=12) only [go_sem,reduceEqDiff,reduceAdd,reduceSub,reduceCtorEq,hh0,hh2,nE,hw,eq_true c1,eq_true c2,hku,ei,ei0]
 rw [if_neg c2];have hO1:Old H.n H (H.push (.cells (evC num kind names (tk::vs) text) 53)):=(Old.refl H).push _;obtain ⟨H',hr,hn',hk',hF⟩:=Uj (P:=PPT) (by rfl) (by rfl) (H.n+1) (H.push (.cells (evC num kind names (tk::vs) text) 53)) (Nat.le_refl _);have hlk2:=(Gk hF.map (Gl _) kind).2;have hn1:(H.push (.cells (evC num kind names (tk::vs) text) 53)).n=H.n+1:=rfl;rw [hn1] at hr hn' hlk2 hF;rw [hlk] at hlk2;have hO2:Old H.n H H':=⟨by omega,fun i hi=>by rw [hk' i (by rw [hn1];omega),hO1.2 i hi]⟩;have hev:H'.get H.n=.cells (evC num kind names (tk::vs) text) 53:=by rw [hk' _ (by rw [hn1];omega),Vr]
 have hHc:Old H.n H ((H'.push (.cells [.str [],.int .i64 0,.nilf,.nilf] 175)).set H'.n (.cells [.str nm,.int .i64 fv,.fn f1 [] (l1 (H.n+1)),.fn f2 [] (l2 (H.n+1))] 175)):=hO2.new _ _;have hkn:=fun lo K=>Z8L h.reg (fv:=fv) (f1:=f1) (f2:=f2) (l1:=l1 (H.n+1)) (l2:=l2 (H.n+1)) (num:=num) (kind:=kind) (text:=text) (vals:=tk::vs) hb1 hl hs hHc (lo:=lo) (K:=K)
 have u1:=hu1 (H.n+1) (H'.n+1) (by omega);have u2:=hu2 (H.n+1) (H'.n+1) (by omega);have hbn':(hb < H'.n+1)=True:=eq_true (by have:=h.reg.bn;omega);have hne:(H.n=H'.n)=False:=eq_false (by omega);have hle:(H.n<=H'.n)=True:=eq_true (by omega);have hst1:=hst (H.n+1);have hlt1:(H.n+1 < H'.n)=True:=eq_true (by omega);by_cases c3:Zp r nm names false=0
 . rw [if_neg (by simpa using c3)];have hck:=fun lo K=>hchk c3 (H.n+1) _ ⟨by rw [Heap.get_set,if_neg (by omega),Heap.get_push,if_neg (by omega)];exact hF.map,fun j j1 j2=>by rw [Heap.get_set,if_neg (by omega),Heap.get_push,if_neg (by omega)];exact hF.box j j1 j2⟩ (by simp;omega) hHc lo K
   simp (maxDischargeDepth:=12) only [go_sem,reduceEqDiff,reduceAdd,reduceSub,reduceCtorEq,hh0,hh2,nE,hw,eq_true c1,c2,hku,ei,ei0,Js (P:=PPT) rfl,hr,hev,hlk2,hkn,hck,u1,u2,hbn',hne,hle,hlt1,hst1,eq_true c3]
 . rw [if_pos c3];simp (maxDischargeDepth:=12) only [go_sem,reduceEqDiff,reduceAdd,reduceSub,reduceCtorEq,hh0,hh2,nE,hw,eq_true c1,c2,hku,ei,ei0,Js (P:=PPT) rfl,hr,hev,hlk2,hkn,u1,u2,hbn',hne,hle,hlt1,c3]
end Go.Sim

namespace Go.Sim.Pos
open Go.Sim
def Ze (num tk:Int):Act->Ev
 | .track t v=>⟨num,Xp,[t],[tk,v],[]⟩
 | .fault f t a b v=>⟨num,Xc,[f,t],[tk,a,b,v],[]⟩
 | .answer f=>⟨num,YE,[f],[tk],[]⟩
 | .repair f p=>⟨num,Yz,[f,p],[tk],[]⟩
 | .enter x t v=>⟨num,ZZ,[x,t],[tk,v],[]⟩
 | .leave x=>⟨num,Yb,[x],[tk],[]⟩
 | .take p t a b=>⟨num,Yc,[p,t],[tk,a,b],[]⟩
 | .prot p=>⟨num,Xq,[p],[tk],[]⟩
 | .clear p=>⟨num,YZ,[p],[tk],[]⟩
 | .into m p=>⟨num,kIn,[m,p],[tk],[]⟩
 | .out m=>⟨num,Xd,[m],[tk],[]⟩
 | .staff p v=>⟨num,X2,[p],[tk,v],[]⟩
 | .off p v=>⟨num,YT,[p],[tk,v],[]⟩
 | .opn p=>⟨num,YO,[p],[tk],[]⟩
 | .close p v=>⟨num,YF,[p],[tk,v],[]⟩
 | .ret p=>⟨num,Y7,[p],[tk],[]⟩
 | .raise p v=>⟨num,XD,[p],[tk,v],[]⟩
theorem ev_of {e:Ev} {a:Act} (ht:e.text=[]) (ha:XU e=some (tk,a)):e=Ze e.num tk a:=by
 obtain ⟨num,kind,names,vals,text⟩:=e;simp only at ht;subst ht;have go:∀ {p:Prop} [Decidable p] {u v:Option TA},(if p then u else v)=some (tk,a)->(p/\u=some (tk,a))\/v=some (tk,a):=fun {p} _ {u v} h=>by
  split at h
  . exact .inl ⟨‹_›,h⟩
  . exact .inr h
 unfold XU at ha;simp only at ha
 iterate 17
  rcases go ha with ⟨hk,hu⟩ | ha
  . split at hu
    . cases hu;rw [hk];rfl
    . cases hu
 cases ha
theorem Ip (num tk:Int) (a:Act):XU (Ze num tk a)=some (tk,a):=by cases a<;>rfl
theorem Un (nm:Nm->Bool) {e:Ev} (h:Y1 nm e=0) (hu:e.kind ≠ ZJ):∃ tk a,XU e=some (tk,a)/\e=Ze e.num tk a/\0<=tk/\tk<=999999999:=by
 obtain ⟨a,ha⟩:=Z4r nm h hu;obtain ⟨_,_,_,_,_,_,_,ht,_⟩:=KF nm h;obtain ⟨h1,h2,_⟩:=Z4B nm h ha;exact ⟨_,a,ha,ev_of ht ha,h1,h2⟩
theorem Iq (nm:Nm->Bool) {e:Ev} (h:Y1 nm e=0) (hu:e.kind=ZJ):e=⟨e.num,ZJ,[],[],[]⟩:=by
 obtain ⟨_,_,_,_,_,_,_,ht,_⟩:=KF nm h;rcases Vj nm h with ⟨h1,h2,h3⟩ | ⟨h1,_⟩
 . obtain ⟨num,kind,names,vals,text⟩:=e;simp only at h1 h2 h3 ht;rw [h1,h2,h3,ht]
 . exact absurd hu h1
theorem Uo {nm:α->Nm} {l:List α}:x ∈ l.map nm ↔ (l.find? fun y=>decide (nm y=x)).isSome=true:=by
 constructor
 . intro h;obtain ⟨y,hy,rfl⟩:=mem_map.1 h;cases hf:l.find? fun z=>decide (nm z=nm y) with
   | some z=>rfl
   | none =>
     rw [find?_eq_none] at hf;have:=hf y hy;simp at this
 . intro h;obtain ⟨y,hy⟩:=isSome_iff_exists.1 h;have h1:=mem_of_find?_eq_some hy;have h2:=find?_some hy;simp only [decide_eq_true_eq] at h2;rw [<- h2];exact mem_map_of_mem h1
theorem Gt (r:Reg) (x:Nm):(x ∈ Y3 r 116)=((r.track? x).isSome=true):=propext (Uo (nm:=Trk.name))
theorem CB (r:Reg) (x:Nm):(x ∈ Y3 r 102)=((r.fault? x).isSome=true):=propext (Uo (nm:=Flt.name))
theorem Ir (r:Reg) (x:Nm):(x ∈ Y3 r 114)=((r.train? x).isSome=true):=propext (Uo (nm:=Trn.name))
theorem XK (r:Reg) (x:Nm):(x ∈ Y3 r 112)=((r.poss? x).isSome=true):=propext (Uo (nm:=Pos.name))
theorem Is (r:Reg) (x:Nm):(x ∈ Y3 r 109)=((r.mach? x).isSome=true):=propext (Uo (nm:=Mch.name))
theorem Z8N (r:Reg) (c:Nat) (h:c < 97) (x:Nm):Zp r [c] [x] false=if x ∈ Y3 r ((c+32:Nat):Int) then 9 else 0:=by
 rw [Vt];simp only [h,decide_true,Bool.not_true,Bool.false_and,false_eq_true,if_false,if_true,Bool.true_and,Bool.false_or];show Z5 _ 9=_;unfold Z5;by_cases hm:x ∈ Y3 r ((c+32:Nat):Int)<;>simp []
theorem QM (r:Reg) (c:Nat) (h:¬ c < 97) (x:Nm):Zp r [c] [x] false=if x ∈ Y3 r (c:Int) then 0 else 10:=by
 rw [Vt];simp only [h,decide_false,Bool.not_false,Bool.true_and,if_false,Bool.false_and,Bool.or_false];by_cases hm:x ∈ Y3 r (c:Int)
 . simp only [hm,decide_true,Bool.not_true,false_eq_true,if_false,if_true];rfl
 . simp only [hm,decide_false,Bool.not_false,if_true,if_false]
theorem Gu (r:Reg) (c d:Nat) (h:c < 97) (h':¬ d < 97) (x y:Nm):Zp r [c,d] [x,y] false=if y ∈ Y3 r (d:Int) then (if x ∈ Y3 r ((c+32:Nat):Int) then 9 else 0) else 10:=by
 rw [Vt];simp only [h,decide_true,Bool.not_true,Bool.false_and,false_eq_true,if_false,if_true,Bool.true_and,Bool.false_or];rw [Vt];simp only [h',decide_false,Bool.not_false,Bool.true_and,if_false,Bool.false_and,Bool.or_false];by_cases hm:y ∈ Y3 r (d:Int)
 . simp only [hm,decide_true,Bool.not_true,false_eq_true,if_false,if_true];show Z5 _ 9=_;unfold Z5;by_cases hx:x ∈ Y3 r ((c+32:Nat):Int)<;>simp []
 . simp only [hm,decide_false,Bool.not_false,if_true,if_false]
theorem Z8O (r:Reg) (c d:Nat) (h:¬ c < 97) (h':¬ d < 97) (x y:Nm):Zp r [c,d] [x,y] false=if x ∈ Y3 r (c:Int) then (if y ∈ Y3 r (d:Int) then 0 else 10) else 10:=by
 rw [Vt];simp only [h,decide_false,Bool.not_false,Bool.true_and,if_false,Bool.false_and,Bool.or_false];by_cases hm:x ∈ Y3 r (c:Int)
 . simp only [hm,decide_true,Bool.not_true,false_eq_true,if_false,if_true];exact QM r d h' y
 . simp only [hm,decide_false,Bool.not_false,if_true,if_false]
theorem Yp (b:Bool) (e:Int) (l:List Int) (he:e ≠ 0):Zc (Z5 b e::l)=if b=true then e else Zc l:=by
 cases b
 . simp [Zc,Z5]
 . simp [Zc,Z5,he]
theorem Qo:Zc []=0:=rfl
theorem Vu (n a b:Int) (l:List Int):Zc (ZU n a b::l)=if n < a\/b < n then 3 else Zc l:=by
 unfold ZU;rw [Yp _ _ _ (by decide)];simp only [or_eq_true,decide_eq_true_eq]
theorem It (a b:Int) (l:List Int):Zc (spanI a b::l)=if b<=a\/100000000 < b then 14 else Zc l:=by
 unfold spanI;rw [Yp _ _ _ (by decide)];simp only [or_eq_true,decide_eq_true_eq,not_eq_true',decide_eq_false_iff_not,not_lt]
theorem Z8P {r:Reg} {a:Act} (h:¬ tk < r.tick):okA r tk a=okA r r.tick a:=by
 unfold okA;rw [if_neg h,if_neg (Int.lt_irrefl _)]
section
variable {r:Reg} (I:Inv r) (S:Safe r)
theorem Z8Q (S:Safe r):(Zp r [84] [t] false ≠ 0/\okA r r.tick (.track t v)=Zp r [84] [t] false)\/(Zp r [84] [t] false=0/\okA r r.tick (.track t v)=Zc [ZU v 1 400,Z5 (decide ((r.tracks.length:Int)=8)) 5]):=by
 rw [Z8N r 84 (by decide),show ((84+32:Nat):Int)=116 from rfl]
 simp only [Gt];unfold okA;rw [if_neg (Int.lt_irrefl _),Vu,Yp _ _ _ (by decide),Qo];have h8:((decide ((r.tracks.length:Int)=8))=true)=(8<=r.tracks.length):=by
  have:=S.nT;simp only [decide_eq_true_eq,eq_iff_iff];omega
 simp only [h8];cases r.track? t with
 | none=>exact .inr ⟨rfl,rfl⟩
 | some y=>exact .inl ⟨by simp,rfl⟩
theorem Z8R {b:Int} (S:Safe r) (hv:0<=v):(Zp r [70,116] [f,t] false ≠ 0/\okA r r.tick (.fault f t a b v)=Zp r [70,116] [f,t] false)\/(Zp r [70,116] [f,t] false=0/\okA r r.tick (.fault f t a b v)=Zc [spanI a b,ZU v 0 400,Z5 (decide ((r.faults.length:Int)=64)) 5]):=by
 rw [Gu r 70 116 (by decide) (by decide),show ((70+32:Nat):Int)=102 from rfl,show ((116:Nat):Int)=116 from rfl]
 simp only [Gt,CB];unfold okA;rw [if_neg (Int.lt_irrefl _),It,Vu,Yp _ _ _ (by decide),Qo];have h8:((decide ((r.faults.length:Int)=64))=true)=(64<=r.faults.length):=by
  have:=S.nF;simp only [decide_eq_true_eq,eq_iff_iff];omega
 have h9:(v < 0\/400 < v)=(400 < v):=by
  simp only [eq_iff_iff];omega
 simp only [h8,h9];cases r.track? t with
 | none=>exact .inl ⟨by simp,rfl⟩
 | some y =>
   cases r.fault? f with
   | none=>exact .inr ⟨rfl,rfl⟩
   | some z=>exact .inl ⟨by simp,rfl⟩
theorem Z8S:(Zp r [102] [f] false ≠ 0/\okA r r.tick (.answer f)=Zp r [102] [f] false)\/(Zp r [102] [f] false=0 /\ ∃ y,r.fault? f=some y/\okA r r.tick (.answer f)=Zc [Z5 y.rep 23,Z5 y.ans 9]):=by
 rw [QM r 102 (by decide),show ((102:Nat):Int)=102 from rfl]
 simp only [CB];unfold okA;rw [if_neg (Int.lt_irrefl _)];simp only;cases r.fault? f with
 | none=>exact .inl ⟨by simp,rfl⟩
 | some y=>exact .inr ⟨rfl,y,rfl,by rw [Yp _ _ _ (by decide),Yp _ _ _ (by decide),Qo]⟩
theorem Z8T (S:Safe r):(Zp r [102,112] [f,p] false ≠ 0/\okA r r.tick (.repair f p)=Zp r [102,112] [f,p] false)\/(Zp r [102,112] [f,p] false=0 /\ ∃ y q,r.fault? f=some y/\r.poss? p=some q/\okA r r.tick (.repair f p)=Zc [Z5 y.rep 23,Z5 (q.ret || !decide (q.track=y.track) || (decide (y.frm < q.frm) || decide (q.to < y.to))) 21,Z5 (decide (((r.within q.name).length:Int)=0) && decide (q.pers=0)) 12]):=by
 rw [Z8O r 102 112 (by decide) (by decide),show ((102:Nat):Int)=102 from rfl,show ((112:Nat):Int)=112 from rfl]
 simp only [CB,XK];unfold okA;rw [if_neg (Int.lt_irrefl _)];simp only;cases hf:r.fault? f with
 | none=>exact .inl ⟨by simp,rfl⟩
 | some y =>
   cases hp:r.poss? p with
   | none=>exact .inl ⟨by simp,rfl⟩
   | some q =>
     have hq:q.name=p:=by have:=(Gd hp).2;simpa using this
     refine .inr ⟨rfl,y,q,rfl,rfl, ?_⟩;rw [Yp _ _ _ (by decide),Yp _ _ _ (by decide),Yp _ _ _ (by decide),Qo,hq];simp only [or_eq_true,and_eq_true,decide_eq_true_eq,not_eq_true',decide_eq_false_iff_not,or_assoc];have e1:(((r.within p).length:Int)=0/\q.pers=0)=(q.pers=0/\r.within p=[]):=by
      simp only [eq_iff_iff,<- length_eq_zero_iff];omega
     simp only [e1,ne_eq]
theorem Z8U (S:Safe r):(Zp r [82,116] [x,t] false ≠ 0/\okA r r.tick (.enter x t v)=Zp r [82,116] [x,t] false)\/(Zp r [82,116] [x,t] false=0 /\ ∃ y,r.track? t=some y/\okA r r.tick (.enter x t v)=Zc [Z5 (r.taken t) 31,Z5 (r.silentOn t) 32,Z5 (decide (v < 1) || decide (r.permitted t < v)) 20,Z5 (decide ((r.trains.length:Int)=16)) 5]):=by
 rw [Gu r 82 116 (by decide) (by decide),show ((82+32:Nat):Int)=114 from rfl,show ((116:Nat):Int)=116 from rfl]
 simp only [Gt,Ir];unfold okA;rw [if_neg (Int.lt_irrefl _),Yp _ _ _ (by decide),Yp _ _ _ (by decide),Yp _ _ _ (by decide),Yp _ _ _ (by decide),Qo];have h8:((decide ((r.trains.length:Int)=16))=true)=(16<=r.trains.length):=by
  have:=S.nN;simp only [decide_eq_true_eq,eq_iff_iff];omega
 simp only [h8,or_eq_true,decide_eq_true_eq];cases r.track? t with
 | none=>exact .inl ⟨by simp,rfl⟩
 | some y =>
   cases r.train? x with
   | none=>exact .inr ⟨rfl,y,rfl,rfl⟩
   | some z=>exact .inl ⟨by simp,rfl⟩
theorem Z8V:(Zp r [114] [x] false ≠ 0/\okA r r.tick (.leave x)=Zp r [114] [x] false)\/(Zp r [114] [x] false=0/\okA r r.tick (.leave x)=0):=by
 rw [QM r 114 (by decide),show ((114:Nat):Int)=114 from rfl]
 simp only [Ir];unfold okA;rw [if_neg (Int.lt_irrefl _)];simp only;cases r.train? x with
 | none=>exact .inl ⟨by simp,rfl⟩
 | some y=>exact .inr ⟨rfl,rfl⟩
theorem k_out:(Zp r [109] [x] false ≠ 0/\okA r r.tick (.out x)=Zp r [109] [x] false)\/(Zp r [109] [x] false=0/\okA r r.tick (.out x)=0):=by
 rw [QM r 109 (by decide),show ((109:Nat):Int)=109 from rfl]
 simp only [Is];unfold okA;rw [if_neg (Int.lt_irrefl _)];simp only;cases r.mach? x with
 | none=>exact .inl ⟨by simp,rfl⟩
 | some y=>exact .inr ⟨rfl,rfl⟩
theorem ov_eq {b:Int} (S:Safe r) (h:a < b):ovR r t a b=r.overlaps t a b:=by
 unfold ovR Reg.overlaps;rw [Bool.eq_iff_iff,any_eq_true,any_eq_true];refine exists_congr fun p=>and_congr_right fun hp => ?_
 have:=S.span p hp;unfold XW ovP over KA Go.Sim.minI;simp only [and_eq_true,or_eq_true,decide_eq_true_eq,not_eq_true'];refine and_congr_right fun _ => ?_
 split<;>split<;>omega
theorem Z8W {b:Int} (S:Safe r):(Zp r [80,116] [p,t] false ≠ 0/\okA r r.tick (.take p t a b)=Zp r [80,116] [p,t] false)\/(Zp r [80,116] [p,t] false=0/\okA r r.tick (.take p t a b)=Zc [spanI a b,Z5 (r.manned t) 31,Z5 (ovR r t a b) 15,Z5 (decide ((r.poss.length:Int)=16)) 5]):=by
 rw [Gu r 80 116 (by decide) (by decide),show ((80+32:Nat):Int)=112 from rfl,show ((116:Nat):Int)=116 from rfl]
 simp only [Gt,XK];unfold okA;rw [if_neg (Int.lt_irrefl _),It,Yp _ _ _ (by decide),Yp _ _ _ (by decide),Yp _ _ _ (by decide),Qo];have h8:((decide ((r.poss.length:Int)=16))=true)=(16<=r.poss.length):=by
  have:=S.nP;simp only [decide_eq_true_eq,eq_iff_iff];omega
 simp only [h8];cases r.track? t with
 | none=>exact .inl ⟨by simp,rfl⟩
 | some y =>
   cases r.poss? p with
   | none =>
     refine .inr ⟨rfl, ?_⟩;by_cases hs:b<=a\/100000000 < b
     . simp [hs]
     . rw [ov_eq S (by omega)];rfl
   | some z=>exact .inl ⟨by simp,rfl⟩
theorem Jv (h:r.poss? p=some y):y ∈ r.poss/\y.name=p:=⟨(Gd h).1,by have:=(Gd h).2;simpa using this⟩
theorem Z8X:((r.within p).length:Int)=0 ↔ r.within p=[]:=by
 rw [<- length_eq_zero_iff];omega
theorem Z8Y:(Zp r [112] [p] false ≠ 0/\okA r r.tick (.prot p)=Zp r [112] [p] false)\/(Zp r [112] [p] false=0 /\ ∃ y,r.poss? p=some y/\okA r r.tick (.prot p)=if y.ret then 23 else Z5 y.prot 9):=by
 rw [QM r 112 (by decide),show ((112:Nat):Int)=112 from rfl]
 simp only [XK];unfold okA Yy;rw [if_neg (Int.lt_irrefl _)];simp only;cases r.poss? p with
 | none=>exact .inl ⟨by simp,rfl⟩
 | some y=>exact .inr ⟨rfl,y,rfl,rfl⟩
theorem Z8Z (S:Safe r):(Zp r [112] [p] false ≠ 0/\okA r r.tick (.clear p)=Zp r [112] [p] false)\/(Zp r [112] [p] false=0 /\ ∃ y,r.poss? p=some y/\okA r r.tick (.clear p)=if y.ret then 23 else Zc [Z5 (!y.prot) 22,Z5 (!(decide (((r.within y.name).length:Int)=0) && decide (y.pers=0))) 32]):=by
 rw [QM r 112 (by decide),show ((112:Nat):Int)=112 from rfl]
 simp only [XK];unfold okA Yy;rw [if_neg (Int.lt_irrefl _)];simp only;cases hp:r.poss? p with
 | none=>exact .inl ⟨by simp,rfl⟩
 | some y =>
   refine .inr ⟨rfl,y,rfl, ?_⟩;obtain ⟨hy,hn⟩:=Jv hp;have:=S.pers y hy;rw [Yp _ _ _ (by decide),Yp _ _ _ (by decide),Qo,hn];have e1:((!(decide (((r.within p).length:Int)=0) && decide (y.pers=0)))=true)=(0 < y.pers\/r.within p ≠ []):=by
    rw [eq_iff_iff];simp only [not_eq_true',and_eq_false_iff,decide_eq_false_iff_not,Z8X];constructor
    . rintro (h | h)
      . exact .inr h
      . exact .inl (by omega)
    . rintro (h | h)
      . exact .inr (by omega)
      . exact .inl h
   simp only [e1]
theorem k_in (S:Safe r):(Zp r [77,112] [m,p] false ≠ 0/\okA r r.tick (.into m p)=Zp r [77,112] [m,p] false)\/(Zp r [77,112] [m,p] false=0 /\ ∃ y,r.poss? p=some y/\okA r r.tick (.into m p)=if y.ret then 23 else Zc [Z5 (!y.prot) 21,Z5 (decide ((r.machs.length:Int)=16)) 5]):=by
 rw [Gu r 77 112 (by decide) (by decide),show ((77+32:Nat):Int)=109 from rfl,show ((112:Nat):Int)=112 from rfl]
 simp only [Is,XK];unfold okA;rw [if_neg (Int.lt_irrefl _)];simp only;have h8:((decide ((r.machs.length:Int)=16))=true)=(16<=r.machs.length):=by
  have:=S.nM;simp only [decide_eq_true_eq,eq_iff_iff];omega
 cases r.poss? p with
 | none=>exact .inl ⟨by simp,rfl⟩
 | some y =>
   cases r.mach? m with
   | none=>exact .inr ⟨rfl,y,rfl,by rw [Yp _ _ _ (by decide),Yp _ _ _ (by decide),Qo];simp only [h8];rfl⟩
   | some z=>exact .inl ⟨by simp,rfl⟩
theorem Z90:(Zp r [112] [p] false ≠ 0/\okA r r.tick (.staff p v)=Zp r [112] [p] false)\/(Zp r [112] [p] false=0 /\ ∃ y,r.poss? p=some y/\okA r r.tick (.staff p v)=if y.ret then 23 else Zc [ZU v 1 100,Z5 (!y.prot) 21,Z5 (decide (100 < y.pers+v)) 4]):=by
 rw [QM r 112 (by decide),show ((112:Nat):Int)=112 from rfl]
 simp only [XK];unfold okA Yy;rw [if_neg (Int.lt_irrefl _)];simp only;cases r.poss? p with
 | none=>exact .inl ⟨by simp,rfl⟩
 | some y=>exact .inr ⟨rfl,y,rfl,by rw [Vu,Yp _ _ _ (by decide),Yp _ _ _ (by decide),Qo];simp only [decide_eq_true_eq]⟩
theorem k_off:(Zp r [112] [p] false ≠ 0/\okA r r.tick (.off p v)=Zp r [112] [p] false)\/(Zp r [112] [p] false=0 /\ ∃ y,r.poss? p=some y/\okA r r.tick (.off p v)=if y.ret then 23 else Zc [ZU v 1 100,Z5 (decide (y.pers < v)) 16]):=by
 rw [QM r 112 (by decide),show ((112:Nat):Int)=112 from rfl]
 simp only [XK];unfold okA Yy;rw [if_neg (Int.lt_irrefl _)];simp only;cases r.poss? p with
 | none=>exact .inl ⟨by simp,rfl⟩
 | some y=>exact .inr ⟨rfl,y,rfl,by rw [Vu,Yp _ _ _ (by decide),Qo];simp only [decide_eq_true_eq]⟩
theorem Z91 (S:Safe r):(Zp r [112] [p] false ≠ 0/\okA r r.tick (.opn p)=Zp r [112] [p] false)\/(Zp r [112] [p] false=0 /\ ∃ y,r.poss? p=some y/\okA r r.tick (.opn p)=if y.ret then 23 else Zc [Z5 y.opn 9,Z5 (decide (y.closed=8)) 5]):=by
 rw [QM r 112 (by decide),show ((112:Nat):Int)=112 from rfl]
 simp only [XK];unfold okA Yy;rw [if_neg (Int.lt_irrefl _)];simp only;cases hp:r.poss? p with
 | none=>exact .inl ⟨by simp,rfl⟩
 | some y =>
   have:=S.closed y (Jv hp).1;have h8:((decide (y.closed=8))=true)=(8<=y.closed):=by
    simp only [decide_eq_true_eq,eq_iff_iff];omega
   exact .inr ⟨rfl,y,rfl,by rw [Yp _ _ _ (by decide),Yp _ _ _ (by decide),Qo];simp only [h8]⟩
theorem Z92:(Zp r [112] [p] false ≠ 0/\okA r r.tick (.close p v)=Zp r [112] [p] false)\/(Zp r [112] [p] false=0 /\ ∃ y,r.poss? p=some y/\okA r r.tick (.close p v)=if y.ret then 23 else Zc [ZU v 1 400,Z5 (!y.opn) 22]):=by
 rw [QM r 112 (by decide),show ((112:Nat):Int)=112 from rfl]
 simp only [XK];unfold okA Yy;rw [if_neg (Int.lt_irrefl _)];simp only;cases r.poss? p with
 | none=>exact .inl ⟨by simp,rfl⟩
 | some y=>exact .inr ⟨rfl,y,rfl,by rw [Vu,Yp _ _ _ (by decide),Qo]⟩
theorem k_ret:(Zp r [112] [p] false ≠ 0/\okA r r.tick (.ret p)=Zp r [112] [p] false)\/(Zp r [112] [p] false=0 /\ ∃ y,r.poss? p=some y/\okA r r.tick (.ret p)=if y.ret then 23 else Zc [Z5 (decide ((0:Int) < ((Xn r y.name y).length:Nat))) 32,Z5 (decide (y.closed=0)) 7]):=by
 rw [QM r 112 (by decide),show ((112:Nat):Int)=112 from rfl]
 simp only [XK];unfold okA Yy;rw [if_neg (Int.lt_irrefl _)];simp only;cases hp:r.poss? p with
 | none=>exact .inl ⟨by simp,rfl⟩
 | some y =>
   obtain ⟨hy,hn⟩:=Jv hp;have h8:((decide ((0:Int) < ((Xn r p y).length:Nat)))=true)=(r.within p ≠ []\/0 < y.pers\/y.opn=true\/y.prot=true):=by
    simp only [decide_eq_true_eq,eq_iff_iff];unfold Xn;simp only [length_append,length_map];have h0:r.within p ≠ [] ↔ 0 < (r.within p).length:=by rw [length_pos_iff]
    rw [h0];by_cases c1:0 < y.pers<;>by_cases c2:y.opn=true<;>by_cases c3:y.prot=true<;>simp [c1,c2,c3]<;>omega
   exact .inr ⟨rfl,y,rfl,by rw [Yp _ _ _ (by decide),Yp _ _ _ (by decide),Qo,hn];simp only [h8,decide_eq_true_eq]⟩
theorem Z93 (hv:0<=v):(Zp r [112] [p] false ≠ 0/\okA r r.tick (.raise p v)=Zp r [112] [p] false)\/(Zp r [112] [p] false=0 /\ ∃ y,r.poss? p=some y/\okA r r.tick (.raise p v)=Zc [Z5 (!y.ret) 22,ZU v 0 400,Z5 (decide (v<=y.speed)) 21]):=by
 rw [QM r 112 (by decide),show ((112:Nat):Int)=112 from rfl]
 simp only [XK];unfold okA;rw [if_neg (Int.lt_irrefl _)];simp only;have h9:(v < 0\/400 < v)=(400 < v):=by
  simp only [eq_iff_iff];omega
 cases r.poss? p with
 | none=>exact .inl ⟨by simp,rfl⟩
 | some y=>exact .inr ⟨rfl,y,rfl,by rw [Yp _ _ _ (by decide),Vu,Yp _ _ _ (by decide),Qo];simp only [h9,decide_eq_true_eq]⟩
end
end Go.Sim.Pos

namespace Go.Sim
variable {te:TypeId}
theorem Z94 {r:Reg} {k:Int} {a:Pos.Act} (hk:(k ≠ 0/\Pos.okA r r.tick a=k)\/k=0):(if num ≠ (n:Int)+1 then 11 else if tk < r.tick then 22 else if k ≠ 0 then k else Pos.okA r r.tick a)=if num ≠ (n:Int)+1 then 11 else Pos.okA r tk a:=by
 by_cases h1:num ≠ (n:Int)+1
 . rw [if_pos h1,if_pos h1]
 rw [if_neg h1,if_neg h1];by_cases h2:tk < r.tick
 . rw [if_pos h2];unfold Pos.okA;rw [if_pos h2]
 rw [if_neg h2,Pos.Z8P h2];rcases hk with ⟨h3,h4⟩ | h3
 . rw [if_pos h3,h4]
 . rw [if_neg (by simpa using h3)]
theorem PtP.old {H:Heap} {x:Pos} (h:PtP H id off x) (ho:Old H.n H H'):PtP H' id off x :=
 ⟨lt_of_lt_of_le h.lt ho.1,fun o=>h.f0 (ho.to o),fun o=>h.f1 (ho.to o),fun o=>h.f2 (ho.to o),fun o=>h.f3 (ho.to o),fun o=>h.f4 (ho.to o),fun o=>h.f5 (ho.to o),fun o=>h.f6 (ho.to o),fun o=>h.f7 (ho.to o),fun o=>h.f8 (ho.to o),fun o=>h.f9 (ho.to o),fun o=>h.sp (ho.to o)⟩
theorem XL {H:Heap} {hb:Nat} {es cs:List Ev} {r:Reg} {V:RegV} {vE vC:AV} (h:HisIs te H hb es cs r V vE vC) {a:Pos.Act} (hk:kind ≠ ZJ)
 {nm:List Nat} {fv:Int} {f1 f2:FuncId} {l1 l2:Nat->List AV} (hlk:∀ n,lkS kind (J6 n)=some (.agg [.str nm,.int .i64 fv,.fn f1 [] (l1 n),.fn f2 [] (l2 n)])) (hst:∀ n,(l1 n).map ZV=l1 n) (hu1:∀ n m,n+17<=m->YW m (l1 n)=true) (hu2:∀ n m,n+17<=m->YW m (l2 n)=true)
 (hb1:∀ x ∈ nm,x < 128) (hl:names.length=nm.length) (hs:nm.length<=2)
 (hK:(Zp r nm names false ≠ 0/\Pos.okA r r.tick a=Zp r nm names false)\/(Zp r nm names false=0 /\ ∀ n Hc,FormsAt n Hc->n+17<=Hc.n->Old H.n H Hc -> ∀ lo K,VO (Z9 PT (R PT) lo f1 (.ptr hb 2 :: .agg (evC num kind names (tk::vs) text)::l1 n) Hc) K=K (.int .i64 (Pos.okA r r.tick a)) Hc)) :
 ∃ w H2,R PT (.call H.n 105 [.ptr hb 0,.agg (evC num kind names (tk::vs) text)] H)=some (.ofVal w H2)/\w=.int .i64 (if num ≠ (es.length:Int)+1 then 11 else Pos.okA r tk a):=by
 obtain ⟨w,H2,h1,h2⟩:=Z8M h (num:=num) (tk:=tk) (text:=text) (vs:=vs) hk (c:=Pos.okA r r.tick a) hlk hst hu1 hu2 hb1 hl hs (fun k0=>by
  rcases hK with ⟨h3,_⟩ | ⟨_,h3⟩
  . exact absurd k0 h3
  . exact h3)
 exact ⟨w,H2,h1,h2.trans (congrArg _ (Z94 (hK.imp id (·.1))))⟩
theorem Yf {m:Nat} (h:k < m):YW m [.ptr k 0]=true:=by
 show (Nat.blt k m && true)=true;rw [Bool.and_true];exact Nat.ble_eq.symm ▸ h
section
variable {H:Heap} {hb:Nat} {es cs:List Ev} {r:Reg} {V:RegV} {vE vC:AV}
theorem Z95 (h:HisIs te H hb es cs r V vE vC) (S:Pos.Safe r):∃ w H2,R PT (.call H.n 105 [.ptr hb 0,.agg (evC num Xp [t] [tk,v] [])] H)=some (.ofVal w H2)/\w=.int .i64 (if num ≠ (es.length:Int)+1 then 11 else Pos.okA r tk (.track t v)):=by
 refine XL h (kind:=Xp) (names:=[t]) (vs:=[v]) (a:=.track t v) (by decide) (nm:=[84]) (fv:=2) (f1:=154) (f2:=155) (l1:=fun _=>[]) (l2:=fun _=>[]) (fun _=>rfl) (fun _=>rfl) (fun _ _ _=>rfl) (fun _ _ _=>rfl) (by decide) rfl (by decide) ?_;rcases Pos.Z8Q (r:=r) (t:=t) (v:=v) S with hl | ⟨h0,hc⟩
 . exact .inl hl
 refine .inr ⟨h0,fun n Hc hF hn ho lo K => ?_⟩;rw [hc];exact Z8g (h.reg.old ho)
theorem Z96 (h:HisIs te H hb es cs r V vE vC) (S:Pos.Safe r) {x y:Int} (hv:0<=v):∃ w H2,R PT (.call H.n 105 [.ptr hb 0,.agg (evC num Xc [f,t] [tk,x,y,v] [])] H)=some (.ofVal w H2)/\w=.int .i64 (if num ≠ (es.length:Int)+1 then 11 else Pos.okA r tk (.fault f t x y v)):=by
 refine XL h (kind:=Xc) (names:=[f,t]) (vs:=[x,y,v]) (a:=.fault f t x y v) (by decide) (nm:=[70,116]) (fv:=4) (f1:=156) (f2:=158) (l1:=fun _=>[]) (l2:=fun _=>[]) (fun _=>rfl) (fun _=>rfl) (fun _ _ _=>rfl) (fun _ _ _=>rfl) (by decide) rfl (by decide) ?_;rcases Pos.Z8R (r:=r) (f:=f) (t:=t) (a:=x) (b:=y) (v:=v) S hv with hl | ⟨h0,hc⟩
 . exact .inl hl
 refine .inr ⟨h0,fun n Hc hF hn ho lo K => ?_⟩;rw [hc];exact Z8i (h.reg.old ho)
theorem Z97 (h:HisIs te H hb es cs r V vE vC) (S:Pos.Safe r):∃ w H2,R PT (.call H.n 105 [.ptr hb 0,.agg (evC num YE [f] [tk] [])] H)=some (.ofVal w H2)/\w=.int .i64 (if num ≠ (es.length:Int)+1 then 11 else Pos.okA r tk (.answer f)):=by
 refine XL h (kind:=YE) (names:=[f]) (vs:=[]) (a:=.answer f) (by decide) (nm:=[102]) (fv:=1) (f1:=159) (f2:=160) (l1:=fun _=>[]) (l2:=fun _=>[]) (fun _=>rfl) (fun _=>rfl) (fun _ _ _=>rfl) (fun _ _ _=>rfl) (by decide) rfl (by decide) ?_;rcases Pos.Z8S (r:=r) (f:=f)  with hl | ⟨h0,y,hy,hc⟩
 . exact .inl hl
 refine .inr ⟨h0,fun n Hc hF hn ho lo K => ?_⟩;rw [hc];obtain ⟨i,hi⟩:=At.of (nm:=Flt.name) hy;exact Z8k (h.reg.old ho) hi
theorem Z98 (h:HisIs te H hb es cs r V vE vC) (S:Pos.Safe r):∃ w H2,R PT (.call H.n 105 [.ptr hb 0,.agg (evC num Yz [f,p] [tk] [])] H)=some (.ofVal w H2)/\w=.int .i64 (if num ≠ (es.length:Int)+1 then 11 else Pos.okA r tk (.repair f p)):=by
 refine XL h (kind:=Yz) (names:=[f,p]) (vs:=[]) (a:=.repair f p) (by decide) (nm:=[102,112]) (fv:=1) (f1:=161) (f2:=162) (l1:=fun _=>[]) (l2:=fun _=>[]) (fun _=>rfl) (fun _=>rfl) (fun _ _ _=>rfl) (fun _ _ _=>rfl) (by decide) rfl (by decide) ?_;rcases Pos.Z8T (r:=r) (f:=f) (p:=p) S with hl | ⟨h0,y,q,hy,hq,hc⟩
 . exact .inl hl
 refine .inr ⟨h0,fun n Hc hF hn ho lo K => ?_⟩;rw [hc];obtain ⟨i,hi⟩:=At.of (nm:=Flt.name) hy;obtain ⟨j,hj⟩:=At.of (nm:=Pos.name) hq;exact Z8q (h.reg.old ho) hi hj (by rw [(Pos.Jv hq).2];exact hq)
theorem Z99 (h:HisIs te H hb es cs r V vE vC) (S:Pos.Safe r):∃ w H2,R PT (.call H.n 105 [.ptr hb 0,.agg (evC num ZZ [x,t] [tk,v] [])] H)=some (.ofVal w H2)/\w=.int .i64 (if num ≠ (es.length:Int)+1 then 11 else Pos.okA r tk (.enter x t v)):=by
 refine XL h (kind:=ZZ) (names:=[x,t]) (vs:=[v]) (a:=.enter x t v) (by decide) (nm:=[82,116]) (fv:=2) (f1:=163) (f2:=164) (l1:=fun _=>[]) (l2:=fun _=>[]) (fun _=>rfl) (fun _=>rfl) (fun _ _ _=>rfl) (fun _ _ _=>rfl) (by decide) rfl (by decide) ?_;rcases Pos.Z8U (r:=r) (x:=x) (t:=t) (v:=v) S with hl | ⟨h0,y,hy,hc⟩
 . exact .inl hl
 refine .inr ⟨h0,fun n Hc hF hn ho lo K => ?_⟩;rw [hc];exact Z8o (h.reg.old ho) hy
theorem Z9a (h:HisIs te H hb es cs r V vE vC) (S:Pos.Safe r):∃ w H2,R PT (.call H.n 105 [.ptr hb 0,.agg (evC num Yb [x] [tk] [])] H)=some (.ofVal w H2)/\w=.int .i64 (if num ≠ (es.length:Int)+1 then 11 else Pos.okA r tk (.leave x)):=by
 refine XL h (kind:=Yb) (names:=[x]) (vs:=[]) (a:=.leave x) (by decide) (nm:=[114]) (fv:=1) (f1:=165) (f2:=166) (l1:=fun _=>[]) (l2:=fun _=>[]) (fun _=>rfl) (fun _=>rfl) (fun _ _ _=>rfl) (fun _ _ _=>rfl) (by decide) rfl (by decide) ?_;rcases Pos.Z8V (r:=r) (x:=x)  with hl | ⟨h0,hc⟩
 . exact .inl hl
 refine .inr ⟨h0,fun n Hc hF hn ho lo K => ?_⟩;rw [hc];exact Io (h.reg.old ho)
theorem Z9b (h:HisIs te H hb es cs r V vE vC) (S:Pos.Safe r) {x y:Int}:∃ w H2,R PT (.call H.n 105 [.ptr hb 0,.agg (evC num Yc [p,t] [tk,x,y] [])] H)=some (.ofVal w H2)/\w=.int .i64 (if num ≠ (es.length:Int)+1 then 11 else Pos.okA r tk (.take p t x y)):=by
 refine XL h (kind:=Yc) (names:=[p,t]) (vs:=[x,y]) (a:=.take p t x y) (by decide) (nm:=[80,116]) (fv:=3) (f1:=169) (f2:=170) (l1:=fun _=>[]) (l2:=fun _=>[]) (fun _=>rfl) (fun _=>rfl) (fun _ _ _=>rfl) (fun _ _ _=>rfl) (by decide) rfl (by decide) ?_;rcases Pos.Z8W (r:=r) (p:=p) (t:=t) (a:=x) (b:=y) S with hl | ⟨h0,hc⟩
 . exact .inl hl
 refine .inr ⟨h0,fun n Hc hF hn ho lo K => ?_⟩;rw [hc];exact Z8t (h.reg.old ho)
theorem Z9c (h:HisIs te H hb es cs r V vE vC) (S:Pos.Safe r):∃ w H2,R PT (.call H.n 105 [.ptr hb 0,.agg (evC num Xq [p] [tk] [])] H)=some (.ofVal w H2)/\w=.int .i64 (if num ≠ (es.length:Int)+1 then 11 else Pos.okA r tk (.prot p)):=by
 refine XL h (kind:=Xq) (names:=[p]) (vs:=[]) (a:=.prot p) (by decide) (nm:=[112]) (fv:=1) (f1:=273) (f2:=274) (l1:=fun n=>[.ptr (n+1) 0]) (l2:=fun n=>[.ptr (n+2) 0]) (fun _=>rfl) (fun _=>rfl) (fun n m hm=>Yf (by omega)) (fun n m hm=>Yf (by omega)) (by decide) rfl (by decide) ?_;rcases Pos.Z8Y (r:=r) (p:=p)  with hl | ⟨h0,y,hy,hc⟩
 . exact .inl hl
 refine .inr ⟨h0,fun n Hc hF hn ho lo K => ?_⟩;rw [hc];obtain ⟨i,hi⟩:=At.of (nm:=Pos.name) hy;obtain ⟨id,he,hP⟩:=Qn (h.reg.old ho) hi.at';exact KQ (m:=[]) (h.reg.old ho) hi he hP (bx:=n+1) (by omega) (hF.box 1 (by omega) (by omega)) (fun _ Hc2 ho2 lo K=>Z8v ((h.reg.old ho).old ho2) (hP.old ho2))
theorem Z9d (h:HisIs te H hb es cs r V vE vC) (S:Pos.Safe r):∃ w H2,R PT (.call H.n 105 [.ptr hb 0,.agg (evC num YZ [p] [tk] [])] H)=some (.ofVal w H2)/\w=.int .i64 (if num ≠ (es.length:Int)+1 then 11 else Pos.okA r tk (.clear p)):=by
 refine XL h (kind:=YZ) (names:=[p]) (vs:=[]) (a:=.clear p) (by decide) (nm:=[112]) (fv:=1) (f1:=273) (f2:=274) (l1:=fun n=>[.ptr (n+3) 0]) (l2:=fun n=>[.ptr (n+4) 0]) (fun _=>rfl) (fun _=>rfl) (fun n m hm=>Yf (by omega)) (fun n m hm=>Yf (by omega)) (by decide) rfl (by decide) ?_;rcases Pos.Z8Z (r:=r) (p:=p) S with hl | ⟨h0,y,hy,hc⟩
 . exact .inl hl
 refine .inr ⟨h0,fun n Hc hF hn ho lo K => ?_⟩;rw [hc];obtain ⟨i,hi⟩:=At.of (nm:=Pos.name) hy;obtain ⟨id,he,hP⟩:=Qn (h.reg.old ho) hi.at';have hp:r.poss? y.name=some y:=by rw [(Pos.Jv hy).2];exact hy
 exact KQ (m:=[]) (h.reg.old ho) hi he hP (bx:=n+3) (by omega) (hF.box 3 (by omega) (by omega)) (fun _ Hc2 ho2 lo K=>Z8x ((h.reg.old ho).old ho2) (hP.old ho2) hp)
theorem a_In (h:HisIs te H hb es cs r V vE vC) (S:Pos.Safe r):∃ w H2,R PT (.call H.n 105 [.ptr hb 0,.agg (evC num Pos.kIn [m,p] [tk] [])] H)=some (.ofVal w H2)/\w=.int .i64 (if num ≠ (es.length:Int)+1 then 11 else Pos.okA r tk (.into m p)):=by
 refine XL h (kind:=Pos.kIn) (names:=[m,p]) (vs:=[]) (a:=.into m p) (by decide) (nm:=[77,112]) (fv:=1) (f1:=273) (f2:=178) (l1:=fun n=>[.ptr (n+5) 0]) (l2:=fun _=>[]) (fun _=>rfl) (fun _=>rfl) (fun n m hm=>Yf (by omega)) (fun _ _ _=>rfl) (by decide) rfl (by decide) ?_;rcases Pos.k_in (r:=r) (m:=m) (p:=p) S with hl | ⟨h0,y,hy,hc⟩
 . exact .inl hl
 refine .inr ⟨h0,fun n Hc hF hn ho lo K => ?_⟩;rw [hc];obtain ⟨i,hi⟩:=At.of (nm:=Pos.name) hy;obtain ⟨id,he,hP⟩:=Qn (h.reg.old ho) hi.at';exact Z8K (m:=m) (h.reg.old ho) hi he hP (bx:=n+5) (by omega) (hF.box 5 (by omega) (by omega)) (fun _ Hc2 ho2 lo K=>e_iIn ((h.reg.old ho).old ho2) (hP.old ho2))
theorem a_Out (h:HisIs te H hb es cs r V vE vC) (S:Pos.Safe r):∃ w H2,R PT (.call H.n 105 [.ptr hb 0,.agg (evC num Xd [x] [tk] [])] H)=some (.ofVal w H2)/\w=.int .i64 (if num ≠ (es.length:Int)+1 then 11 else Pos.okA r tk (.out x)):=by
 refine XL h (kind:=Xd) (names:=[x]) (vs:=[]) (a:=.out x) (by decide) (nm:=[109]) (fv:=1) (f1:=165) (f2:=179) (l1:=fun _=>[]) (l2:=fun _=>[]) (fun _=>rfl) (fun _=>rfl) (fun _ _ _=>rfl) (fun _ _ _=>rfl) (by decide) rfl (by decide) ?_;rcases Pos.k_out (r:=r) (x:=x)  with hl | ⟨h0,hc⟩
 . exact .inl hl
 refine .inr ⟨h0,fun n Hc hF hn ho lo K => ?_⟩;rw [hc];exact Io (h.reg.old ho)
theorem Z9e (h:HisIs te H hb es cs r V vE vC) (S:Pos.Safe r) (hv:0<=v/\v<=999999999):∃ w H2,R PT (.call H.n 105 [.ptr hb 0,.agg (evC num X2 [p] [tk,v] [])] H)=some (.ofVal w H2)/\w=.int .i64 (if num ≠ (es.length:Int)+1 then 11 else Pos.okA r tk (.staff p v)):=by
 refine XL h (kind:=X2) (names:=[p]) (vs:=[v]) (a:=.staff p v) (by decide) (nm:=[112]) (fv:=2) (f1:=273) (f2:=274) (l1:=fun n=>[.ptr (n+6) 0]) (l2:=fun n=>[.ptr (n+7) 0]) (fun _=>rfl) (fun _=>rfl) (fun n m hm=>Yf (by omega)) (fun n m hm=>Yf (by omega)) (by decide) rfl (by decide) ?_;rcases Pos.Z90 (r:=r) (p:=p) (v:=v)  with hl | ⟨h0,y,hy,hc⟩
 . exact .inl hl
 refine .inr ⟨h0,fun n Hc hF hn ho lo K => ?_⟩;rw [hc];obtain ⟨i,hi⟩:=At.of (nm:=Pos.name) hy;obtain ⟨id,he,hP⟩:=Qn (h.reg.old ho) hi.at';have hw:ZC .i64 (Int.add y.pers v)=y.pers+v:=by
  have:=S.pers y (Pos.Jv hy).1;show ZC .i64 (y.pers+v)=_;exact JX (by omega) (by omega)
 exact KQ (m:=[]) (h.reg.old ho) hi he hP (bx:=n+6) (by omega) (hF.box 6 (by omega) (by omega)) (fun _ Hc2 ho2 lo K=>Z8z ((h.reg.old ho).old ho2) (hP.old ho2) hw)
theorem a_Off (h:HisIs te H hb es cs r V vE vC) (S:Pos.Safe r):∃ w H2,R PT (.call H.n 105 [.ptr hb 0,.agg (evC num YT [p] [tk,v] [])] H)=some (.ofVal w H2)/\w=.int .i64 (if num ≠ (es.length:Int)+1 then 11 else Pos.okA r tk (.off p v)):=by
 refine XL h (kind:=YT) (names:=[p]) (vs:=[v]) (a:=.off p v) (by decide) (nm:=[112]) (fv:=2) (f1:=273) (f2:=274) (l1:=fun n=>[.ptr (n+8) 0]) (l2:=fun n=>[.ptr (n+9) 0]) (fun _=>rfl) (fun _=>rfl) (fun n m hm=>Yf (by omega)) (fun n m hm=>Yf (by omega)) (by decide) rfl (by decide) ?_;rcases Pos.k_off (r:=r) (p:=p) (v:=v)  with hl | ⟨h0,y,hy,hc⟩
 . exact .inl hl
 refine .inr ⟨h0,fun n Hc hF hn ho lo K => ?_⟩;rw [hc];obtain ⟨i,hi⟩:=At.of (nm:=Pos.name) hy;obtain ⟨id,he,hP⟩:=Qn (h.reg.old ho) hi.at';exact KQ (m:=[]) (h.reg.old ho) hi he hP (bx:=n+8) (by omega) (hF.box 8 (by omega) (by omega)) (fun _ Hc2 ho2 lo K=>Z8B ((h.reg.old ho).old ho2) (hP.old ho2))
theorem Z9f (h:HisIs te H hb es cs r V vE vC) (S:Pos.Safe r):∃ w H2,R PT (.call H.n 105 [.ptr hb 0,.agg (evC num YO [p] [tk] [])] H)=some (.ofVal w H2)/\w=.int .i64 (if num ≠ (es.length:Int)+1 then 11 else Pos.okA r tk (.opn p)):=by
 refine XL h (kind:=YO) (names:=[p]) (vs:=[]) (a:=.opn p) (by decide) (nm:=[112]) (fv:=1) (f1:=273) (f2:=274) (l1:=fun n=>[.ptr (n+10) 0]) (l2:=fun n=>[.ptr (n+11) 0]) (fun _=>rfl) (fun _=>rfl) (fun n m hm=>Yf (by omega)) (fun n m hm=>Yf (by omega)) (by decide) rfl (by decide) ?_;rcases Pos.Z91 (r:=r) (p:=p) S with hl | ⟨h0,y,hy,hc⟩
 . exact .inl hl
 refine .inr ⟨h0,fun n Hc hF hn ho lo K => ?_⟩;rw [hc];obtain ⟨i,hi⟩:=At.of (nm:=Pos.name) hy;obtain ⟨id,he,hP⟩:=Qn (h.reg.old ho) hi.at';exact KQ (m:=[]) (h.reg.old ho) hi he hP (bx:=n+10) (by omega) (hF.box 10 (by omega) (by omega)) (fun _ Hc2 ho2 lo K=>Z8D ((h.reg.old ho).old ho2) (hP.old ho2))
theorem Z9g (h:HisIs te H hb es cs r V vE vC) (S:Pos.Safe r):∃ w H2,R PT (.call H.n 105 [.ptr hb 0,.agg (evC num YF [p] [tk,v] [])] H)=some (.ofVal w H2)/\w=.int .i64 (if num ≠ (es.length:Int)+1 then 11 else Pos.okA r tk (.close p v)):=by
 refine XL h (kind:=YF) (names:=[p]) (vs:=[v]) (a:=.close p v) (by decide) (nm:=[112]) (fv:=2) (f1:=273) (f2:=274) (l1:=fun n=>[.ptr (n+12) 0]) (l2:=fun n=>[.ptr (n+13) 0]) (fun _=>rfl) (fun _=>rfl) (fun n m hm=>Yf (by omega)) (fun n m hm=>Yf (by omega)) (by decide) rfl (by decide) ?_;rcases Pos.Z92 (r:=r) (p:=p) (v:=v)  with hl | ⟨h0,y,hy,hc⟩
 . exact .inl hl
 refine .inr ⟨h0,fun n Hc hF hn ho lo K => ?_⟩;rw [hc];obtain ⟨i,hi⟩:=At.of (nm:=Pos.name) hy;obtain ⟨id,he,hP⟩:=Qn (h.reg.old ho) hi.at';exact KQ (m:=[]) (h.reg.old ho) hi he hP (bx:=n+12) (by omega) (hF.box 12 (by omega) (by omega)) (fun _ Hc2 ho2 lo K=>Z8F ((h.reg.old ho).old ho2) (hP.old ho2))
theorem Z9h (h:HisIs te H hb es cs r V vE vC) (S:Pos.Safe r):∃ w H2,R PT (.call H.n 105 [.ptr hb 0,.agg (evC num Y7 [p] [tk] [])] H)=some (.ofVal w H2)/\w=.int .i64 (if num ≠ (es.length:Int)+1 then 11 else Pos.okA r tk (.ret p)):=by
 refine XL h (kind:=Y7) (names:=[p]) (vs:=[]) (a:=.ret p) (by decide) (nm:=[112]) (fv:=1) (f1:=273) (f2:=274) (l1:=fun n=>[.ptr (n+14) 0]) (l2:=fun n=>[.ptr (n+15) 0]) (fun _=>rfl) (fun _=>rfl) (fun n m hm=>Yf (by omega)) (fun n m hm=>Yf (by omega)) (by decide) rfl (by decide) ?_;rcases Pos.k_ret (r:=r) (p:=p)  with hl | ⟨h0,y,hy,hc⟩
 . exact .inl hl
 refine .inr ⟨h0,fun n Hc hF hn ho lo K => ?_⟩;rw [hc];obtain ⟨i,hi⟩:=At.of (nm:=Pos.name) hy;obtain ⟨id,he,hP⟩:=Qn (h.reg.old ho) hi.at';have hp:r.poss? y.name=some y:=by rw [(Pos.Jv hy).2];exact hy
 have hm:r.machs.length+3<=Z2:=by have:=S.nM;unfold Z2;omega
 exact KQ (m:=[]) (h.reg.old ho) hi he hP (bx:=n+14) (by omega) (hF.box 14 (by omega) (by omega)) (fun _ Hc2 ho2 lo K=>Z8H ((h.reg.old ho).old ho2) (hP.old ho2) hp hm)
theorem Z9i (h:HisIs te H hb es cs r V vE vC) (S:Pos.Safe r) (hv:0<=v):∃ w H2,R PT (.call H.n 105 [.ptr hb 0,.agg (evC num XD [p] [tk,v] [])] H)=some (.ofVal w H2)/\w=.int .i64 (if num ≠ (es.length:Int)+1 then 11 else Pos.okA r tk (.raise p v)):=by
 refine XL h (kind:=XD) (names:=[p]) (vs:=[v]) (a:=.raise p v) (by decide) (nm:=[112]) (fv:=2) (f1:=192) (f2:=274) (l1:=fun _=>[]) (l2:=fun n=>[.ptr (n+16) 0]) (fun _=>rfl) (fun _=>rfl) (fun _ _ _=>rfl) (fun n m hm=>Yf (by omega)) (by decide) rfl (by decide) ?_;rcases Pos.Z93 (r:=r) (p:=p) (v:=v) hv with hl | ⟨h0,y,hy,hc⟩
 . exact .inl hl
 refine .inr ⟨h0,fun n Hc hF hn ho lo K => ?_⟩;rw [hc];obtain ⟨i,hi⟩:=At.of (nm:=Pos.name) hy;exact Z8m (h.reg.old ho) hi
end
theorem Z9j {cs:List Ev} (h:HisIs te H hb es cs r V vE vC):∃ w H2,R PT (.call H.n 105 [.ptr hb 0,.agg (evC num ZJ [] [] [])] H)=some (.ofVal w H2)/\w=.int .i64 (XV ⟨cs,r⟩ es.length ⟨num,ZJ,[],[],[]⟩):=by
 refine Zd (C:=PT) (f:=105) (lo:=H.n) (args:=[.ptr hb 0,.agg (evC num ZJ [] [] [])]) (H:=H) (fn:=Tryz.f105) (Q:=fun w _=>w=.int .i64 (XV ⟨cs,r⟩ es.length ⟨num,ZJ,[],[],[]⟩)) (by kernel_rfl) Tryz.func105 rfl rfl ?_;have hh0:=fun H'=>h.h0 (H':=H')
 have hh1:=fun H'=>h.h1 (H':=H')
 have nE:=fun H'=>(Ju h.aE).len (t:=22) (by kernel_rfl) H'
 have nC:=fun H'=>(Ju h.aC).len (t:=22) (by kernel_rfl) H'
 simp only [length_map] at nE nC;have uE:=fun n (hn:H.n<=n)=>(Ju h.aE).under hn
 have uC:=fun n (hn:H.n<=n)=>(Ju h.aC).under hn
 have hbn:=eq_true h.reg.bn;have hw:ZC .i64 (Int.add (es.length:Int) 1)=(es.length:Int)+1:=by
  have:=h.lE;exact Vb (n:=es.length+1) (by omega)
 have hku:Z6 ZJ [117,110,100,111]=true:=by decide
 unfold XV;by_cases c1:¬ num=(es.length:Int)+1
 . rw [if_pos c1];simp (maxDischargeDepth:=12) only [go_sem,reduceEqDiff,reduceAdd,reduceSub,reduceCtorEq,hh0,nE,hw,c1]
 rw [if_neg c1,if_pos rfl];have c1:=Decidable.not_not.1 c1;rcases eq_nil_or_concat cs with rfl | ⟨ds,l,rfl⟩
 . have e0:((([]:List Ev).length:Nat):Int)=0:=rfl;rw [e0] at nC;simp (maxDischargeDepth:=12) only [go_sem,reduceEqDiff,reduceAdd,reduceSub,reduceCtorEq,hh0,hh1,nE,nC,hw,eq_true c1,hku];rfl
 . rw [concat_eq_append] at *;have hlen:(ds++[l]).length=ds.length+1:=by simp
   rw [hlen] at nC;have hlC:=h.lC;rw [hlen] at hlC;have hne:((ds.length+1:Nat):Int) ≠ 0:=by omega
   have hne':=eq_false hne;have hw2:ZC .i64 (Int.sub ((ds.length+1:Nat):Int) 1)=(ds.length:Int):=BD (k:=ds.length+1) (by omega) (Nat.le_refl _) (by unfold Z2;omega);have hx:=(Ju h.aC).idx (t:=22) (by kernel_rfl) (by kernel_rfl) (ZD (by intro x;rfl) _) (by rw [length_map,hlen];omega:ds.length < _) .i64;obtain ⟨id,he,hid,hf,_⟩:=Cl h.aC (ZD (by intro x;rfl) _) (i:=ds.length) (row:=l.row) (by rw [getElem?_map];simp);have hk1:=fun H' (ho:Old H.n H H')=>hf ho (k:=1) (c:=.str l.kind) (t:=9) rfl (by kernel_rfl) (by kernel_rfl)
   have hidt:=eq_true hid;have hlast:(ds++[l]).getLast? = some l:=by simp
   have hJ:(match (ds++[l]).getLast? with | none=>(12:Int) | some l=>if l.kind=ZZ\/l.kind=Y7 then 21 else 0)=if l.kind=ZZ\/l.kind=Y7 then 21 else 0:=by rw [hlast]
   rw [hlast];simp only;have eE:Z6 l.kind [101,110,116,101,114]=decide (l.kind=ZZ):=Ys _ _;have eR:Z6 l.kind [114,101,116,117,114,110]=decide (l.kind=Y7):=Ys _ _;have hz:(ds.length+1=0)=False:=eq_false (by omega);by_cases k1:l.kind=ZZ
   . have k1':decide (l.kind=ZZ)=true:=decide_eq_true k1;rw [if_pos (show l.kind=ZZ\/l.kind=Y7 from .inl k1)]
     simp (maxDischargeDepth:=12) only [go_sem,reduceEqDiff,reduceAdd,reduceSub,reduceCtorEq,hh0,hh1,nE,nC,hw,eq_true c1,hku,hne',hw2,hx,he,hk1,eE,k1',Uh];rfl
   . by_cases k2:l.kind=Y7
     . rw [if_pos (show l.kind=ZZ\/l.kind=Y7 from .inr k2)]
       have k1':decide (l.kind=ZZ)=false:=decide_eq_false k1;have k2':decide (l.kind=Y7)=true:=decide_eq_true k2;simp (maxDischargeDepth:=12) only [go_sem,reduceEqDiff,reduceAdd,reduceSub,reduceCtorEq,hh0,hh1,nE,nC,hw,eq_true c1,hku,hne',hw2,hx,he,hk1,eE,eR,k1',k2',Uh];rfl
     . rw [if_neg (show ¬ (l.kind=ZZ\/l.kind=Y7) from fun h=>h.elim k1 k2)]
       have k1':decide (l.kind=ZZ)=false:=decide_eq_false k1;have k2':decide (l.kind=Y7)=false:=decide_eq_false k2;simp (maxDischargeDepth:=12) only [go_sem,reduceEqDiff,reduceAdd,reduceSub,reduceCtorEq,hh0,hh1,nE,nC,hw,eq_true c1,hku,hne',hw2,hx,he,hk1,eE,eR,k1',k2',Uh];rfl
theorem Z9k (nm:Nm→Bool) {cs:List Ev} (h:HisIs te H hb es cs r V vE vC) (S:Pos.Safe r) {e:Ev} (hc:Y1 nm e=0):∃ w H2,R PT (.call H.n 105 [.ptr hb 0,.agg e.row] H)=some (.ofVal w H2)∧w=.int .i64 (XV ⟨cs,r⟩ es.length e):=by
 by_cases hu:e.kind=ZJ
 · have he:=Pos.Iq nm hc hu;rw [he];exact Z9j h
 obtain ⟨tk,a,ha,he,h0,h9⟩:=Pos.Un nm hc hu;obtain ⟨_,_,_,_,_,_,hv,_⟩:=KF nm hc;have hJ:XV ⟨cs,r⟩ es.length e=if e.num ≠ (es.length:Int)+1 then 11 else Pos.okA r tk a:=by
  unfold XV;rw [if_neg hu];simp only [ha]
 rw [hJ];clear hJ hc hu;generalize e.num=num at he ⊢;cases a<;>(simp only [he,Pos.Ze] at hv ⊢;clear he)
 case track=>exact Z95 h S
 case fault=>exact Z96 h S (hv _ (by simp)).1
 case answer=>exact Z97 h S
 case repair=>exact Z98 h S
 case enter=>exact Z99 h S
 case leave=>exact Z9a h S
 case take=>exact Z9b h S
 case prot=>exact Z9c h S
 case clear=>exact Z9d h S
 case into=>exact a_In h S
 case out=>exact a_Out h S
 case staff=>exact Z9e h S (hv _ (by simp))
 case off=>exact a_Off h S
 case opn=>exact Z9f h S
 case close=>exact Z9g h S
 case ret=>exact Z9h h S
 case raise=>exact Z9i h S (hv _ (by simp)).1
theorem Z9l (nm:Nm->Bool) {cs:List Ev} (h:HisIs te H hb es cs r V vE vC) (S:Pos.Safe r) {e:Ev} (hc:Y1 nm e=0) (ho:Old H.n H Hc) {K:AV->Heap->Prop}:VO (Z9 PT (R PT) lo 105 [.ptr hb 0,.agg e.row] Hc) K=K (.int .i64 (XV ⟨cs,r⟩ es.length e)) Hc:=by
 obtain ⟨w,H2,h1,h2⟩:=Z9k nm (h.old ho) S hc;exact ZX (en105 rfl) ⟨H2,h1⟩ (by rw [h2];rfl) rfl
end Go.Sim

namespace Go.Sim
def sst (lo:Nat) (H:Heap) (t:TypeId) (a v:AV):Option Heap:=Q9 NC.P lo H t a v
section
variable {rec:Rec} {fid lo:Nat} {T:TT AV} {H:Heap} {K:AV->Heap->Prop} {d:Option Tmp} {t:TypeId} {p:String} {af:Array Edge} {gd:Option (Nat × Bool)}
theorem Z9m (t':TypeId) (a x:Operand):VO (aop PT rec fid lo ⟨d,.store t' a x,t,p,af,gd⟩ T H) K=AO (Z4 PT T a) fun a=>AO (Z4 PT T x) fun x=>AO (sst lo H t' a x) fun H=>K Y9 H:=Bj t' a x
end
attribute [go_sem ↓ 2000] Z9m
theorem Z9n (lo:Nat) (H:Heap) (t:TypeId) (a b:Nat) (v:AV):sst lo H t (.ptr a b) v=Q9 NC.P lo H t (.ptr a b) v:=rfl
attribute [go_sem 100] Z9n
structure Chg (lo b:Nat) (X:ABlk->Prop) (H H':Heap):Prop where
 n:H.n<=H'.n
 ch:∀ i,i < H.n->H'.get i=H.get i\/(lo<=i/\(i=b\/X (H.get i)))
def Xt (sz:Nat) (te:TypeId):ABlk->Prop:=fun x=>∃ cs,x=.row cs sz te
def QB:ABlk->Prop:=fun x=>∃ cs sz te,x=.row cs sz te
theorem Chg.mono {lo:Nat} {Y:ABlk->Prop} {H:Heap} (c:Chg lo b X H H') (h:∀ x,X x->Y x):Chg lo b Y H H' :=
 ⟨c.n,fun i hi=>(c.ch i hi).imp id fun ⟨a,d⟩=>⟨a,d.imp id (h _)⟩⟩
theorem Chg.old {lo:Nat} {H:Heap} (c:Chg lo b X H H') (hl:lo<=H.n):Old lo H H' :=
 ⟨Nat.le_trans hl c.n,fun i hi=>(c.ch i (by omega)).elim id fun h=>absurd h.1 (by omega)⟩
theorem Chg.refl {lo:Nat} (H:Heap):Chg lo b X H H:=⟨Nat.le_refl _,fun _ _=>.inl rfl⟩
theorem Chg.push {lo:Nat} {H:Heap} (c:Chg lo b X H H') (x:ABlk):Chg lo b X H (H'.push x) :=
 ⟨by simp;have:=c.n;omega,fun i hi=>by rw [Heap.get_push,if_neg (by have:=c.n;omega)];exact c.ch i hi⟩
theorem Chg.set {lo:Nat} {H:Heap} (c:Chg lo b X H H') (hj:lo<=j) (h:j=b\/X (H.get j)\/H.n<=j) (x:ABlk):Chg lo b X H (H'.set j x) :=
 ⟨by simpa using c.n,fun i hi=>by
   rw [Heap.get_set];split
   . rename_i he
     subst he;rcases h with h | h | h
     . exact .inr ⟨hj,.inl h⟩
     . exact .inr ⟨hj,.inr h⟩
     . omega
   . exact c.ch i hi⟩
theorem Chg.to {lo:Nat} {H H1 H2:Heap} (c:Chg lo b X H H1) (d:Chg lo b X H1 H2):Chg lo b X H H2 :=
 ⟨Nat.le_trans c.n d.n,fun i hi=>by
   rcases c.ch i hi with h | h
   . rcases d.ch i (lt_of_lt_of_le hi c.n) with h2 | ⟨h2,h3⟩
     . exact .inl (h2.trans h)
     . exact .inr ⟨h2,by rw [<- h];exact h3⟩
   . exact .inr h⟩
theorem Chg.cells {lo:Nat} {H:Heap} (c:Chg lo b QB H H') (hi:i < H.n) (hb:i ≠ b) (h:H.get i=.cells cs e):H'.get i=.cells cs e:=by
 rcases c.ch i hi with h2 | ⟨_,h2 | ⟨_,_,_,h2⟩⟩
 . rw [h2,h]
 . exact absurd h2 hb
 . rw [h] at h2;cases h2
def PW (lo:Nat) (H:Heap) (v:AV) (sz:Nat) (te:TypeId) (rows:List (List AV)):Prop:=∃ t,v=.ps t rows/\ZB lo H t rows sz te
def SW (lo:Nat) (H:Heap) (v:AV) (sz:Nat) (te:TypeId) (rows:List (List AV)):Prop:=Pos.SV sz te H v rows /\ ∀ i a b c d,v=.rs i a b c d->lo<=i
theorem PW.pa {lo:Nat} {H:Heap} {v:AV} (h:PW lo H v sz te rows):PA H v sz te rows:=by
 obtain ⟨t,h1,h2 | ⟨j,h2,h3,h4,h5⟩⟩:=h
 . exact ⟨t,h1,.inl h2⟩
 . exact ⟨t,h1,.inr ⟨j,h2,h3,zero_le _,h5⟩⟩
theorem PW.chg {lo:Nat} {H:Heap} {v:AV} (h:PW lo H v sz' te' rows) (c:Chg lo b X H H') (hne:∀ cs,¬ X (.row cs sz' te')) (hb:∃ cs e,H.get b=.cells cs e):PW lo H' v sz' te' rows:=by
 obtain ⟨t,h1,h2 | ⟨j,h2,h3,h4,h5,h6⟩⟩:=h
 . exact ⟨t,h1,.inl h2⟩
 . refine ⟨t,h1,.inr ⟨j,h2,h3,h4,lt_of_lt_of_le h5 c.n, ?_⟩⟩;rcases c.ch j h5 with h7 | ⟨_,rfl | h7⟩
   . rw [h7,h6]
   . obtain ⟨cs,e,hb⟩:=hb;rw [h6] at hb;cases hb
   . rw [h6] at h7;exact absurd h7 (hne _)
theorem Z9o {lo:Nat} {H:Heap} {v:AV} (h:Pos.SV sz' te' H v rows) (c:Chg lo b X H H') (hne:∀ cs,¬ X (.row cs sz' te')) (hb:∃ cs e,H.get b=.cells cs e):Pos.SV sz' te' H' v rows:=by
 rcases h with h | ⟨id,cs,m,h1,h2,h3,h4⟩
 . exact .inl h
 . refine .inr ⟨id,cs,m,h1,lt_of_lt_of_le h2 c.n, ?_,h4⟩;rcases c.ch id h2 with h7 | ⟨_,rfl | h7⟩
   . rw [h7,h3]
   . obtain ⟨cs,e,hb⟩:=hb;rw [h3] at hb;cases hb
   . rw [h3] at h7;exact absurd h7 (hne _)
theorem SW.chg {lo:Nat} {H:Heap} {v:AV} (h:SW lo H v sz' te' rows) (c:Chg lo b X H H') (hne:∀ cs,¬ X (.row cs sz' te')) (hb:∃ cs e,H.get b=.cells cs e):SW lo H' v sz' te' rows:=⟨Z9o h.1 c hne hb,h.2⟩
theorem app_w {lo:Nat} {H:Heap} {v:AV} (h:PW lo H v sz te rows) (hlo:lo<=H.n) {r:List AV} (h1:rows.length+1<=Z2) (h2:Q0 r=true) (h2':r.map AV.strip0=r) (h3:0 < sz) (h4:Len sz rows) :
 ∃ v' H',Xx lo H sz te v [r]=some (v',H')/\PW lo H' v' sz te (rows++[r])/\Chg lo b (Xt sz te) H H':=by
 have h4':rows.all (fun r=>r.length=sz)=true:=all_eq_true.2 fun x hx=>decide_eq_true (h4 x hx)
 obtain ⟨t,rfl,⟨rfl,rfl⟩ | ⟨j,rfl,h6,hj,h7,h8⟩⟩:=h
 . refine ⟨.ps (.tok H.n) ([]++[r]),H.push (.row [] sz te), ?_,⟨_,rfl,.inr ⟨H.n,rfl,by simp,hlo,by simp,by rw [Heap.get_push,if_pos rfl]⟩⟩,(Chg.refl H).push _⟩;have:=Bz (lo:=lo) (H:=H) (e:=te) (sz:=sz) (rx:=[r]) (by simp) (by show 1<=1073741824;decide) (by simp [h2]) h3;rw [this];simp [h2']
 . refine ⟨.ps (.tok H.n) (rows++[r]),(H.set j .dead).push (.row [] sz te), ?_,⟨_,rfl,.inr ⟨H.n,rfl,by simp,hlo,by simp,by rw [Heap.get_push,if_pos (by simp)]⟩⟩,((Chg.refl H).set hj (.inr (.inl ⟨[],h8⟩)) _).push _⟩;have:=BA (lo:=lo) (H:=H) (e:=te) (sz:=sz) (rows:=rows) (rx:=[r]) (k:=j) (by simp) (by simpa using h1) (by simp [h2]) h3 h4' h8 hj h6;rw [this];simp [h2']
theorem app_s {lo:Nat} {H:Heap} {v:AV} (r:List AV) (h:SW lo H v sz te rows) (hlo:lo<=H.n) (hL:Len sz rows) (hr:r.length=sz) (ho:r.all AV.one=true) (hs:0 < sz) (hm:rows.length+1<=Z2) :
 ∃ v' H',Yv lo H sz te v [r]=some (v',H')/\SW lo H' v' sz te (rows++[r])/\Chg lo b (Xt sz te) H H':=by
 have hf:=Zl hL;obtain ⟨h,hid⟩:=h;rcases h with ⟨rfl,rfl⟩ | ⟨id,cs,m,rfl,h2,h3,h4⟩
 . refine ⟨.rs H.n 0 1 sz none,H.push (.row r sz te), ?_,⟨.inr ⟨H.n,[],0,rfl,by simp,by rw [Heap.get_push,if_pos rfl];simp,by simp⟩,fun i a b c d he=>by cases he;exact hlo⟩,(Chg.refl H).push _⟩;unfold Yv;simp only [Tok.full,length_nil,zero_add,length_cons,all_cons,ho,all_nil,hs,decide_true,Bool.and_true,Bool.true_and];rw [if_pos (by simpa using hm)];simp
 . have hil:=hid _ _ _ _ _ rfl;by_cases hc:m=0
   . subst hc;have hcs:cs=[]:=length_eq_zero_iff.1 (by omega);subst hcs;rw [append_nil] at h3;refine ⟨.rs H.n 0 (rows.length+1) sz none,(H.set id .dead).push (.row (rows++[r]).flatten sz te), ?_,⟨.inr ⟨H.n,[],0,by simp,by simp,by rw [Heap.get_push,if_pos (by simp)];simp,by simp⟩,fun i a b c d he=>by cases he;exact hlo⟩,((Chg.refl H).set hil (.inr (.inl ⟨_,h3⟩)) _).push _⟩;unfold Yv;simp only [length_cons,length_nil,zero_add,all_cons,ho,all_nil,hs,hil,decide_true,Bool.and_true,isNone_none,h3,hf,if_true];rw [if_pos (by simpa using hm)];simp
   . have hm1:sz<=cs.length:=by
      rw [h4]
      calc sz=1 * sz:=(one_mul _).symm
       _<=m * sz:=mul_le_mul_right _ (by omega)
     have hov:=Ho (A:=rows.flatten) (B:=cs) (r:=r);rw [hf] at hov;refine ⟨.rs id 0 (rows.length+1) sz none,H.set id (.row ((rows++[r]).flatten++cs.drop sz) sz te), ?_,⟨.inr ⟨id,cs.drop sz,m - 1,by simp,by simpa using h2,by rw [Heap.get_set,if_pos rfl],by rw [length_drop,h4,sub_mul];omega⟩,fun i a b c d he=>by cases he;exact hil⟩,(Chg.refl H).set hil (.inr (.inl ⟨_,h3⟩)) _⟩;unfold Yv;simp only [length_cons,length_nil,zero_add,all_cons,ho,all_nil,hs,hil,decide_true,Bool.and_true,isNone_none,h3,if_true];rw [if_pos (by simpa using hm)];have c1':¬ (rows.length * sz=(rows.flatten++cs).length):=by rw [length_append,hf];omega
     have c2':(rows.length+1) * sz<=(rows.flatten++cs).length:=by rw [length_append,hf,succ_mul];omega
     simp only [c1',c2',decide_true,decide_false,Bool.and_false,Bool.and_true,false_eq_true,if_false,if_true];have:[r].flatten=r:=by simp
     rw [this,hov,hr];simp
theorem PW.old {lo:Nat} {H H':Heap} {v:AV} (h:PW lo H v sz te rows) (ho:Old H.n H H'):PW lo H' v sz te rows:=by
 obtain ⟨t,h1,h2 | ⟨j,h2,h3,h4,h5,h6⟩⟩:=h
 . exact ⟨t,h1,.inl h2⟩
 . exact ⟨t,h1,.inr ⟨j,h2,h3,h4,lt_of_lt_of_le h5 ho.1,by rw [ho.2 j h5];exact h6⟩⟩
theorem SW.old {lo:Nat} {H H':Heap} {v:AV} (h:SW lo H v sz te rows) (ho:Old H.n H H'):SW lo H' v sz te rows:=⟨Ul h.1 ho,h.2⟩
structure RegW (lo:Nat) (H:Heap) (b:Nat) (pre post:List AV) (e:TypeId) (r:Reg) (V:RegV):Prop where
 bn:b < H.n
 lob:lo<=b
 blk:H.get b=.cells (pre++(Zq r V++post)) e
 aT:PW lo H V.vT 2 63 (r.tracks.map Pos.Trk.row)
 aF:SW lo H V.vF 7 65 (r.faults.map Pos.Flt.row)
 aR:PW lo H V.vR 3 61 (r.trains.map Pos.Trn.row)
 aP:SW lo H V.vP 10 59 (r.poss.map Pos.Pos.row)
 aM:PW lo H V.vM 2 67 (r.machs.map Pos.Mch.row)
 lT:r.tracks.length<=Z2
 lF:r.faults.length<=Z2
 lR:r.trains.length<=Z2
 lP:r.poss.length<=Z2
 lM:r.machs.length<=Z2
section
variable {lo:Nat} {H H':Heap} {b:Nat} {pre post:List AV} {e:TypeId} {r:Reg} {V:RegV}
theorem RegW.is (h:RegW lo H b pre post e r V):RegIs H b pre.length r V:=⟨h.bn,⟨pre,post,e,h.blk,rfl⟩,h.aT.pa,h.aF.1,h.aR.pa,h.aP.1,h.aM.pa,h.lT,h.lF,h.lR,h.lP,h.lM⟩
theorem RegW.old (h:RegW lo H b pre post e r V) (ho:Old H.n H H'):RegW lo H' b pre post e r V:=⟨lt_of_lt_of_le h.bn ho.1,h.lob,by rw [ho.2 b h.bn];exact h.blk,h.aT.old ho,h.aF.old ho,h.aR.old ho,h.aP.old ho,h.aM.old ho,h.lT,h.lF,h.lR,h.lP,h.lM⟩
def Yg:ABlk->Prop:=fun x=>∃ cs sz te,x=.row cs sz te/\te ≠ 53
theorem J7 {lo b:Nat} {H:Heap} {pre post:List AV} {e t:TypeId} {v:AV} (hb:H.get b=.cells (pre++(cs++post)) e) (hlo:lo<=b) (hk:k < cs.length) (hs:Zf NC.P t=some 1) (h1:v.cells=[v]) (h2:v.one=true):sst lo H t (.ptr b (pre.length+k)) v=some (H.set b (.cells (pre++(cs.set k v++post)) e)):=by
 show Q9 NC.P lo H t (.ptr b (pre.length+k)) v=_;unfold Q9;simp only [hs,h1,length_cons,length_nil,all_cons,all_nil,h2,hlo,decide_true,Bool.and_true,zero_add,if_true,hb,Q8];rw [if_pos (by simp only [length_append];omega)];simp only [over,length_cons,length_nil,zero_add];have e1:(pre++(cs++post)).take (pre.length+k)=pre++cs.take k:=by
  rw [take_length_add_append,take_append_of_le_length (by omega)]
 have e2:(pre++(cs++post)).drop (pre.length+k+1)=cs.drop (k+1)++post:=by
  rw [add_assoc,drop_length_add_append,drop_append_of_le_length (by omega)]
 rw [e1,e2,set_eq_take_append_cons_drop,if_pos hk];simp
theorem QC (H:Heap) (hlo:lo<=b) (x:ABlk):Chg lo b X H (H.set b x):=(Chg.refl H).set hlo (.inl rfl) x
theorem RegW.putT (h:RegW lo H b pre post e r V) (c:Chg lo b (Xt 2 63) H H') (hb:H'.get b=H.get b) {xs:List Trk} {v:AV} (hv:PW lo H' v 2 63 (xs.map Pos.Trk.row)) (hl:xs.length<=Z2):RegW lo (H'.set b (.cells (pre++(Zq { r with tracks:=xs } { V with vT:=v }++post)) e)) b pre post e { r with tracks:=xs } { V with vT:=v }/\Chg lo b Yg H (H'.set b (.cells (pre++(Zq { r with tracks:=xs } { V with vT:=v }++post)) e)):=by
 have hcb:∃ cs e,H.get b=.cells cs e:=⟨_,_,h.blk⟩;have d:=c.set h.lob (.inl rfl) (.cells (pre++(Zq { r with tracks:=xs } { V with vT:=v }++post)) e)
 have hv2:=hv.chg (X:=fun _=>False) (QC H' h.lob (.cells (pre++(Zq { r with tracks:=xs } { V with vT:=v }++post)) e)) (fun _=>id) ⟨_,_,hb.trans h.blk⟩
 exact ⟨⟨by simpa using lt_of_lt_of_le h.bn c.n,h.lob,by rw [Heap.get_set,if_pos rfl],hv2,h.aF.chg d (fun cs ⟨_,hx⟩=>by cases hx) hcb,h.aR.chg d (fun cs ⟨_,hx⟩=>by cases hx) hcb,h.aP.chg d (fun cs ⟨_,hx⟩=>by cases hx) hcb,h.aM.chg d (fun cs ⟨_,hx⟩=>by cases hx) hcb,hl,h.lF,h.lR,h.lP,h.lM⟩,d.mono fun x ⟨cs,hx⟩=>⟨cs,_,_,hx,by decide⟩⟩
theorem RegW.putF (h:RegW lo H b pre post e r V) (c:Chg lo b (Xt 7 65) H H') (hb:H'.get b=H.get b) {v:AV} (hv:SW lo H' v 7 65 (xs.map Pos.Flt.row)) (hl:xs.length<=Z2):RegW lo (H'.set b (.cells (pre++(Zq { r with faults:=xs } { V with vF:=v }++post)) e)) b pre post e { r with faults:=xs } { V with vF:=v }/\Chg lo b Yg H (H'.set b (.cells (pre++(Zq { r with faults:=xs } { V with vF:=v }++post)) e)):=by
 have hcb:∃ cs e,H.get b=.cells cs e:=⟨_,_,h.blk⟩;have d:=c.set h.lob (.inl rfl) (.cells (pre++(Zq { r with faults:=xs } { V with vF:=v }++post)) e)
 have hv2:=hv.chg (X:=fun _=>False) (QC H' h.lob (.cells (pre++(Zq { r with faults:=xs } { V with vF:=v }++post)) e)) (fun _=>id) ⟨_,_,hb.trans h.blk⟩
 exact ⟨⟨by simpa using lt_of_lt_of_le h.bn c.n,h.lob,by rw [Heap.get_set,if_pos rfl],h.aT.chg d (fun cs ⟨_,hx⟩=>by cases hx) hcb,hv2,h.aR.chg d (fun cs ⟨_,hx⟩=>by cases hx) hcb,h.aP.chg d (fun cs ⟨_,hx⟩=>by cases hx) hcb,h.aM.chg d (fun cs ⟨_,hx⟩=>by cases hx) hcb,h.lT,hl,h.lR,h.lP,h.lM⟩,d.mono fun x ⟨cs,hx⟩=>⟨cs,_,_,hx,by decide⟩⟩
theorem RegW.putR (h:RegW lo H b pre post e r V) (c:Chg lo b (Xt 3 61) H H') (hb:H'.get b=H.get b) {xs:List Trn} {v:AV} (hv:PW lo H' v 3 61 (xs.map Pos.Trn.row)) (hl:xs.length<=Z2):RegW lo (H'.set b (.cells (pre++(Zq { r with trains:=xs } { V with vR:=v }++post)) e)) b pre post e { r with trains:=xs } { V with vR:=v }/\Chg lo b Yg H (H'.set b (.cells (pre++(Zq { r with trains:=xs } { V with vR:=v }++post)) e)):=by
 have hcb:∃ cs e,H.get b=.cells cs e:=⟨_,_,h.blk⟩;have d:=c.set h.lob (.inl rfl) (.cells (pre++(Zq { r with trains:=xs } { V with vR:=v }++post)) e)
 have hv2:=hv.chg (X:=fun _=>False) (QC H' h.lob (.cells (pre++(Zq { r with trains:=xs } { V with vR:=v }++post)) e)) (fun _=>id) ⟨_,_,hb.trans h.blk⟩
 exact ⟨⟨by simpa using lt_of_lt_of_le h.bn c.n,h.lob,by rw [Heap.get_set,if_pos rfl],h.aT.chg d (fun cs ⟨_,hx⟩=>by cases hx) hcb,h.aF.chg d (fun cs ⟨_,hx⟩=>by cases hx) hcb,hv2,h.aP.chg d (fun cs ⟨_,hx⟩=>by cases hx) hcb,h.aM.chg d (fun cs ⟨_,hx⟩=>by cases hx) hcb,h.lT,h.lF,hl,h.lP,h.lM⟩,d.mono fun x ⟨cs,hx⟩=>⟨cs,_,_,hx,by decide⟩⟩
theorem RegW.putP (h:RegW lo H b pre post e r V) (c:Chg lo b (Xt 10 59) H H') (hb:H'.get b=H.get b) {xs:List Pos} {v:AV} (hv:SW lo H' v 10 59 (xs.map Pos.Pos.row)) (hl:xs.length<=Z2):RegW lo (H'.set b (.cells (pre++(Zq { r with poss:=xs } { V with vP:=v }++post)) e)) b pre post e { r with poss:=xs } { V with vP:=v }/\Chg lo b Yg H (H'.set b (.cells (pre++(Zq { r with poss:=xs } { V with vP:=v }++post)) e)):=by
 have hcb:∃ cs e,H.get b=.cells cs e:=⟨_,_,h.blk⟩;have d:=c.set h.lob (.inl rfl) (.cells (pre++(Zq { r with poss:=xs } { V with vP:=v }++post)) e)
 have hv2:=hv.chg (X:=fun _=>False) (QC H' h.lob (.cells (pre++(Zq { r with poss:=xs } { V with vP:=v }++post)) e)) (fun _=>id) ⟨_,_,hb.trans h.blk⟩
 exact ⟨⟨by simpa using lt_of_lt_of_le h.bn c.n,h.lob,by rw [Heap.get_set,if_pos rfl],h.aT.chg d (fun cs ⟨_,hx⟩=>by cases hx) hcb,h.aF.chg d (fun cs ⟨_,hx⟩=>by cases hx) hcb,h.aR.chg d (fun cs ⟨_,hx⟩=>by cases hx) hcb,hv2,h.aM.chg d (fun cs ⟨_,hx⟩=>by cases hx) hcb,h.lT,h.lF,h.lR,hl,h.lM⟩,d.mono fun x ⟨cs,hx⟩=>⟨cs,_,_,hx,by decide⟩⟩
theorem RegW.putM (h:RegW lo H b pre post e r V) (c:Chg lo b (Xt 2 67) H H') (hb:H'.get b=H.get b) {xs:List Mch} {v:AV} (hv:PW lo H' v 2 67 (xs.map Pos.Mch.row)) (hl:xs.length<=Z2):RegW lo (H'.set b (.cells (pre++(Zq { r with machs:=xs } { V with vM:=v }++post)) e)) b pre post e { r with machs:=xs } { V with vM:=v }/\Chg lo b Yg H (H'.set b (.cells (pre++(Zq { r with machs:=xs } { V with vM:=v }++post)) e)):=by
 have hcb:∃ cs e,H.get b=.cells cs e:=⟨_,_,h.blk⟩;have d:=c.set h.lob (.inl rfl) (.cells (pre++(Zq { r with machs:=xs } { V with vM:=v }++post)) e)
 have hv2:=hv.chg (X:=fun _=>False) (QC H' h.lob (.cells (pre++(Zq { r with machs:=xs } { V with vM:=v }++post)) e)) (fun _=>id) ⟨_,_,hb.trans h.blk⟩
 exact ⟨⟨by simpa using lt_of_lt_of_le h.bn c.n,h.lob,by rw [Heap.get_set,if_pos rfl],h.aT.chg d (fun cs ⟨_,hx⟩=>by cases hx) hcb,h.aF.chg d (fun cs ⟨_,hx⟩=>by cases hx) hcb,h.aR.chg d (fun cs ⟨_,hx⟩=>by cases hx) hcb,h.aP.chg d (fun cs ⟨_,hx⟩=>by cases hx) hcb,hv2,h.lT,h.lF,h.lR,h.lP,hl⟩,d.mono fun x ⟨cs,hx⟩=>⟨cs,_,_,hx,by decide⟩⟩
end
theorem Z9p (a:Nm):(Z0 [a]).length=1:=rfl
theorem Z9q (a b:Nm):(Z0 [a,b]).length=2:=rfl
theorem Z9r (a:Nm):(Z0 [a])[0]? = some [.str a]:=rfl
theorem Z9s (a b:Nm):(Z0 [a,b])[0]? = some [.str a]:=rfl
theorem Z9t (a b:Nm):(Z0 [a,b])[1]? = some [.str b]:=rfl
theorem Z9u (a:Int):(Z3 [a]).length=1:=rfl
theorem Z9v (a b:Int):(Z3 [a,b]).length=2:=rfl
theorem Z9w (a b c:Int):(Z3 [a,b,c]).length=3:=rfl
theorem Z9x (a b c d:Int):(Z3 [a,b,c,d]).length=4:=rfl
theorem Z9y (a:Int):(Z3 [a])[0]? = some [.int .i64 a]:=rfl
theorem Z9z (a b:Int):(Z3 [a,b])[0]? = some [.int .i64 a]:=rfl
theorem Z9A (a b:Int):(Z3 [a,b])[1]? = some [.int .i64 b]:=rfl
theorem Z9B (a b c:Int):(Z3 [a,b,c])[1]? = some [.int .i64 b]:=rfl
theorem Z9C (a b c:Int):(Z3 [a,b,c])[2]? = some [.int .i64 c]:=rfl
theorem Z9D (a b c d:Int):(Z3 [a,b,c,d])[1]? = some [.int .i64 b]:=rfl
theorem Z9E (a b c d:Int):(Z3 [a,b,c,d])[2]? = some [.int .i64 c]:=rfl
theorem Z9F (a b c d:Int):(Z3 [a,b,c,d])[3]? = some [.int .i64 d]:=rfl
attribute [go_sem] Z9p Z9q Z9r Z9s Z9t Z9u Z9v Z9w Z9x Z9y Z9z Z9A Z9B Z9C Z9D Z9E Z9F
abbrev Xo (f:FuncId):Prop:=∀ {P:PF} (_hP:P f=none) {lo:Nat} {args:List AV} {H:Heap} {K:AV->Heap->Prop},VO (Z9 (NC.withPrims P) (R (NC.withPrims P)) lo f args H) K=AO (R (NC.withPrims P) (.call lo f args H)) fun o=>K o.val o.s.H
theorem Xu {f:FuncId} (h1:NC.prim f=none:=by kernel_rfl) (h2:NC.hprim f=none:=by kernel_rfl) (h3:NC.twice f=false:=by kernel_rfl) (h4:NC.mode f=.free:=by kernel_rfl):Xo f:=by
 intro P hP lo args H K;refine Fy rfl ?_ h2 h3 h4;show (match NC.prim f with | some p=>some p | none=>P f)=none
 rw [h1];exact hP
theorem en155:Xo 155:=Xu
theorem en158:Xo 158:=Xu
theorem en160:Xo 160:=Xu
theorem en162:Xo 162:=Xu
theorem en164:Xo 164:=Xu
theorem en166:Xo 166:=Xu
theorem en170:Xo 170:=Xu
theorem en178:Xo 178:=Xu
theorem en179:Xo 179:=Xu
theorem Kd:Xo 274:=Xu
theorem PW.cells1 {v:AV} (h:PW lo H v sz te rows):v.cells=[v]:=by obtain ⟨t,rfl,_⟩:=h;rfl
theorem PW.one1 {v:AV} (h:PW lo H v sz te rows):v.one=true:=by obtain ⟨t,rfl,_⟩:=h;rfl
theorem SW.cells1 {v:AV} (h:SW lo H v sz te rows):v.cells=[v]:=by obtain ⟨⟨_,rfl⟩ | ⟨_,_,_,rfl,_⟩,_⟩:=h<;>rfl
theorem SW.one1 {v:AV} (h:SW lo H v sz te rows):v.one=true:=by obtain ⟨⟨_,rfl⟩ | ⟨_,_,_,rfl,_⟩,_⟩:=h<;>rfl
theorem Gv (c:Chg lo H.n X H H') (hb:b < H.n) (h:¬ X (H.get b)):H'.get b=H.get b:=by
 rcases c.ch b hb with h2 | ⟨_,h2 | h2⟩
 . exact h2
 . omega
 . exact absurd h2 h
theorem Up (c:Chg lo H.n X H H'):Chg lo b X H H' :=
 ⟨c.n,fun i hi=>(c.ch i hi).imp id fun ⟨a,d⟩=>⟨a,d.elim (fun h=>absurd h (by omega)) .inr⟩⟩
theorem CD {v:AV} (h:PW lo H v sz te rows) (hlo:lo<=H.n) (hb:b < H.n) (hbb:H.get b=.cells bc be) {r:List AV} (h1:rows.length+1<=Z2) (h2:Q0 r=true) (h2':r.map AV.strip0=r) (h3:0 < sz) (h4:Len sz rows) :
 ∃ v' H',Xx lo H sz te v [r]=some (v',H')/\PW lo H' v' sz te (rows++[r])/\Chg lo b (Xt sz te) H H'/\H'.get b=H.get b:=by
 obtain ⟨v',H',a,c,d⟩:=app_w (b:=H.n) h hlo h1 h2 h2' h3 h4;exact ⟨v',H',a,c,Up d,Gv d hb (fun ⟨_,hx⟩=>by rw [hbb] at hx;cases hx)⟩
theorem Iu {v:AV} (r:List AV) (h:SW lo H v sz te rows) (hlo:lo<=H.n) (hb:b < H.n) (hbb:H.get b=.cells bc be) (hL:Len sz rows) (hr:r.length=sz) (ho:r.all AV.one=true) (hs:0 < sz) (hm:rows.length+1<=Z2) :
 ∃ v' H',Yv lo H sz te v [r]=some (v',H')/\SW lo H' v' sz te (rows++[r])/\Chg lo b (Xt sz te) H H'/\H'.get b=H.get b:=by
 obtain ⟨v',H',a,c,d⟩:=app_s (b:=H.n) r h hlo hL hr ho hs hm;exact ⟨v',H',a,c,Up d,Gv d hb (fun ⟨_,hx⟩=>by rw [hbb] at hx;cases hx)⟩
theorem Z9G (h:RegW lo H b pre post e r V) (hm:r.tracks.length+1<=Z2):∃ w H',R PT (.call lo 155 [.ptr b pre.length,.agg (evC num kind [t] [tk,v] text)] H)=some (.ofVal w H') /\ ∃ V',RegW lo H' b pre post e { r with tracks:=r.tracks++[⟨t,v⟩] } V'/\Chg lo b Yg H H':=by
 refine Zd (C:=PT) (f:=155) (lo:=lo) (args:=[.ptr b pre.length,.agg (evC num kind [t] [tk,v] text)]) (H:=H) (fn:=Tryz.f155) (Q:=fun _ H'=>∃ V',RegW lo H' b pre post e { r with tracks:=r.tracks++[⟨t,v⟩] } V'/\Chg lo b Yg H H') (by kernel_rfl) Tryz.func155 rfl rfl ?_
 have ho:Old H.n H (H.push (.cells (evC num kind [t] [tk,v] text) 53)):=((Old.refl H).push _);have h1:=h.old ho;have hl1:lo<=(H.push (.cells (evC num kind [t] [tk,v] text) 53)).n:=le_of_lt (lt_of_le_of_lt h1.lob h1.bn);obtain ⟨v',H2,ha,hv,hc,hcb⟩:=CD h1.aT hl1 h1.bn h1.blk (r:=[.str t,.int .i64 v]) (by rw [length_map];exact hm) rfl rfl (by decide) (ZD (by intro x;rfl) _);have hst:sst lo H2 43 (.ptr b (pre.length+1)) v'=_:=J7 (hcb.trans h1.blk) h.lob (by show 1 < 6;decide) (by kernel_rfl) hv.cells1 hv.one1;obtain ⟨g1,g2⟩:=h1.putT hc hcb (xs:=r.tracks++[⟨t,v⟩]) (by rw [map_append];exact hv) (by simpa using hm);have l1:=fun H'=>h.is.l1 (H':=H')
 have hbn:=eq_true h.bn;obtain ⟨tt,hvt,htt⟩:=h.aT;rw [hvt] at ha l1;rcases htt with ⟨rfl,hr⟩ | ⟨j,rfl,_,hj,hjn,hjr⟩
 . simp (maxDischargeDepth:=12) only [go_sem,reduceEqDiff,reduceAdd,reduceMul,reduceSub,reduceLeDiff,reduceCtorEq,Zu,l1,ha,hst];exact ⟨_,g1,((Chg.refl H).push _).to g2⟩
 . have hjb:(j=b)=False:=eq_false (fun he=>by rw [he,h.blk] at hjr;cases hjr);have hjn':=eq_true hjn;have hjh:(j=H.n)=False:=eq_false (by omega);simp (maxDischargeDepth:=12) only [go_sem,reduceEqDiff,reduceAdd,reduceMul,reduceSub,reduceLeDiff,reduceCtorEq,Zu,l1,ha,hst];exact ⟨_,g1,((Chg.refl H).push _).to g2⟩
theorem Z9H (h:RegW lo H b pre post e r V) (hm:r.trains.length+1<=Z2):∃ w H',R PT (.call lo 164 [.ptr b pre.length,.agg (evC num kind [x,t] [tk,v] text)] H)=some (.ofVal w H') /\ ∃ V',RegW lo H' b pre post e { r with trains:=r.trains++[⟨x,t,v⟩] } V'/\Chg lo b Yg H H':=by
 refine Zd (C:=PT) (f:=164) (lo:=lo) (args:=[.ptr b pre.length,.agg (evC num kind [x,t] [tk,v] text)]) (H:=H) (fn:=Tryz.f164) (Q:=fun _ H'=>∃ V',RegW lo H' b pre post e { r with trains:=r.trains++[⟨x,t,v⟩] } V'/\Chg lo b Yg H H') (by kernel_rfl) Tryz.func164 rfl rfl ?_
 have ho:Old H.n H (H.push (.cells (evC num kind [x,t] [tk,v] text) 53)):=((Old.refl H).push _);have h1:=h.old ho;have hl1:lo<=(H.push (.cells (evC num kind [x,t] [tk,v] text) 53)).n:=le_of_lt (lt_of_le_of_lt h1.lob h1.bn);obtain ⟨v',H2,ha,hv,hc,hcb⟩:=CD h1.aR hl1 h1.bn h1.blk (r:=[.str x,.str t,.int .i64 v]) (by rw [length_map];exact hm) rfl rfl (by decide) (ZD (by intro x;rfl) _);have hst:sst lo H2 45 (.ptr b (pre.length+3)) v'=_:=J7 (hcb.trans h1.blk) h.lob (by show 3 < 6;decide) (by kernel_rfl) hv.cells1 hv.one1;obtain ⟨g1,g2⟩:=h1.putR hc hcb (xs:=r.trains++[⟨x,t,v⟩]) (by rw [map_append];exact hv) (by simpa using hm);have l1:=fun H'=>h.is.l3 (H':=H')
 have hbn:=eq_true h.bn;obtain ⟨tt,hvt,htt⟩:=h.aR;rw [hvt] at ha l1;rcases htt with ⟨rfl,hr⟩ | ⟨j,rfl,_,hj,hjn,hjr⟩
 . simp (maxDischargeDepth:=12) only [go_sem,reduceEqDiff,reduceAdd,reduceMul,reduceSub,reduceLeDiff,reduceCtorEq,Zu,l1,ha,hst];exact ⟨_,g1,((Chg.refl H).push _).to g2⟩
 . have hjb:(j=b)=False:=eq_false (fun he=>by rw [he,h.blk] at hjr;cases hjr);have hjn':=eq_true hjn;have hjh:(j=H.n)=False:=eq_false (by omega);simp (maxDischargeDepth:=12) only [go_sem,reduceEqDiff,reduceAdd,reduceMul,reduceSub,reduceLeDiff,reduceCtorEq,Zu,l1,ha,hst];exact ⟨_,g1,((Chg.refl H).push _).to g2⟩
theorem w_In (h:RegW lo H b pre post e r V) (hm:r.machs.length+1<=Z2):∃ w H',R PT (.call lo 178 [.ptr b pre.length,.agg (evC num kind [m,p] [tk] text)] H)=some (.ofVal w H') /\ ∃ V',RegW lo H' b pre post e { r with machs:=r.machs++[⟨m,p⟩] } V'/\Chg lo b Yg H H':=by
 refine Zd (C:=PT) (f:=178) (lo:=lo) (args:=[.ptr b pre.length,.agg (evC num kind [m,p] [tk] text)]) (H:=H) (fn:=Tryz.f178) (Q:=fun _ H'=>∃ V',RegW lo H' b pre post e { r with machs:=r.machs++[⟨m,p⟩] } V'/\Chg lo b Yg H H') (by kernel_rfl) Tryz.func178 rfl rfl ?_
 have ho:Old H.n H (H.push (.cells (evC num kind [m,p] [tk] text) 53)):=((Old.refl H).push _);have h1:=h.old ho;have hl1:lo<=(H.push (.cells (evC num kind [m,p] [tk] text) 53)).n:=le_of_lt (lt_of_le_of_lt h1.lob h1.bn);obtain ⟨v',H2,ha,hv,hc,hcb⟩:=CD h1.aM hl1 h1.bn h1.blk (r:=[.str m,.str p]) (by rw [length_map];exact hm) rfl rfl (by decide) (ZD (by intro x;rfl) _);have hst:sst lo H2 47 (.ptr b (pre.length+5)) v'=_:=J7 (hcb.trans h1.blk) h.lob (by show 5 < 6;decide) (by kernel_rfl) hv.cells1 hv.one1;obtain ⟨g1,g2⟩:=h1.putM hc hcb (xs:=r.machs++[⟨m,p⟩]) (by rw [map_append];exact hv) (by simpa using hm);have l1:=fun H'=>h.is.l5 (H':=H')
 have hbn:=eq_true h.bn;obtain ⟨tt,hvt,htt⟩:=h.aM;rw [hvt] at ha l1;rcases htt with ⟨rfl,hr⟩ | ⟨j,rfl,_,hj,hjn,hjr⟩
 . simp (maxDischargeDepth:=12) only [go_sem,reduceEqDiff,reduceAdd,reduceMul,reduceSub,reduceLeDiff,reduceCtorEq,Zu,l1,ha,hst];exact ⟨_,g1,((Chg.refl H).push _).to g2⟩
 . have hjb:(j=b)=False:=eq_false (fun he=>by rw [he,h.blk] at hjr;cases hjr);have hjn':=eq_true hjn;have hjh:(j=H.n)=False:=eq_false (by omega);simp (maxDischargeDepth:=12) only [go_sem,reduceEqDiff,reduceAdd,reduceMul,reduceSub,reduceLeDiff,reduceCtorEq,Zu,l1,ha,hst];exact ⟨_,g1,((Chg.refl H).push _).to g2⟩
theorem Z9I (h:RegW lo H b pre post e r V) {x y:Int} (hm:r.faults.length+1<=Z2):∃ w H',R PT (.call lo 158 [.ptr b pre.length,.agg (evC num kind [f,t] [tk,x,y,v] text)] H)=some (.ofVal w H') /\ ∃ V',RegW lo H' b pre post e { r with faults:=r.faults++[⟨f,t,x,y,v,false,false⟩] } V'/\Chg lo b Yg H H':=by
 refine Zd (C:=PT) (f:=158) (lo:=lo) (args:=[.ptr b pre.length,.agg (evC num kind [f,t] [tk,x,y,v] text)]) (H:=H) (fn:=Tryz.f158) (Q:=fun _ H'=>∃ V',RegW lo H' b pre post e { r with faults:=r.faults++[⟨f,t,x,y,v,false,false⟩] } V'/\Chg lo b Yg H H') (by kernel_rfl) Tryz.func158 rfl rfl ?_
 have hlo:lo<=H.n:=le_of_lt (lt_of_le_of_lt h.lob h.bn);have ho:Old H.n H (((H.push (.cells (evC num kind [f,t] [tk,x,y,v] text) 53)).push (.cells [.int .i64 0,.int .i64 0] 57)).set (H.n+1) (.cells [.int .i64 x,.int .i64 y] 57)):=(((Old.refl H).push _).push _).set (le_succ _) _;have hch:Chg lo b Yg H (((H.push (.cells (evC num kind [f,t] [tk,x,y,v] text) 53)).push (.cells [.int .i64 0,.int .i64 0] 57)).set (H.n+1) (.cells [.int .i64 x,.int .i64 y] 57)):=(((Chg.refl H).push _).push _).set (by omega) (.inr (.inr (le_succ _))) _;have h1:=h.old ho;have hl1:lo<=(((H.push (.cells (evC num kind [f,t] [tk,x,y,v] text) 53)).push (.cells [.int .i64 0,.int .i64 0] 57)).set (H.n+1) (.cells [.int .i64 x,.int .i64 y] 57)).n:=le_of_lt (lt_of_le_of_lt h1.lob h1.bn);have hsp:=Uk ⟨num,kind,[f,t],[tk,x,y,v],text⟩ (by show 3<=4;decide);simp only [Pos.Ev.row,getD_cons_succ,getD_cons_zero] at hsp;obtain ⟨v',H2,ha,hv,hc,hcb⟩:=Iu [.str f,.str t,.int .i64 x,.int .i64 y,.int .i64 v,.bool false,.bool false] h1.aF hl1 h1.bn h1.blk (ZD (by intro x;rfl) _) rfl rfl (by decide) (by rw [length_map];exact hm);have hst:sst lo H2 44 (.ptr b (pre.length+2)) v'=_:=J7 (hcb.trans h1.blk) h.lob (by show 2 < 6;decide) (by kernel_rfl) hv.cells1 hv.one1;obtain ⟨g1,g2⟩:=h1.putF hc hcb (xs:=r.faults++[⟨f,t,x,y,v,false,false⟩]) (by rw [map_append];exact hv) (by simpa using hm);have l1:=fun H'=>h.is.l2 (H':=H')
 have hbn:=eq_true h.bn;have hlo1:(lo<=H.n+1)=True:=eq_true (by omega);have hvs:=h.aF.1;rcases hvs with ⟨hr,hvt⟩ | ⟨j,cs,m,hvt,hjn,hjr,hcs⟩<;>(try rw [length_map] at hvt)<;>rw [hvt] at ha l1
 . simp (maxDischargeDepth:=12) only [go_sem,reduceEqDiff,reduceAdd,reduceMul,reduceSub,reduceLeDiff,reduceCtorEq,Zu,l1,ha,hst,hsp,hlo1];exact ⟨_,g1,hch.to g2⟩
 . have hjb:(j=b)=False:=eq_false (fun he=>by rw [he,h.blk] at hjr;cases hjr);have hjn':=eq_true hjn;have hjh:(j=H.n)=False:=eq_false (by omega);have hjh1:(j=H.n+1)=False:=eq_false (by omega);have hjh2:(H.n=j)=False:=eq_false (by omega);have hjh3:(H.n+1=j)=False:=eq_false (by omega);have hjb2:(b=j)=False:=eq_false (fun he=>by rw [<- he,h.blk] at hjr;cases hjr);simp (maxDischargeDepth:=12) only [go_sem,reduceEqDiff,reduceAdd,reduceMul,reduceSub,reduceLeDiff,reduceCtorEq,Zu,l1,ha,hst,hsp,hlo1];exact ⟨_,g1,hch.to g2⟩
theorem Z9J (h:RegW lo H b pre post e r V) {x y:Int} (hm:r.poss.length+1<=Z2):∃ w H',R PT (.call lo 170 [.ptr b pre.length,.agg (evC num kind [p,t] [tk,x,y] text)] H)=some (.ofVal w H') /\ ∃ V',RegW lo H' b pre post e { r with poss:=r.poss++[⟨p,t,x,y,false,false,false,0,0,0⟩] } V'/\Chg lo b Yg H H':=by
 refine Zd (C:=PT) (f:=170) (lo:=lo) (args:=[.ptr b pre.length,.agg (evC num kind [p,t] [tk,x,y] text)]) (H:=H) (fn:=Tryz.f170) (Q:=fun _ H'=>∃ V',RegW lo H' b pre post e { r with poss:=r.poss++[⟨p,t,x,y,false,false,false,0,0,0⟩] } V'/\Chg lo b Yg H H') (by kernel_rfl) Tryz.func170 rfl rfl ?_
 have hlo:lo<=H.n:=le_of_lt (lt_of_le_of_lt h.lob h.bn);have ho:Old H.n H (((H.push (.cells (evC num kind [p,t] [tk,x,y] text) 53)).push (.cells [.int .i64 0,.int .i64 0] 57)).set (H.n+1) (.cells [.int .i64 x,.int .i64 y] 57)):=(((Old.refl H).push _).push _).set (le_succ _) _;have hch:Chg lo b Yg H (((H.push (.cells (evC num kind [p,t] [tk,x,y] text) 53)).push (.cells [.int .i64 0,.int .i64 0] 57)).set (H.n+1) (.cells [.int .i64 x,.int .i64 y] 57)):=(((Chg.refl H).push _).push _).set (by omega) (.inr (.inr (le_succ _))) _;have h1:=h.old ho;have hl1:lo<=(((H.push (.cells (evC num kind [p,t] [tk,x,y] text) 53)).push (.cells [.int .i64 0,.int .i64 0] 57)).set (H.n+1) (.cells [.int .i64 x,.int .i64 y] 57)).n:=le_of_lt (lt_of_le_of_lt h1.lob h1.bn);have hsp:=Uk ⟨num,kind,[p,t],[tk,x,y],text⟩ (by show 3<=3;decide);simp only [Pos.Ev.row,getD_cons_succ,getD_cons_zero] at hsp;obtain ⟨v',H2,ha,hv,hc,hcb⟩:=Iu [.str p,.str t,.int .i64 x,.int .i64 y,.bool false,.bool false,.bool false,.int .i64 0,.int .i64 0,.int .i64 0] h1.aP hl1 h1.bn h1.blk (ZD (by intro x;rfl) _) rfl rfl (by decide) (by rw [length_map];exact hm);have hst:sst lo H2 46 (.ptr b (pre.length+4)) v'=_:=J7 (hcb.trans h1.blk) h.lob (by show 4 < 6;decide) (by kernel_rfl) hv.cells1 hv.one1;obtain ⟨g1,g2⟩:=h1.putP hc hcb (xs:=r.poss++[⟨p,t,x,y,false,false,false,0,0,0⟩]) (by rw [map_append];exact hv) (by simpa using hm);have l1:=fun H'=>h.is.l4 (H':=H')
 have hbn:=eq_true h.bn;have hlo1:(lo<=H.n+1)=True:=eq_true (by omega);have hvs:=h.aP.1;rcases hvs with ⟨hr,hvt⟩ | ⟨j,cs,m,hvt,hjn,hjr,hcs⟩<;>(try rw [length_map] at hvt)<;>rw [hvt] at ha l1
 . simp (maxDischargeDepth:=12) only [go_sem,reduceEqDiff,reduceAdd,reduceMul,reduceSub,reduceLeDiff,reduceCtorEq,Zu,l1,ha,hst,hsp,hlo1];exact ⟨_,g1,hch.to g2⟩
 . have hjb:(j=b)=False:=eq_false (fun he=>by rw [he,h.blk] at hjr;cases hjr);have hjn':=eq_true hjn;have hjh:(j=H.n)=False:=eq_false (by omega);have hjh1:(j=H.n+1)=False:=eq_false (by omega);have hjh2:(H.n=j)=False:=eq_false (by omega);have hjh3:(H.n+1=j)=False:=eq_false (by omega);have hjb2:(b=j)=False:=eq_false (fun he=>by rw [<- he,h.blk] at hjr;cases hjr);simp (maxDischargeDepth:=12) only [go_sem,reduceEqDiff,reduceAdd,reduceMul,reduceSub,reduceLeDiff,reduceCtorEq,Zu,l1,ha,hst,hsp,hlo1];exact ⟨_,g1,hch.to g2⟩
theorem Z9K {A B vs:List AV} (h:k+vs.length<=A.length):over (A++B) k vs=over A k vs++B:=by
 unfold over;rw [take_append_of_le_length (by omega),drop_append_of_le_length (by omega)];simp
theorem Z9L {row:List AV} (hL:Len sz rows) (hx:rows[i]? = some row) (hk:k < sz):i * sz+k+1<=rows.flatten.length:=by
 have hi:i < rows.length:=(List.getElem?_eq_some_iff.1 hx).1;rw [Zl hL];have:(i+1) * sz<=rows.length * sz:=mul_le_mul_right _ hi;rw [succ_mul] at this;omega
theorem QN {row:List AV} {t:TypeId} {c:AV} (hg:H.get id=.row (rows.flatten++cs) sz te) (hlo:lo<=id) (hL:Len sz rows) (hx:rows[i]? = some row) (hk:k < sz) (hs:Zf NC.P t=some 1) (h1:c.cells=[c]) (h2:c.one=true):sst lo H t (.ptr id (i * sz+k)) c=some (H.set id (.row ((rows.set i (row.set k c)).flatten++cs) sz te)):=by
 show Q9 NC.P lo H t (.ptr id (i * sz+k)) c=_;unfold Q9;have hfit:=Z9L hL hx hk;simp only [hs,h1,length_cons,length_nil,all_cons,all_nil,h2,hlo,decide_true,Bool.and_true,zero_add,if_true,hg,Q8];rw [if_pos (by rw [length_append];omega),Z9K (by simpa using hfit),Yt hL hx hk]
theorem CE {row:List AV} {t:TypeId} {c:AV} (hg:H.get id=.row (rows.flatten++cs) sz te) (hL:Len sz rows) (hx:rows[i]? = some row) (hk:row[k]? = some c) (hs:(Zf NC.P t).isSome=true) (ha:aggOf NC.P t=some false):sld H t (.ptr id (i * sz+k))=some c:=by
 obtain ⟨n,hn⟩:=isSome_iff_exists.1 hs;have hc:=Xg hL hx hk;have hc2:ZW (rows.flatten++cs) (i * sz+k) 1=some [c]:=by
  unfold ZW at hc ⊢;split at hc
  · rename_i hle
    rw [if_pos (by rw [length_append];omega),drop_append_of_le_length (by omega),take_append_of_le_length (by rw [length_drop];omega)];exact hc
  · cases hc
 show Yl NC.P H t (.ptr id (i * sz+k))=some c;unfold Yl;simp only [hn,ha,YB,hg,Xw,if_false,hc2,QS,false_eq_true]
theorem Iv {row:List AV} (hL:Len sz rows) (hr:row.length=sz):Len sz (rows.set i row):=fun x hx=>by
 rcases mem_or_eq_of_mem_set hx with h | h
 . exact hL x h
 . rw [h];exact hr
theorem CF {rows':List (List AV)} {m:Nat} (hlo:lo<=id) (hid:id < H'.n) (hl:rows'.length=rows.length) (hc:cs.length=m * sz) (hg:H'.get id=.row (rows'.flatten++cs) sz te):SW lo H' (.rs id 0 rows.length sz none) sz te rows' :=
 ⟨.inr ⟨id,cs,m,by rw [hl],hid,hg,hc⟩,fun i a b c d h=>by cases h;exact hlo⟩
theorem g_12 (hlo:lo<=id) (hid:id < H.n) (hg:H.get id=.row ((ps.map Pos.Pos.row).flatten++cs) 10 59) (hx:ps[i]? = some y)  : ∃ w H',R PT (.call lo 174 [.ptr id (i * 10),.agg (evC num kind [p] [tk] text)] H)=some (.ofVal w H')/\H'.n=H.n+1/\H'.get id=.row (((ps.set i { y with prot:=true }).map Pos.Pos.row).flatten++cs) 10 59 /\ ∀ j,j < H.n->j ≠ id->H'.get j=H.get j:=by
 refine Zd (C:=PT) (f:=174) (lo:=lo) (args:=[.ptr id (i * 10),.agg (evC num kind [p] [tk] text)]) (H:=H) (fn:=Tryz.f174) (Q:=fun _ H'=>H'.n=H.n+1/\H'.get id=.row (((ps.set i { y with prot:=true }).map Pos.Pos.row).flatten++cs) 10 59 /\ ∀ j,j < H.n->j ≠ id->H'.get j=H.get j) (by kernel_rfl) Tryz.func174 rfl rfl ?_
 have hL:Len 10 (ps.map Pos.Pos.row):=ZD (by intro x;rfl) _;have hx1:(ps.map Pos.Pos.row)[i]? = some y.row:=Zy hx;have hidn:(id=H.n)=False:=eq_false (by omega);have hid1:=eq_true hid;have hidl:(id < H.n+1)=True:=eq_true (by omega);have g0:(H.push (.cells (evC num kind [p] [tk] text) 53)).get id=.row ((ps.map Pos.Pos.row).flatten++cs) 10 59:=by rw [Heap.get_push,if_neg (by omega)];exact hg
 have s0:=QN (lo:=lo) (i:=i) (k:=5) (t:=4) (c:=.bool true) g0 hlo hL hx1 (by decide) (by kernel_rfl) rfl rfl;have hfin:((ps.set i { y with prot:=true }).map Pos.Pos.row)=((ps.map Pos.Pos.row).set i (y.row.set 5 (.bool true))):=by
  rw [map_set];rfl
 simp (maxDischargeDepth:=12) only [go_sem,reduceEqDiff,reduceAdd,reduceCtorEq,g0,s0];rw [hfin];refine ⟨rfl,fun j hj hne => ?_⟩;have e1:j ≠ H.n:=by omega
 simp only [hne,e1,if_false]
theorem g_14 (hlo:lo<=id) (hid:id < H.n) (hg:H.get id=.row ((ps.map Pos.Pos.row).flatten++cs) 10 59) (hx:ps[i]? = some y)  : ∃ w H',R PT (.call lo 176 [.ptr id (i * 10),.agg (evC num kind [p] [tk] text)] H)=some (.ofVal w H')/\H'.n=H.n+1/\H'.get id=.row (((ps.set i { y with prot:=false }).map Pos.Pos.row).flatten++cs) 10 59 /\ ∀ j,j < H.n->j ≠ id->H'.get j=H.get j:=by
 refine Zd (C:=PT) (f:=176) (lo:=lo) (args:=[.ptr id (i * 10),.agg (evC num kind [p] [tk] text)]) (H:=H) (fn:=Tryz.f176) (Q:=fun _ H'=>H'.n=H.n+1/\H'.get id=.row (((ps.set i { y with prot:=false }).map Pos.Pos.row).flatten++cs) 10 59 /\ ∀ j,j < H.n->j ≠ id->H'.get j=H.get j) (by kernel_rfl) Tryz.func176 rfl rfl ?_
 have hL:Len 10 (ps.map Pos.Pos.row):=ZD (by intro x;rfl) _;have hx1:(ps.map Pos.Pos.row)[i]? = some y.row:=Zy hx;have hidn:(id=H.n)=False:=eq_false (by omega);have hid1:=eq_true hid;have hidl:(id < H.n+1)=True:=eq_true (by omega);have g0:(H.push (.cells (evC num kind [p] [tk] text) 53)).get id=.row ((ps.map Pos.Pos.row).flatten++cs) 10 59:=by rw [Heap.get_push,if_neg (by omega)];exact hg
 have s0:=QN (lo:=lo) (i:=i) (k:=5) (t:=4) (c:=.bool false) g0 hlo hL hx1 (by decide) (by kernel_rfl) rfl rfl;have hfin:((ps.set i { y with prot:=false }).map Pos.Pos.row)=((ps.map Pos.Pos.row).set i (y.row.set 5 (.bool false))):=by
  rw [map_set];rfl
 simp (maxDischargeDepth:=12) only [go_sem,reduceEqDiff,reduceAdd,reduceCtorEq,g0,s0];rw [hfin];refine ⟨rfl,fun j hj hne => ?_⟩;have e1:j ≠ H.n:=by omega
 simp only [hne,e1,if_false]
theorem g_19 (hlo:lo<=id) (hid:id < H.n) (hg:H.get id=.row ((ps.map Pos.Pos.row).flatten++cs) 10 59) (hx:ps[i]? = some y) (hw:ZC .i64 (Int.add y.pers v)=y.pers+v):∃ w H',R PT (.call lo 183 [.ptr id (i * 10),.agg (evC num kind [p] [tk,v] text)] H)=some (.ofVal w H')/\H'.n=H.n+1/\H'.get id=.row (((ps.set i { y with pers:=y.pers+v }).map Pos.Pos.row).flatten++cs) 10 59 /\ ∀ j,j < H.n->j ≠ id->H'.get j=H.get j:=by
 refine Zd (C:=PT) (f:=183) (lo:=lo) (args:=[.ptr id (i * 10),.agg (evC num kind [p] [tk,v] text)]) (H:=H) (fn:=Tryz.f183) (Q:=fun _ H'=>H'.n=H.n+1/\H'.get id=.row (((ps.set i { y with pers:=y.pers+v }).map Pos.Pos.row).flatten++cs) 10 59 /\ ∀ j,j < H.n->j ≠ id->H'.get j=H.get j) (by kernel_rfl) Tryz.func183 rfl rfl ?_
 have hL:Len 10 (ps.map Pos.Pos.row):=ZD (by intro x;rfl) _;have hx1:(ps.map Pos.Pos.row)[i]? = some y.row:=Zy hx;have hidn:(id=H.n)=False:=eq_false (by omega);have hid1:=eq_true hid;have hidl:(id < H.n+1)=True:=eq_true (by omega);have g0:(H.push (.cells (evC num kind [p] [tk,v] text) 53)).get id=.row ((ps.map Pos.Pos.row).flatten++cs) 10 59:=by rw [Heap.get_push,if_neg (by omega)];exact hg
 have hl8:=fun (H':Heap) (hg:H'.get id=.row ((ps.map Pos.Pos.row).flatten++cs) 10 59)=>CE (t:=3) (k:=8) (c:=.int .i64 y.pers) hg hL hx1 rfl (by kernel_rfl) (by kernel_rfl)
 have s0:=QN (lo:=lo) (i:=i) (k:=8) (t:=3) (c:=.int .i64 (y.pers+v)) g0 hlo hL hx1 (by decide) (by kernel_rfl) rfl rfl;have hfin:((ps.set i { y with pers:=y.pers+v }).map Pos.Pos.row)=((ps.map Pos.Pos.row).set i (y.row.set 8 (.int .i64 (y.pers+v)))):=by
  rw [map_set];rfl
 simp (maxDischargeDepth:=12) only [go_sem,reduceEqDiff,reduceAdd,reduceSub,reduceCtorEq,g0,hl8,s0,hw];rw [hfin];refine ⟨rfl,fun j hj hne => ?_⟩;have e1:j ≠ H.n:=by omega
 simp only [hne,e1,if_false]
theorem g_21 (hlo:lo<=id) (hid:id < H.n) (hg:H.get id=.row ((ps.map Pos.Pos.row).flatten++cs) 10 59) (hx:ps[i]? = some y) (hw:ZC .i64 (Int.sub y.pers v)=y.pers - v):∃ w H',R PT (.call lo 185 [.ptr id (i * 10),.agg (evC num kind [p] [tk,v] text)] H)=some (.ofVal w H')/\H'.n=H.n+1/\H'.get id=.row (((ps.set i { y with pers:=y.pers - v }).map Pos.Pos.row).flatten++cs) 10 59 /\ ∀ j,j < H.n->j ≠ id->H'.get j=H.get j:=by
 refine Zd (C:=PT) (f:=185) (lo:=lo) (args:=[.ptr id (i * 10),.agg (evC num kind [p] [tk,v] text)]) (H:=H) (fn:=Tryz.f185) (Q:=fun _ H'=>H'.n=H.n+1/\H'.get id=.row (((ps.set i { y with pers:=y.pers - v }).map Pos.Pos.row).flatten++cs) 10 59 /\ ∀ j,j < H.n->j ≠ id->H'.get j=H.get j) (by kernel_rfl) Tryz.func185 rfl rfl ?_
 have hL:Len 10 (ps.map Pos.Pos.row):=ZD (by intro x;rfl) _;have hx1:(ps.map Pos.Pos.row)[i]? = some y.row:=Zy hx;have hidn:(id=H.n)=False:=eq_false (by omega);have hid1:=eq_true hid;have hidl:(id < H.n+1)=True:=eq_true (by omega);have g0:(H.push (.cells (evC num kind [p] [tk,v] text) 53)).get id=.row ((ps.map Pos.Pos.row).flatten++cs) 10 59:=by rw [Heap.get_push,if_neg (by omega)];exact hg
 have hl8:=fun (H':Heap) (hg:H'.get id=.row ((ps.map Pos.Pos.row).flatten++cs) 10 59)=>CE (t:=3) (k:=8) (c:=.int .i64 y.pers) hg hL hx1 rfl (by kernel_rfl) (by kernel_rfl)
 have s0:=QN (lo:=lo) (i:=i) (k:=8) (t:=3) (c:=.int .i64 (y.pers - v)) g0 hlo hL hx1 (by decide) (by kernel_rfl) rfl rfl;have hfin:((ps.set i { y with pers:=y.pers - v }).map Pos.Pos.row)=((ps.map Pos.Pos.row).set i (y.row.set 8 (.int .i64 (y.pers - v)))):=by
  rw [map_set];rfl
 simp (maxDischargeDepth:=12) only [go_sem,reduceEqDiff,reduceAdd,reduceSub,reduceCtorEq,g0,hl8,s0,hw];rw [hfin];refine ⟨rfl,fun j hj hne => ?_⟩;have e1:j ≠ H.n:=by omega
 simp only [hne,e1,if_false]
theorem g_23 (hlo:lo<=id) (hid:id < H.n) (hg:H.get id=.row ((ps.map Pos.Pos.row).flatten++cs) 10 59) (hx:ps[i]? = some y)  : ∃ w H',R PT (.call lo 187 [.ptr id (i * 10),.agg (evC num kind [p] [tk] text)] H)=some (.ofVal w H')/\H'.n=H.n+1/\H'.get id=.row (((ps.set i { y with opn:=true }).map Pos.Pos.row).flatten++cs) 10 59 /\ ∀ j,j < H.n->j ≠ id->H'.get j=H.get j:=by
 refine Zd (C:=PT) (f:=187) (lo:=lo) (args:=[.ptr id (i * 10),.agg (evC num kind [p] [tk] text)]) (H:=H) (fn:=Tryz.f187) (Q:=fun _ H'=>H'.n=H.n+1/\H'.get id=.row (((ps.set i { y with opn:=true }).map Pos.Pos.row).flatten++cs) 10 59 /\ ∀ j,j < H.n->j ≠ id->H'.get j=H.get j) (by kernel_rfl) Tryz.func187 rfl rfl ?_
 have hL:Len 10 (ps.map Pos.Pos.row):=ZD (by intro x;rfl) _;have hx1:(ps.map Pos.Pos.row)[i]? = some y.row:=Zy hx;have hidn:(id=H.n)=False:=eq_false (by omega);have hid1:=eq_true hid;have hidl:(id < H.n+1)=True:=eq_true (by omega);have g0:(H.push (.cells (evC num kind [p] [tk] text) 53)).get id=.row ((ps.map Pos.Pos.row).flatten++cs) 10 59:=by rw [Heap.get_push,if_neg (by omega)];exact hg
 have s0:=QN (lo:=lo) (i:=i) (k:=6) (t:=4) (c:=.bool true) g0 hlo hL hx1 (by decide) (by kernel_rfl) rfl rfl;have hfin:((ps.set i { y with opn:=true }).map Pos.Pos.row)=((ps.map Pos.Pos.row).set i (y.row.set 6 (.bool true))):=by
  rw [map_set];rfl
 simp (maxDischargeDepth:=12) only [go_sem,reduceEqDiff,reduceAdd,reduceCtorEq,g0,s0];rw [hfin];refine ⟨rfl,fun j hj hne => ?_⟩;have e1:j ≠ H.n:=by omega
 simp only [hne,e1,if_false]
theorem g_25 (hlo:lo<=id) (hid:id < H.n) (hg:H.get id=.row ((ps.map Pos.Pos.row).flatten++cs) 10 59) (hx:ps[i]? = some y) (hw:ZC .i64 (Int.add y.closed 1)=y.closed+1):∃ w H',R PT (.call lo 189 [.ptr id (i * 10),.agg (evC num kind [p] [tk,v] text)] H)=some (.ofVal w H')/\H'.n=H.n+1/\H'.get id=.row (((ps.set i { y with opn:=false,closed:=y.closed+1,speed:=v }).map Pos.Pos.row).flatten++cs) 10 59 /\ ∀ j,j < H.n->j ≠ id->H'.get j=H.get j:=by
 refine Zd (C:=PT) (f:=189) (lo:=lo) (args:=[.ptr id (i * 10),.agg (evC num kind [p] [tk,v] text)]) (H:=H) (fn:=Tryz.f189) (Q:=fun _ H'=>H'.n=H.n+1/\H'.get id=.row (((ps.set i { y with opn:=false,closed:=y.closed+1,speed:=v }).map Pos.Pos.row).flatten++cs) 10 59 /\ ∀ j,j < H.n->j ≠ id->H'.get j=H.get j) (by kernel_rfl) Tryz.func189 rfl rfl ?_
 have hL:Len 10 (ps.map Pos.Pos.row):=ZD (by intro x;rfl) _;have hx1:(ps.map Pos.Pos.row)[i]? = some y.row:=Zy hx;have hidn:(id=H.n)=False:=eq_false (by omega);have hid1:=eq_true hid;have hidl:(id < H.n+1)=True:=eq_true (by omega);have g0:(H.push (.cells (evC num kind [p] [tk,v] text) 53)).get id=.row ((ps.map Pos.Pos.row).flatten++cs) 10 59:=by rw [Heap.get_push,if_neg (by omega)];exact hg
 have hl7:=fun (H':Heap) (hg:H'.get id=.row ((ps.map Pos.Pos.row).flatten++cs) 10 59)=>CE (t:=3) (k:=7) (c:=.int .i64 y.closed) hg hL hx1 rfl (by kernel_rfl) (by kernel_rfl)
 have s0:=QN (lo:=lo) (i:=i) (k:=6) (t:=4) (c:=.bool false) g0 hlo hL hx1 (by decide) (by kernel_rfl) rfl rfl;have G0:((H.push (.cells (evC num kind [p] [tk,v] text) 53)).set id (.row (((ps.map Pos.Pos.row).set i (y.row.set 6 (.bool false))).flatten++cs) 10 59)).get id=.row (((ps.map Pos.Pos.row).set i (y.row.set 6 (.bool false))).flatten++cs) 10 59:=by rw [Heap.get_set,if_pos rfl]
 have L0:Len 10 ((ps.map Pos.Pos.row).set i (y.row.set 6 (.bool false))):=Iv hL rfl;have X0:((ps.map Pos.Pos.row).set i (y.row.set 6 (.bool false)))[i]? = some (y.row.set 6 (.bool false)):=by rw [getElem?_set_self (by simpa using (List.getElem?_eq_some_iff.1 hx1).1)]
 have s1:=QN (lo:=lo) (i:=i) (k:=7) (t:=3) (c:=.int .i64 (y.closed+1)) G0 hlo L0 X0 (by decide) (by kernel_rfl) rfl rfl;have G1:(((H.push (.cells (evC num kind [p] [tk,v] text) 53)).set id (.row (((ps.map Pos.Pos.row).set i (y.row.set 6 (.bool false))).flatten++cs) 10 59)).set id (.row ((((ps.map Pos.Pos.row).set i (y.row.set 6 (.bool false))).set i ((y.row.set 6 (.bool false)).set 7 (.int .i64 (y.closed+1)))).flatten++cs) 10 59)).get id=.row ((((ps.map Pos.Pos.row).set i (y.row.set 6 (.bool false))).set i ((y.row.set 6 (.bool false)).set 7 (.int .i64 (y.closed+1)))).flatten++cs) 10 59:=by rw [Heap.get_set,if_pos rfl]
 have L1:Len 10 (((ps.map Pos.Pos.row).set i (y.row.set 6 (.bool false))).set i ((y.row.set 6 (.bool false)).set 7 (.int .i64 (y.closed+1)))):=Iv L0 rfl;have X1:(((ps.map Pos.Pos.row).set i (y.row.set 6 (.bool false))).set i ((y.row.set 6 (.bool false)).set 7 (.int .i64 (y.closed+1))))[i]? = some ((y.row.set 6 (.bool false)).set 7 (.int .i64 (y.closed+1))):=by rw [getElem?_set_self (by simpa using (List.getElem?_eq_some_iff.1 X0).1)]
 have s2:=QN (lo:=lo) (i:=i) (k:=9) (t:=3) (c:=.int .i64 v) G1 hlo L1 X1 (by decide) (by kernel_rfl) rfl rfl;have hfin:((ps.set i { y with opn:=false,closed:=y.closed+1,speed:=v }).map Pos.Pos.row)=((((ps.map Pos.Pos.row).set i (y.row.set 6 (.bool false))).set i ((y.row.set 6 (.bool false)).set 7 (.int .i64 (y.closed+1)))).set i (((y.row.set 6 (.bool false)).set 7 (.int .i64 (y.closed+1))).set 9 (.int .i64 v))):=by
  rw [map_set];simp only [set_set];rfl
 simp (maxDischargeDepth:=12) only [go_sem,reduceEqDiff,reduceAdd,reduceSub,reduceCtorEq,g0,hl7,s0,s1,s2,hw];rw [hfin];refine ⟨rfl,fun j hj hne => ?_⟩;have e1:j ≠ H.n:=by omega
 simp only [hne,e1,if_false]
theorem g_27 (hlo:lo<=id) (hid:id < H.n) (hg:H.get id=.row ((ps.map Pos.Pos.row).flatten++cs) 10 59) (hx:ps[i]? = some y)  : ∃ w H',R PT (.call lo 191 [.ptr id (i * 10),.agg (evC num kind [p] [tk] text)] H)=some (.ofVal w H')/\H'.n=H.n+1/\H'.get id=.row (((ps.set i { y with ret:=true }).map Pos.Pos.row).flatten++cs) 10 59 /\ ∀ j,j < H.n->j ≠ id->H'.get j=H.get j:=by
 refine Zd (C:=PT) (f:=191) (lo:=lo) (args:=[.ptr id (i * 10),.agg (evC num kind [p] [tk] text)]) (H:=H) (fn:=Tryz.f191) (Q:=fun _ H'=>H'.n=H.n+1/\H'.get id=.row (((ps.set i { y with ret:=true }).map Pos.Pos.row).flatten++cs) 10 59 /\ ∀ j,j < H.n->j ≠ id->H'.get j=H.get j) (by kernel_rfl) Tryz.func191 rfl rfl ?_
 have hL:Len 10 (ps.map Pos.Pos.row):=ZD (by intro x;rfl) _;have hx1:(ps.map Pos.Pos.row)[i]? = some y.row:=Zy hx;have hidn:(id=H.n)=False:=eq_false (by omega);have hid1:=eq_true hid;have hidl:(id < H.n+1)=True:=eq_true (by omega);have g0:(H.push (.cells (evC num kind [p] [tk] text) 53)).get id=.row ((ps.map Pos.Pos.row).flatten++cs) 10 59:=by rw [Heap.get_push,if_neg (by omega)];exact hg
 have s0:=QN (lo:=lo) (i:=i) (k:=4) (t:=4) (c:=.bool true) g0 hlo hL hx1 (by decide) (by kernel_rfl) rfl rfl;have hfin:((ps.set i { y with ret:=true }).map Pos.Pos.row)=((ps.map Pos.Pos.row).set i (y.row.set 4 (.bool true))):=by
  rw [map_set];rfl
 simp (maxDischargeDepth:=12) only [go_sem,reduceEqDiff,reduceAdd,reduceCtorEq,g0,s0];rw [hfin];refine ⟨rfl,fun j hj hne => ?_⟩;have e1:j ≠ H.n:=by omega
 simp only [hne,e1,if_false]
theorem g_29 (hlo:lo<=id) (hid:id < H.n) (hg:H.get id=.row ((ps.map Pos.Pos.row).flatten++cs) 10 59) (hx:ps[i]? = some y)  : ∃ w H',R PT (.call lo 193 [.ptr id (i * 10),.agg (evC num kind [p] [tk,v] text)] H)=some (.ofVal w H')/\H'.n=H.n+1/\H'.get id=.row (((ps.set i { y with speed:=v }).map Pos.Pos.row).flatten++cs) 10 59 /\ ∀ j,j < H.n->j ≠ id->H'.get j=H.get j:=by
 refine Zd (C:=PT) (f:=193) (lo:=lo) (args:=[.ptr id (i * 10),.agg (evC num kind [p] [tk,v] text)]) (H:=H) (fn:=Tryz.f193) (Q:=fun _ H'=>H'.n=H.n+1/\H'.get id=.row (((ps.set i { y with speed:=v }).map Pos.Pos.row).flatten++cs) 10 59 /\ ∀ j,j < H.n->j ≠ id->H'.get j=H.get j) (by kernel_rfl) Tryz.func193 rfl rfl ?_
 have hL:Len 10 (ps.map Pos.Pos.row):=ZD (by intro x;rfl) _;have hx1:(ps.map Pos.Pos.row)[i]? = some y.row:=Zy hx;have hidn:(id=H.n)=False:=eq_false (by omega);have hid1:=eq_true hid;have hidl:(id < H.n+1)=True:=eq_true (by omega);have g0:(H.push (.cells (evC num kind [p] [tk,v] text) 53)).get id=.row ((ps.map Pos.Pos.row).flatten++cs) 10 59:=by rw [Heap.get_push,if_neg (by omega)];exact hg
 have s0:=QN (lo:=lo) (i:=i) (k:=9) (t:=3) (c:=.int .i64 v) g0 hlo hL hx1 (by decide) (by kernel_rfl) rfl rfl;have hfin:((ps.set i { y with speed:=v }).map Pos.Pos.row)=((ps.map Pos.Pos.row).set i (y.row.set 9 (.int .i64 v))):=by
  rw [map_set];rfl
 simp (maxDischargeDepth:=12) only [go_sem,reduceEqDiff,reduceAdd,reduceCtorEq,g0,s0];rw [hfin];refine ⟨rfl,fun j hj hne => ?_⟩;have e1:j ≠ H.n:=by omega
 simp only [hne,e1,if_false]
section
variable {lo:Nat} {H H':Heap} {b:Nat} {pre post:List AV} {e:TypeId} {r:Reg} {V:RegV}
theorem RegW.reF (h:RegW lo H b pre post e r V) (c:Chg lo b (Xt 7 65) H H') (hb:H'.get b=H.get b) (hv:SW lo H' V.vF 7 65 (xs.map Pos.Flt.row)) (hl:xs.length<=Z2):RegW lo H' b pre post e { r with faults:=xs } V/\Chg lo b Yg H H':=by
 have hcb:∃ cs e,H.get b=.cells cs e:=⟨_,_,h.blk⟩;exact ⟨⟨lt_of_lt_of_le h.bn c.n,h.lob,hb.trans h.blk,h.aT.chg c (fun cs ⟨_,hx⟩=>by cases hx) hcb,hv,h.aR.chg c (fun cs ⟨_,hx⟩=>by cases hx) hcb,h.aP.chg c (fun cs ⟨_,hx⟩=>by cases hx) hcb,h.aM.chg c (fun cs ⟨_,hx⟩=>by cases hx) hcb,h.lT,hl,h.lR,h.lP,h.lM⟩,c.mono fun x ⟨cs,hx⟩=>⟨cs,_,_,hx,by decide⟩⟩
theorem RegW.reP (h:RegW lo H b pre post e r V) (c:Chg lo b (Xt 10 59) H H') (hb:H'.get b=H.get b) {xs:List Pos} (hv:SW lo H' V.vP 10 59 (xs.map Pos.Pos.row)) (hl:xs.length<=Z2):RegW lo H' b pre post e { r with poss:=xs } V/\Chg lo b Yg H H':=by
 have hcb:∃ cs e,H.get b=.cells cs e:=⟨_,_,h.blk⟩;exact ⟨⟨lt_of_lt_of_le h.bn c.n,h.lob,hb.trans h.blk,h.aT.chg c (fun cs ⟨_,hx⟩=>by cases hx) hcb,h.aF.chg c (fun cs ⟨_,hx⟩=>by cases hx) hcb,h.aR.chg c (fun cs ⟨_,hx⟩=>by cases hx) hcb,hv,h.aM.chg c (fun cs ⟨_,hx⟩=>by cases hx) hcb,h.lT,h.lF,h.lR,hl,h.lM⟩,c.mono fun x ⟨cs,hx⟩=>⟨cs,_,_,hx,by decide⟩⟩
end
theorem Z9M {lo:Nat} {H:Heap} {b:Nat} {pre post:List AV} {e:TypeId} {r:Reg} {V:RegV} (h:RegW lo H b pre post e r V) {p:Nm} {y:Flt} (hf:At (·.name) r.faults f i y):∃ w H',R PT (.call lo 160 [.ptr b pre.length,.agg (evC num kind [f] [tk] text)] H)=some (.ofVal w H')/\RegW lo H' b pre post e { r with faults:=r.faults.set i { y with ans:=true } } V/\Chg lo b Yg H H':=by
 refine Zd (C:=PT) (f:=160) (lo:=lo) (args:=[.ptr b pre.length,.agg (evC num kind [f] [tk] text)]) (H:=H) (fn:=Tryz.f160) (Q:=fun _ H'=>RegW lo H' b pre post e { r with faults:=r.faults.set i { y with ans:=true } } V/\Chg lo b Yg H H') (by kernel_rfl) Tryz.func160 rfl rfl ?_
 have ho:Old H.n H (H.push (.cells (evC num kind [f] [tk] text) 53)):=(Old.refl H).push _;have h1:=h.old ho;have hfa:=fun lo K=>Gp h.is hf.idx hf.lt ho (lo:=lo) (K:=K)
 obtain ⟨hr,_⟩ | ⟨id,cs,m,hv,hid,hg,hcs⟩:=h1.aF.1
 . have:=hf.at';rw [map_eq_nil_iff.1 hr] at this;cases this
 have hlo:lo<=id:=h1.aF.2 _ _ _ _ _ hv;have hL:Len 7 (r.faults.map Pos.Flt.row):=ZD (by intro x;rfl) _;have hx1:(r.faults.map Pos.Flt.row)[i]? = some y.row:=Zy hf.at';have hel:elA V.vF 7 i=.ptr id (i * 7):=by rw [hv];show AV.ptr id (0+i * 7)=_;rw [zero_add]
 have hst:=QN (lo:=lo) (i:=i) (k:=5) (t:=4) (c:=.bool true) hg hlo hL hx1 (by decide) (by kernel_rfl) rfl rfl;have hbn:=eq_true h.bn;have hidb:id ≠ b:=fun he=>by rw [he,h1.blk] at hg;cases hg
 have hc:Chg lo b (Xt 7 65) (H.push (.cells (evC num kind [f] [tk] text) 53)) ((H.push (.cells (evC num kind [f] [tk] text) 53)).set id (.row (((r.faults.map Pos.Flt.row).set i (y.row.set 5 (.bool true))).flatten++cs) 7 65)):=(Chg.refl _).set hlo (.inr (.inl ⟨_,hg⟩)) _;have hfin:((r.faults.set i { y with ans:=true }).map Pos.Flt.row)=((r.faults.map Pos.Flt.row).set i (y.row.set 5 (.bool true))):=by rw [map_set];rfl
 obtain ⟨g1,g2⟩:=h1.reF (xs:=r.faults.set i { y with ans:=true }) hc (by rw [Heap.get_set,if_neg (Ne.symm hidb)]) (by
  rw [hv,hfin];exact CF hlo (by simpa using hid) (by rw [length_set]) hcs (by rw [Heap.get_set,if_pos rfl])) (by rw [length_set];exact h.lF)
 simp (maxDischargeDepth:=12) only [go_sem,reduceEqDiff,reduceAdd,reduceCtorEq,hfa,hel,hst];exact ⟨g1,((Chg.refl H).push _).to g2⟩
theorem Z9N {lo:Nat} {H:Heap} {b:Nat} {pre post:List AV} {e:TypeId} {r:Reg} {V:RegV} (h:RegW lo H b pre post e r V) {y:Flt} (hf:At (·.name) r.faults f i y):∃ w H',R PT (.call lo 162 [.ptr b pre.length,.agg (evC num kind [f,p] [tk] text)] H)=some (.ofVal w H')/\RegW lo H' b pre post e { r with faults:=r.faults.set i { y with rep:=true } } V/\Chg lo b Yg H H':=by
 refine Zd (C:=PT) (f:=162) (lo:=lo) (args:=[.ptr b pre.length,.agg (evC num kind [f,p] [tk] text)]) (H:=H) (fn:=Tryz.f162) (Q:=fun _ H'=>RegW lo H' b pre post e { r with faults:=r.faults.set i { y with rep:=true } } V/\Chg lo b Yg H H') (by kernel_rfl) Tryz.func162 rfl rfl ?_
 have ho:Old H.n H (H.push (.cells (evC num kind [f,p] [tk] text) 53)):=(Old.refl H).push _;have h1:=h.old ho;have hfa:=fun lo K=>Gp h.is hf.idx hf.lt ho (lo:=lo) (K:=K)
 obtain ⟨hr,_⟩ | ⟨id,cs,m,hv,hid,hg,hcs⟩:=h1.aF.1
 . have:=hf.at';rw [map_eq_nil_iff.1 hr] at this;cases this
 have hlo:lo<=id:=h1.aF.2 _ _ _ _ _ hv;have hL:Len 7 (r.faults.map Pos.Flt.row):=ZD (by intro x;rfl) _;have hx1:(r.faults.map Pos.Flt.row)[i]? = some y.row:=Zy hf.at';have hel:elA V.vF 7 i=.ptr id (i * 7):=by rw [hv];show AV.ptr id (0+i * 7)=_;rw [zero_add]
 have hst:=QN (lo:=lo) (i:=i) (k:=6) (t:=4) (c:=.bool true) hg hlo hL hx1 (by decide) (by kernel_rfl) rfl rfl;have hbn:=eq_true h.bn;have hidb:id ≠ b:=fun he=>by rw [he,h1.blk] at hg;cases hg
 have hc:Chg lo b (Xt 7 65) (H.push (.cells (evC num kind [f,p] [tk] text) 53)) ((H.push (.cells (evC num kind [f,p] [tk] text) 53)).set id (.row (((r.faults.map Pos.Flt.row).set i (y.row.set 6 (.bool true))).flatten++cs) 7 65)):=(Chg.refl _).set hlo (.inr (.inl ⟨_,hg⟩)) _;have hfin:((r.faults.set i { y with rep:=true }).map Pos.Flt.row)=((r.faults.map Pos.Flt.row).set i (y.row.set 6 (.bool true))):=by rw [map_set];rfl
 obtain ⟨g1,g2⟩:=h1.reF (xs:=r.faults.set i { y with rep:=true }) hc (by rw [Heap.get_set,if_neg (Ne.symm hidb)]) (by
  rw [hv,hfin];exact CF hlo (by simpa using hid) (by rw [length_set]) hcs (by rw [Heap.get_set,if_pos rfl])) (by rw [length_set];exact h.lF)
 simp (maxDischargeDepth:=12) only [go_sem,reduceEqDiff,reduceAdd,reduceCtorEq,hfa,hel,hst];exact ⟨g1,((Chg.refl H).push _).to g2⟩
theorem Ke {lo:Nat} {H:Heap} {b:Nat} {pre post:List AV} {e:TypeId} {r:Reg} {V:RegV} (h:RegW lo H b pre post e r V) (hf:At (·.name) r.poss p i y) (hbx:bx < H.n) (hgb:H.get bx=.cells [.fn g [] []] 274) {f:Pos->Pos}
 (hen:∀ {lo:Nat} {args:List AV} {H:Heap} {K:AV->Heap->Prop},VO (Z9 PT (R PT) lo g args H) K=AO (R PT (.call lo g args H)) fun o=>K o.val o.s.H)
 (hg:∀ (id:Nat) (H:Heap) (cs:List AV),lo<=id->id < H.n->H.get id=.row ((r.poss.map Pos.Pos.row).flatten++cs) 10 59 -> ∃ w H',R PT (.call lo g [.ptr id (i * 10),.agg (evC num kind [p] vals text)] H)=some (.ofVal w H')/\H'.n=H.n+1/\H'.get id=.row (((r.poss.set i (f y)).map Pos.Pos.row).flatten++cs) 10 59 /\ ∀ j,j < H.n->j ≠ id->H'.get j=H.get j) :
 ∃ w H',R PT (.call lo 274 [.ptr b pre.length,.agg (evC num kind [p] vals text),.ptr bx 0] H)=some (.ofVal w H')/\RegW lo H' b pre post e { r with poss:=r.poss.set i (f y) } V/\Chg lo b Yg H H':=by
 refine Zd (C:=PT) (f:=274) (lo:=lo) (args:=[.ptr b pre.length,.agg (evC num kind [p] vals text),.ptr bx 0]) (H:=H) (fn:=Tryz.f274) (Q:=fun _ H'=>RegW lo H' b pre post e { r with poss:=r.poss.set i (f y) } V/\Chg lo b Yg H H') (by kernel_rfl) Tryz.func274 rfl rfl ?_
 have ho:Old H.n H (H.push (.cells (evC num kind [p] vals text) 53)):=(Old.refl H).push _;have h1:=h.old ho;have hfa:=fun lo K=>JL h.is hf.idx hf.lt ho (lo:=lo) (K:=K)
 obtain ⟨hr,_⟩ | ⟨id,cs,m,hv,hid,hgi,hcs⟩:=h1.aP.1
 . have:=hf.at';rw [map_eq_nil_iff.1 hr] at this;cases this
 have hlo:lo<=id:=h1.aP.2 _ _ _ _ _ hv;have hel:elA V.vP 10 i=.ptr id (i * 10):=by rw [hv];show AV.ptr id (0+i * 10)=_;rw [zero_add]
 obtain ⟨w,H2,hR,hn,hg2,hoth⟩:=hg id _ cs hlo hid hgi;have hcall:=fun K=>Xs (K:=K) hen hR
 have hbn:=eq_true h.bn;have hidb:id ≠ b:=fun he=>by rw [he,h1.blk] at hgi;cases hgi
 have hc:Chg lo b (Xt 10 59) (H.push (.cells (evC num kind [p] vals text) 53)) H2:=⟨by rw [hn];exact le_succ _,fun j hj=>by
  by_cases hji:j=id
  . exact .inr ⟨by rw [hji];exact hlo,.inr ⟨_,by rw [hji];exact hgi⟩⟩
  . exact .inl (hoth j hj hji)⟩
 obtain ⟨g1,g2⟩:=h1.reP (xs:=r.poss.set i (f y)) hc (hoth b h1.bn (Ne.symm hidb)) (by
  rw [hv];have:=CF (lo:=lo) (rows:=r.poss.map Pos.Pos.row) (rows':=(r.poss.set i (f y)).map Pos.Pos.row) hlo (by rw [hn];omega) (by simp) hcs hg2;exact this) (by rw [length_set];exact h.lP)
 have hbx':=eq_true hbx;have hbxn:(bx=H.n)=False:=eq_false (by omega);simp (maxDischargeDepth:=12) only [go_sem,reduceEqDiff,reduceAdd,reduceSub,reduceCtorEq,hfa,hel,hgb,hbxn,hcall];exact ⟨g1,((Chg.refl H).push _).to g2⟩
theorem en168:ZY 168:=Y0
theorem en181:ZY 181:=Y0
theorem Z9O {H:Heap} {z:Trn} (hid:id < H.n) (hg:H.get id=.cells (evC num kind [x] [tk] text) 53) {lo:Nat} {K:AV->Heap->Prop}:VO (Z9 PT (R PT) lo 168 [.agg [.str z.name,.str z.track,.int .i64 z.speed],.ptr id 0] H) K=K (.bool (decide (z.name ≠ x))) H:=by
 obtain ⟨w,H2,h1,h2⟩:=Zd (C:=PT) (f:=168) (lo:=H.n) (args:=[.agg [.str z.name,.str z.track,.int .i64 z.speed],.ptr id 0]) (H:=H) (fn:=Tryz.f168) (Q:=fun w _=>w=.bool (decide (z.name ≠ x))) (by kernel_rfl) Tryz.func168 rfl rfl (by
  have hne:(id=H.n)=False:=eq_false (by omega);have hid1:=eq_true hid;by_cases c:z.name=x
  . have c1:decide (z.name=x)=true:=decide_eq_true c;have c2:decide (z.name ≠ x)=false:=decide_eq_false (by simpa using c);simp (maxDischargeDepth:=12) only [go_sem,reduceEqDiff,reduceAdd,reduceSub,reduceCtorEq,hne,hg,Ys,c1,c2]
  . have c1:decide (z.name=x)=false:=decide_eq_false c;have c2:decide (z.name ≠ x)=true:=decide_eq_true c;simp (maxDischargeDepth:=12) only [go_sem,reduceEqDiff,reduceAdd,reduceSub,reduceCtorEq,hne,hg,Ys,c1,c2])
 exact ZX (en168 rfl) ⟨H2,h1⟩ (by rw [h2];rfl) rfl
theorem Z9P {lo:Nat} {H:Heap} {b:Nat} {pre post:List AV} {e:TypeId} {r:Reg} {V:RegV} (h:RegW lo H b pre post e r V):∃ w H',R PT (.call lo 166 [.ptr b pre.length,.agg (evC num kind [x] [tk] text)] H)=some (.ofVal w H') /\ ∃ V',RegW lo H' b pre post e { r with trains:=r.trains.filter fun z=>decide (z.name ≠ x) } V'/\Chg lo b Yg H H':=by
 refine Zd (C:=PT) (f:=166) (lo:=lo) (args:=[.ptr b pre.length,.agg (evC num kind [x] [tk] text)]) (H:=H) (fn:=Tryz.f166) (Q:=fun _ H'=>∃ V',RegW lo H' b pre post e { r with trains:=r.trains.filter fun z=>decide (z.name ≠ x) } V'/\Chg lo b Yg H H') (by kernel_rfl) Tryz.func166 rfl rfl ?_
 have hlo:lo<=H.n:=le_of_lt (lt_of_le_of_lt h.lob h.bn);have ho:Old H.n H (H.push (.cells (evC num kind [x] [tk] text) 53)):=(Old.refl H).push _;have h1:=h.old ho;obtain ⟨t,H2,hk,hA,hO⟩:=Z7L h1.aR.pa.sl h.lR (g:=168) (caps:=[.ptr H.n 0]) (q:=fun z=>decide (z.name ≠ x)) rfl (fun z _ Hc hoc lo K=>Z9O (lt_of_lt_of_le (by simp) hoc.1) (by rw [hoc.2 _ (by simp),Heap.get_push,if_pos rfl]));have hv:PW lo H2 (.ps t ((r.trains.filter fun z=>decide (z.name ≠ x)).map Pos.Trn.row)) 3 61 ((r.trains.filter fun z=>decide (z.name ≠ x)).map Pos.Trn.row):=by
  rcases hA with hA | ⟨j,a1,a2,a3,a4⟩
  . exact ⟨t,rfl,.inl hA⟩
  . exact ⟨t,rfl,.inr ⟨j,a1,a2,by simp at a3;omega,a4⟩⟩
 have hc:Chg lo b (Xt 3 61) (H.push (.cells (evC num kind [x] [tk] text) 53)) H2:=⟨hO.1,fun i hi=>.inl (hO.2 i hi)⟩;have hcb:=hO.2 b h1.bn;have hst:sst lo H2 45 (.ptr b (pre.length+3)) _=_:=J7 (hcb.trans h1.blk) h.lob (by show 3 < 6;decide) (by kernel_rfl) hv.cells1 hv.one1;obtain ⟨g1,g2⟩:=h1.putR hc hcb (xs:=r.trains.filter fun z=>decide (z.name ≠ x)) hv (Nat.le_trans (length_filter_le _ _) h.lR);have l1:=fun H'=>h.is.l3 (H':=H')
 have hbn:=eq_true h.bn;simp (maxDischargeDepth:=12) only [go_sem,reduceEqDiff,reduceAdd,reduceCtorEq,l1,hk,hst];exact ⟨_,g1,((Chg.refl H).push _).to g2⟩
theorem Z9Q {H:Heap} {z:Mch} (hid:id < H.n) (hg:H.get id=.cells (evC num kind [x] [tk] text) 53) {lo:Nat} {K:AV->Heap->Prop}:VO (Z9 PT (R PT) lo 181 [.agg [.str z.name,.str z.poss],.ptr id 0] H) K=K (.bool (decide (z.name ≠ x))) H:=by
 obtain ⟨w,H2,h1,h2⟩:=Zd (C:=PT) (f:=181) (lo:=H.n) (args:=[.agg [.str z.name,.str z.poss],.ptr id 0]) (H:=H) (fn:=Tryz.f181) (Q:=fun w _=>w=.bool (decide (z.name ≠ x))) (by kernel_rfl) Tryz.func181 rfl rfl (by
  have hne:(id=H.n)=False:=eq_false (by omega);have hid1:=eq_true hid;by_cases c:z.name=x
  . have c1:decide (z.name=x)=true:=decide_eq_true c;have c2:decide (z.name ≠ x)=false:=decide_eq_false (by simpa using c);simp (maxDischargeDepth:=12) only [go_sem,reduceEqDiff,reduceAdd,reduceSub,reduceCtorEq,hne,hg,Ys,c1,c2]
  . have c1:decide (z.name=x)=false:=decide_eq_false c;have c2:decide (z.name ≠ x)=true:=decide_eq_true c;simp (maxDischargeDepth:=12) only [go_sem,reduceEqDiff,reduceAdd,reduceSub,reduceCtorEq,hne,hg,Ys,c1,c2])
 exact ZX (en181 rfl) ⟨H2,h1⟩ (by rw [h2];rfl) rfl
theorem w_Out {lo:Nat} {H:Heap} {b:Nat} {pre post:List AV} {e:TypeId} {r:Reg} {V:RegV} (h:RegW lo H b pre post e r V):∃ w H',R PT (.call lo 179 [.ptr b pre.length,.agg (evC num kind [x] [tk] text)] H)=some (.ofVal w H') /\ ∃ V',RegW lo H' b pre post e { r with machs:=r.machs.filter fun z=>decide (z.name ≠ x) } V'/\Chg lo b Yg H H':=by
 refine Zd (C:=PT) (f:=179) (lo:=lo) (args:=[.ptr b pre.length,.agg (evC num kind [x] [tk] text)]) (H:=H) (fn:=Tryz.f179) (Q:=fun _ H'=>∃ V',RegW lo H' b pre post e { r with machs:=r.machs.filter fun z=>decide (z.name ≠ x) } V'/\Chg lo b Yg H H') (by kernel_rfl) Tryz.func179 rfl rfl ?_
 have hlo:lo<=H.n:=le_of_lt (lt_of_le_of_lt h.lob h.bn);have ho:Old H.n H (H.push (.cells (evC num kind [x] [tk] text) 53)):=(Old.refl H).push _;have h1:=h.old ho;obtain ⟨t,H2,hk,hA,hO⟩:=Co h1.aM.pa.sl h.lM (g:=181) (caps:=[.ptr H.n 0]) (q:=fun z=>decide (z.name ≠ x)) rfl (fun z _ Hc hoc lo K=>Z9Q (lt_of_lt_of_le (by simp) hoc.1) (by rw [hoc.2 _ (by simp),Heap.get_push,if_pos rfl]));have hv:PW lo H2 (.ps t ((r.machs.filter fun z=>decide (z.name ≠ x)).map Pos.Mch.row)) 2 67 ((r.machs.filter fun z=>decide (z.name ≠ x)).map Pos.Mch.row):=by
  rcases hA with hA | ⟨j,a1,a2,a3,a4⟩
  . exact ⟨t,rfl,.inl hA⟩
  . exact ⟨t,rfl,.inr ⟨j,a1,a2,by simp at a3;omega,a4⟩⟩
 have hc:Chg lo b (Xt 2 67) (H.push (.cells (evC num kind [x] [tk] text) 53)) H2:=⟨hO.1,fun i hi=>.inl (hO.2 i hi)⟩;have hcb:=hO.2 b h1.bn;have hst:sst lo H2 47 (.ptr b (pre.length+5)) _=_:=J7 (hcb.trans h1.blk) h.lob (by show 5 < 6;decide) (by kernel_rfl) hv.cells1 hv.one1;obtain ⟨g1,g2⟩:=h1.putM hc hcb (xs:=r.machs.filter fun z=>decide (z.name ≠ x)) hv (Nat.le_trans (length_filter_le _ _) h.lM);have l1:=fun H'=>h.is.l5 (H':=H')
 have hbn:=eq_true h.bn;simp (maxDischargeDepth:=12) only [go_sem,reduceEqDiff,reduceAdd,reduceCtorEq,l1,hk,hst];exact ⟨_,g1,((Chg.refl H).push _).to g2⟩
def Xv (r:Reg) (a:Pos.Act) (num:Int) (kind:Nm) (names:List Nm) (vals:List Int) (text:Nm) (n:Nat):Prop :=
 ∃ nm fv f1 l1 f2 l2,lkS kind (J6 n)=some (.agg [.str nm,.int .i64 fv,.fn f1 [] l1,.fn f2 [] l2])/\(l1.map ZV=l1/\l2.map ZV=l2)/\(∀ m,n+17<=m->YW m l1=true/\YW m l2=true) /\
   ∀ lo H b pre post e V,FormsAt n H->n+17<=H.n->RegW lo H b pre post e r V -> ∃ w H' V',(∀ K,VO (Z9 PT (R PT) lo f2 (.ptr b pre.length :: .agg (evC num kind names vals text)::l2) H) K=K w H')/\RegW lo H' b pre post e (Pos.doA r r.tick a) V'/\Chg lo b Yg H H'
theorem Jw {nm:α->Nm} {g:α->α} {l:List α} {y:α} (u:Zw nm l) (h:At nm l s i y):l.set i (g y)=l.map fun z=>if nm z=s then g z else z:=by
 rw [Qz (g:=g) u h.at',h.nm']
theorem Z9R (S:Pos.Safe r) (hy:r.poss? p=some y) (hok:Pos.okA r tk (.staff p v)=0):0<=y.pers/\y.pers<=100/\1<=v/\v<=100:=by
 have hp:=S.pers y (Pos.Jv hy).1;unfold Pos.okA at hok;split at hok
 . cases hok
 simp only [Yy,hy] at hok;split at hok
 . cases hok
 split at hok
 . cases hok
 omega
theorem Z9S (S:Pos.Safe r) (hy:r.poss? p=some y) (hok:Pos.okA r tk (.off p v)=0):0<=y.pers/\y.pers<=100/\1<=v/\v<=100:=by
 have hp:=S.pers y (Pos.Jv hy).1;unfold Pos.okA at hok;split at hok
 . cases hok
 simp only [Yy,hy] at hok;split at hok
 . cases hok
 split at hok
 . cases hok
 omega
theorem en174:Xo 174:=Xu
theorem en176:Xo 176:=Xu
theorem en183:Xo 183:=Xu
theorem en185:Xo 185:=Xu
theorem en187:Xo 187:=Xu
theorem en189:Xo 189:=Xu
theorem en191:Xo 191:=Xu
theorem en193:Xo 193:=Xu
theorem Z9T (I:Pos.Inv r) (S:Pos.Safe r) (hok:Pos.okA r tk (.track t v)=0) (n:Nat):Xv r (.track t v) num (Pos.Ze num tk (.track t v)).kind (Pos.Ze num tk (.track t v)).names (Pos.Ze num tk (.track t v)).vals [] n:=by
 refine ⟨_,_,_,[],155,[],rfl,⟨rfl,rfl⟩,fun m hm=>⟨rfl,rfl⟩,fun lo H b pre post e V hF hn h => ?_⟩;obtain ⟨w,H',hR,V',g1,g2⟩:=Z9G h (num:=num) (tk:=tk) (text:=[]) (kind:=(Pos.Ze num tk (.track t v)).kind) (t:=t) (v:=v) (by have:=S.nT;unfold Z2;omega);exact ⟨w,H',V',fun K=>Xs (en155 rfl) hR,g1,g2⟩
theorem Z9U (I:Pos.Inv r) (S:Pos.Safe r) {x y:Int} (hok:Pos.okA r tk (.fault f t x y v)=0) (n:Nat):Xv r (.fault f t x y v) num (Pos.Ze num tk (.fault f t x y v)).kind (Pos.Ze num tk (.fault f t x y v)).names (Pos.Ze num tk (.fault f t x y v)).vals [] n:=by
 refine ⟨_,_,_,[],158,[],rfl,⟨rfl,rfl⟩,fun m hm=>⟨rfl,rfl⟩,fun lo H b pre post e V hF hn h => ?_⟩;obtain ⟨w,H',hR,V',g1,g2⟩:=Z9I h (num:=num) (tk:=tk) (text:=[]) (kind:=(Pos.Ze num tk (.fault f t x y v)).kind) (f:=f) (t:=t) (x:=x) (y:=y) (v:=v) (by have:=S.nF;unfold Z2;omega);exact ⟨w,H',V',fun K=>Xs (en158 rfl) hR,g1,g2⟩
theorem Z9V (I:Pos.Inv r) (S:Pos.Safe r) (hok:Pos.okA r tk (.answer f)=0) (n:Nat):Xv r (.answer f) num (Pos.Ze num tk (.answer f)).kind (Pos.Ze num tk (.answer f)).names (Pos.Ze num tk (.answer f)).vals [] n:=by
 refine ⟨_,_,_,[],160,[],rfl,⟨rfl,rfl⟩,fun m hm=>⟨rfl,rfl⟩,fun lo H b pre post e V hF hn h => ?_⟩;obtain ⟨y,hy⟩:=Hf (.inl hok);obtain ⟨i,hi⟩:=At.of (nm:=Flt.name) hy;obtain ⟨w,H',hR,g1,g2⟩:=Z9M h (num:=num) (tk:=tk) (text:=[]) (kind:=(Pos.Ze num tk (.answer f)).kind) (p:=[]) hi;have hu:=Jw (g:=fun y:Flt=>{ y with ans:=true }) I.uF hi
 rw [hu] at g1;exact ⟨w,H',V,fun K=>Xs (en160 rfl) hR,g1,g2⟩
theorem Z9W (I:Pos.Inv r) (S:Pos.Safe r) (hok:Pos.okA r tk (.repair f p)=0) (n:Nat):Xv r (.repair f p) num (Pos.Ze num tk (.repair f p)).kind (Pos.Ze num tk (.repair f p)).names (Pos.Ze num tk (.repair f p)).vals [] n:=by
 refine ⟨_,_,_,[],162,[],rfl,⟨rfl,rfl⟩,fun m hm=>⟨rfl,rfl⟩,fun lo H b pre post e V hF hn h => ?_⟩;obtain ⟨y,hy⟩:=Hf (.inr ⟨_,hok⟩);obtain ⟨i,hi⟩:=At.of (nm:=Flt.name) hy;obtain ⟨w,H',hR,g1,g2⟩:=Z9N h (num:=num) (tk:=tk) (text:=[]) (kind:=(Pos.Ze num tk (.repair f p)).kind) (p:=p) hi;have hu:=Jw (g:=fun y:Flt=>{ y with rep:=true }) I.uF hi
 rw [hu] at g1;exact ⟨w,H',V,fun K=>Xs (en162 rfl) hR,g1,g2⟩
theorem Z9X (I:Pos.Inv r) (S:Pos.Safe r) (hok:Pos.okA r tk (.enter x t v)=0) (n:Nat):Xv r (.enter x t v) num (Pos.Ze num tk (.enter x t v)).kind (Pos.Ze num tk (.enter x t v)).names (Pos.Ze num tk (.enter x t v)).vals [] n:=by
 refine ⟨_,_,_,[],164,[],rfl,⟨rfl,rfl⟩,fun m hm=>⟨rfl,rfl⟩,fun lo H b pre post e V hF hn h => ?_⟩;obtain ⟨w,H',hR,V',g1,g2⟩:=Z9H h (num:=num) (tk:=tk) (text:=[]) (kind:=(Pos.Ze num tk (.enter x t v)).kind) (x:=x) (t:=t) (v:=v) (by have:=S.nN;unfold Z2;omega);exact ⟨w,H',V',fun K=>Xs (en164 rfl) hR,g1,g2⟩
theorem Z9Y (I:Pos.Inv r) (S:Pos.Safe r) (hok:Pos.okA r tk (.leave x)=0) (n:Nat):Xv r (.leave x) num (Pos.Ze num tk (.leave x)).kind (Pos.Ze num tk (.leave x)).names (Pos.Ze num tk (.leave x)).vals [] n:=by
 refine ⟨_,_,_,[],166,[],rfl,⟨rfl,rfl⟩,fun m hm=>⟨rfl,rfl⟩,fun lo H b pre post e V hF hn h => ?_⟩;obtain ⟨w,H',hR,V',g1,g2⟩:=Z9P h (num:=num) (tk:=tk) (text:=[]) (kind:=(Pos.Ze num tk (.leave x)).kind) (x:=x);exact ⟨w,H',V',fun K=>Xs (en166 rfl) hR,g1,g2⟩
theorem Z9Z (I:Pos.Inv r) (S:Pos.Safe r) {x y:Int} (hok:Pos.okA r tk (.take p t x y)=0) (n:Nat):Xv r (.take p t x y) num (Pos.Ze num tk (.take p t x y)).kind (Pos.Ze num tk (.take p t x y)).names (Pos.Ze num tk (.take p t x y)).vals [] n:=by
 refine ⟨_,_,_,[],170,[],rfl,⟨rfl,rfl⟩,fun m hm=>⟨rfl,rfl⟩,fun lo H b pre post e V hF hn h => ?_⟩;obtain ⟨w,H',hR,V',g1,g2⟩:=Z9J h (num:=num) (tk:=tk) (text:=[]) (kind:=(Pos.Ze num tk (.take p t x y)).kind) (p:=p) (t:=t) (x:=x) (y:=y) (by have:=S.nP;unfold Z2;omega);exact ⟨w,H',V',fun K=>Xs (en170 rfl) hR,g1,g2⟩
theorem Za0 (I:Pos.Inv r) (S:Pos.Safe r) (hok:Pos.okA r tk (.prot p)=0) (n:Nat):Xv r (.prot p) num (Pos.Ze num tk (.prot p)).kind (Pos.Ze num tk (.prot p)).names (Pos.Ze num tk (.prot p)).vals [] n:=by
 refine ⟨_,_,_,[.ptr (n+1) 0],274,[.ptr (n+2) 0],rfl,⟨rfl,rfl⟩,fun m hm=>⟨Yf (by omega),Yf (by omega)⟩,fun lo H b pre post e V hF hn h => ?_⟩;obtain ⟨y,hy⟩:=Jo hok (p:=p) rfl;obtain ⟨i,hi⟩:=At.of (nm:=Pos.name) hy;obtain ⟨w,H',hR,g1,g2⟩:=Ke h (num:=num) (text:=[]) (kind:=(Pos.Ze num tk (.prot p)).kind) (vals:=(Pos.Ze num tk (.prot p)).vals) hi (bx:=n+2) (by omega) (hF.box 2 (by omega) (by omega)) (f:=fun y=>{ y with prot:=true }) (en174 rfl) (fun id H cs h1 h2 h3=>g_12 h1 h2 h3 hi.at')
 have hu:=Jw (g:=fun y:Pos=>{ y with prot:=true }) I.uP hi
 rw [hu] at g1;exact ⟨w,H',V,fun K=>Xs (Kd rfl) hR,g1,g2⟩
theorem Za1 (I:Pos.Inv r) (S:Pos.Safe r) (hok:Pos.okA r tk (.clear p)=0) (n:Nat):Xv r (.clear p) num (Pos.Ze num tk (.clear p)).kind (Pos.Ze num tk (.clear p)).names (Pos.Ze num tk (.clear p)).vals [] n:=by
 refine ⟨_,_,_,[.ptr (n+3) 0],274,[.ptr (n+4) 0],rfl,⟨rfl,rfl⟩,fun m hm=>⟨Yf (by omega),Yf (by omega)⟩,fun lo H b pre post e V hF hn h => ?_⟩;obtain ⟨y,hy⟩:=Jo hok (p:=p) rfl;obtain ⟨i,hi⟩:=At.of (nm:=Pos.name) hy;obtain ⟨w,H',hR,g1,g2⟩:=Ke h (num:=num) (text:=[]) (kind:=(Pos.Ze num tk (.clear p)).kind) (vals:=(Pos.Ze num tk (.clear p)).vals) hi (bx:=n+4) (by omega) (hF.box 4 (by omega) (by omega)) (f:=fun y=>{ y with prot:=false }) (en176 rfl) (fun id H cs h1 h2 h3=>g_14 h1 h2 h3 hi.at')
 have hu:=Jw (g:=fun y:Pos=>{ y with prot:=false }) I.uP hi
 rw [hu] at g1;exact ⟨w,H',V,fun K=>Xs (Kd rfl) hR,g1,g2⟩
theorem ap_In (I:Pos.Inv r) (S:Pos.Safe r) (hok:Pos.okA r tk (.into m p)=0) (n:Nat):Xv r (.into m p) num (Pos.Ze num tk (.into m p)).kind (Pos.Ze num tk (.into m p)).names (Pos.Ze num tk (.into m p)).vals [] n:=by
 refine ⟨_,_,_,[.ptr (n+5) 0],178,[],rfl,⟨rfl,rfl⟩,fun m hm=>⟨Yf (by omega),rfl⟩,fun lo H b pre post e V hF hn h => ?_⟩;obtain ⟨w,H',hR,V',g1,g2⟩:=w_In h (num:=num) (tk:=tk) (text:=[]) (kind:=(Pos.Ze num tk (.into m p)).kind) (m:=m) (p:=p) (by have:=S.nM;unfold Z2;omega);exact ⟨w,H',V',fun K=>Xs (en178 rfl) hR,g1,g2⟩
theorem Za2 (I:Pos.Inv r) (S:Pos.Safe r) (hok:Pos.okA r tk (.out x)=0) (n:Nat):Xv r (.out x) num (Pos.Ze num tk (.out x)).kind (Pos.Ze num tk (.out x)).names (Pos.Ze num tk (.out x)).vals [] n:=by
 refine ⟨_,_,_,[],179,[],rfl,⟨rfl,rfl⟩,fun m hm=>⟨rfl,rfl⟩,fun lo H b pre post e V hF hn h => ?_⟩;obtain ⟨w,H',hR,V',g1,g2⟩:=w_Out h (num:=num) (tk:=tk) (text:=[]) (kind:=(Pos.Ze num tk (.out x)).kind) (x:=x);exact ⟨w,H',V',fun K=>Xs (en179 rfl) hR,g1,g2⟩
theorem Za3 (I:Pos.Inv r) (S:Pos.Safe r) (hok:Pos.okA r tk (.staff p v)=0) (n:Nat):Xv r (.staff p v) num (Pos.Ze num tk (.staff p v)).kind (Pos.Ze num tk (.staff p v)).names (Pos.Ze num tk (.staff p v)).vals [] n:=by
 refine ⟨_,_,_,[.ptr (n+6) 0],274,[.ptr (n+7) 0],rfl,⟨rfl,rfl⟩,fun m hm=>⟨Yf (by omega),Yf (by omega)⟩,fun lo H b pre post e V hF hn h => ?_⟩;obtain ⟨y,hy⟩:=Jo hok (p:=p) rfl;obtain ⟨i,hi⟩:=At.of (nm:=Pos.name) hy;have hpv:=Z9R S hy hok;have hw:ZC .i64 (Int.add y.pers v)=y.pers+v:=by
  show ZC .i64 (y.pers+v)=_;exact JX (by omega) (by omega)
 obtain ⟨w,H',hR,g1,g2⟩:=Ke h (num:=num) (text:=[]) (kind:=(Pos.Ze num tk (.staff p v)).kind) (vals:=(Pos.Ze num tk (.staff p v)).vals) hi (bx:=n+7) (by omega) (hF.box 7 (by omega) (by omega)) (f:=fun y=>{ y with pers:=y.pers+v }) (en183 rfl) (fun id H cs h1 h2 h3=>g_19 h1 h2 h3 hi.at' hw)
 have hu:=Jw (g:=fun y:Pos=>{ y with pers:=y.pers+v }) I.uP hi
 rw [hu] at g1;exact ⟨w,H',V,fun K=>Xs (Kd rfl) hR,g1,g2⟩
theorem Za4 (I:Pos.Inv r) (S:Pos.Safe r) (hok:Pos.okA r tk (.off p v)=0) (n:Nat):Xv r (.off p v) num (Pos.Ze num tk (.off p v)).kind (Pos.Ze num tk (.off p v)).names (Pos.Ze num tk (.off p v)).vals [] n:=by
 refine ⟨_,_,_,[.ptr (n+8) 0],274,[.ptr (n+9) 0],rfl,⟨rfl,rfl⟩,fun m hm=>⟨Yf (by omega),Yf (by omega)⟩,fun lo H b pre post e V hF hn h => ?_⟩;obtain ⟨y,hy⟩:=Jo hok (p:=p) rfl;obtain ⟨i,hi⟩:=At.of (nm:=Pos.name) hy;have hpv:=Z9S S hy hok;have hw:ZC .i64 (Int.sub y.pers v)=y.pers - v:=by
  show ZC .i64 (y.pers - v)=_;exact JX (by omega) (by omega)
 obtain ⟨w,H',hR,g1,g2⟩:=Ke h (num:=num) (text:=[]) (kind:=(Pos.Ze num tk (.off p v)).kind) (vals:=(Pos.Ze num tk (.off p v)).vals) hi (bx:=n+9) (by omega) (hF.box 9 (by omega) (by omega)) (f:=fun y=>{ y with pers:=y.pers - v }) (en185 rfl) (fun id H cs h1 h2 h3=>g_21 h1 h2 h3 hi.at' hw)
 have hu:=Jw (g:=fun y:Pos=>{ y with pers:=y.pers - v }) I.uP hi
 rw [hu] at g1;exact ⟨w,H',V,fun K=>Xs (Kd rfl) hR,g1,g2⟩
theorem Za5 (I:Pos.Inv r) (S:Pos.Safe r) (hok:Pos.okA r tk (.opn p)=0) (n:Nat):Xv r (.opn p) num (Pos.Ze num tk (.opn p)).kind (Pos.Ze num tk (.opn p)).names (Pos.Ze num tk (.opn p)).vals [] n:=by
 refine ⟨_,_,_,[.ptr (n+10) 0],274,[.ptr (n+11) 0],rfl,⟨rfl,rfl⟩,fun m hm=>⟨Yf (by omega),Yf (by omega)⟩,fun lo H b pre post e V hF hn h => ?_⟩;obtain ⟨y,hy⟩:=Jo hok (p:=p) rfl;obtain ⟨i,hi⟩:=At.of (nm:=Pos.name) hy;obtain ⟨w,H',hR,g1,g2⟩:=Ke h (num:=num) (text:=[]) (kind:=(Pos.Ze num tk (.opn p)).kind) (vals:=(Pos.Ze num tk (.opn p)).vals) hi (bx:=n+11) (by omega) (hF.box 11 (by omega) (by omega)) (f:=fun y=>{ y with opn:=true }) (en187 rfl) (fun id H cs h1 h2 h3=>g_23 h1 h2 h3 hi.at')
 have hu:=Jw (g:=fun y:Pos=>{ y with opn:=true }) I.uP hi
 rw [hu] at g1;exact ⟨w,H',V,fun K=>Xs (Kd rfl) hR,g1,g2⟩
theorem Za6 (I:Pos.Inv r) (S:Pos.Safe r) (hok:Pos.okA r tk (.close p v)=0) (n:Nat):Xv r (.close p v) num (Pos.Ze num tk (.close p v)).kind (Pos.Ze num tk (.close p v)).names (Pos.Ze num tk (.close p v)).vals [] n:=by
 refine ⟨_,_,_,[.ptr (n+12) 0],274,[.ptr (n+13) 0],rfl,⟨rfl,rfl⟩,fun m hm=>⟨Yf (by omega),Yf (by omega)⟩,fun lo H b pre post e V hF hn h => ?_⟩;obtain ⟨y,hy⟩:=Jo hok (p:=p) rfl;obtain ⟨i,hi⟩:=At.of (nm:=Pos.name) hy;have hcl:=S.closed y (Pos.Jv hy).1;have hw:ZC .i64 (Int.add y.closed 1)=y.closed+1:=by
  show ZC .i64 (y.closed+1)=_;exact JX (by omega) (by omega)
 obtain ⟨w,H',hR,g1,g2⟩:=Ke h (num:=num) (text:=[]) (kind:=(Pos.Ze num tk (.close p v)).kind) (vals:=(Pos.Ze num tk (.close p v)).vals) hi (bx:=n+13) (by omega) (hF.box 13 (by omega) (by omega)) (f:=fun y=>{ y with opn:=false,closed:=y.closed+1,speed:=v }) (en189 rfl) (fun id H cs h1 h2 h3=>g_25 h1 h2 h3 hi.at' hw)
 have hu:=Jw (g:=fun y:Pos=>{ y with opn:=false,closed:=y.closed+1,speed:=v }) I.uP hi
 rw [hu] at g1;exact ⟨w,H',V,fun K=>Xs (Kd rfl) hR,g1,g2⟩
theorem Za7 (I:Pos.Inv r) (S:Pos.Safe r) (hok:Pos.okA r tk (.ret p)=0) (n:Nat):Xv r (.ret p) num (Pos.Ze num tk (.ret p)).kind (Pos.Ze num tk (.ret p)).names (Pos.Ze num tk (.ret p)).vals [] n:=by
 refine ⟨_,_,_,[.ptr (n+14) 0],274,[.ptr (n+15) 0],rfl,⟨rfl,rfl⟩,fun m hm=>⟨Yf (by omega),Yf (by omega)⟩,fun lo H b pre post e V hF hn h => ?_⟩;obtain ⟨y,hy⟩:=Jo hok (p:=p) rfl;obtain ⟨i,hi⟩:=At.of (nm:=Pos.name) hy;obtain ⟨w,H',hR,g1,g2⟩:=Ke h (num:=num) (text:=[]) (kind:=(Pos.Ze num tk (.ret p)).kind) (vals:=(Pos.Ze num tk (.ret p)).vals) hi (bx:=n+15) (by omega) (hF.box 15 (by omega) (by omega)) (f:=fun y=>{ y with ret:=true }) (en191 rfl) (fun id H cs h1 h2 h3=>g_27 h1 h2 h3 hi.at')
 have hu:=Jw (g:=fun y:Pos=>{ y with ret:=true }) I.uP hi
 rw [hu] at g1;exact ⟨w,H',V,fun K=>Xs (Kd rfl) hR,g1,g2⟩
theorem Za8 (I:Pos.Inv r) (S:Pos.Safe r) (hok:Pos.okA r tk (.raise p v)=0) (n:Nat):Xv r (.raise p v) num (Pos.Ze num tk (.raise p v)).kind (Pos.Ze num tk (.raise p v)).names (Pos.Ze num tk (.raise p v)).vals [] n:=by
 refine ⟨_,_,_,[],274,[.ptr (n+16) 0],rfl,⟨rfl,rfl⟩,fun m hm=>⟨rfl,Yf (by omega)⟩,fun lo H b pre post e V hF hn h => ?_⟩;obtain ⟨y,hy⟩:=Jo hok (p:=p) rfl;obtain ⟨i,hi⟩:=At.of (nm:=Pos.name) hy;obtain ⟨w,H',hR,g1,g2⟩:=Ke h (num:=num) (text:=[]) (kind:=(Pos.Ze num tk (.raise p v)).kind) (vals:=(Pos.Ze num tk (.raise p v)).vals) hi (bx:=n+16) (by omega) (hF.box 16 (by omega) (by omega)) (f:=fun y=>{ y with speed:=v }) (en193 rfl) (fun id H cs h1 h2 h3=>g_29 h1 h2 h3 hi.at')
 have hu:=Jw (g:=fun y:Pos=>{ y with speed:=v }) I.uP hi
 rw [hu] at g1;exact ⟨w,H',V,fun K=>Xs (Kd rfl) hR,g1,g2⟩
theorem Iw (I:Pos.Inv r) (S:Pos.Safe r) {a:Pos.Act} (hok:Pos.okA r tk a=0) (n:Nat):Xv r a num (Pos.Ze num tk a).kind (Pos.Ze num tk a).names (Pos.Ze num tk a).vals [] n:=by
 cases a
 case track=>exact Z9T I S hok n
 case fault=>exact Z9U I S hok n
 case answer=>exact Z9V I S hok n
 case repair=>exact Z9W I S hok n
 case enter=>exact Z9X I S hok n
 case leave=>exact Z9Y I S hok n
 case take=>exact Z9Z I S hok n
 case prot=>exact Za0 I S hok n
 case clear=>exact Za1 I S hok n
 case into=>exact ap_In I S hok n
 case out=>exact Za2 I S hok n
 case staff=>exact Za3 I S hok n
 case off=>exact Za4 I S hok n
 case opn=>exact Za5 I S hok n
 case close=>exact Za6 I S hok n
 case ret=>exact Za7 I S hok n
 case raise=>exact Za8 I S hok n
end Go.Sim

namespace Go.Sim.Pos
open Go.Sim
theorem CG (r:Reg) (tk:Int) (a:Act):{ doA r r.tick a with tick:=tk }=doA r tk a:=by cases a<;>rfl
theorem Ix (num tk:Int) (a:Act):∃ kind names vs,Ze num tk a=⟨num,kind,names,tk::vs,[]⟩:=by cases a<;>exact ⟨_,_,_,rfl⟩
theorem Za9 (nm:Nm->Bool) {cs:List Ev} (hrun:YD ZS (Xr cs)=some r) (hc:∀ e ∈ cs,Y1 nm e=0/\e.kind ≠ ZJ) {e:Ev} (he:cs[k]? = some e) (hk:YD ZS (Xr (cs.take k))=some r') :
 ∃ tk a,e=Ze e.num tk a/\okA r' tk a=0/\YD ZS (Xr (cs.take (k+1)))=some (doA r' tk a)/\Inv r'/\Safe r':=by
 have hlt:k < cs.length:=(List.getElem?_eq_some_iff.1 he).1;have hm:e ∈ cs:=mem_of_getElem? he;obtain ⟨h1,h2⟩:=hc e hm;obtain ⟨tk,a,ha,hev,_,_⟩:=Un nm h1 h2;have hsplit:cs=cs.take k++e::cs.drop (k+1):=by
  have:=take_append_drop k cs;rw [drop_eq_getElem_cons hlt,(List.getElem?_eq_some_iff.1 he).2] at this;exact this.symm
 have hr:=hrun;rw [hsplit] at hr;unfold Xr at hr hk;rw [filterMap_append,Uc,hk] at hr;simp only [bind_some,filterMap_cons,ha] at hr;obtain ⟨h3,h4⟩:=Ge hr;obtain ⟨I,S⟩:=C7 Hh Hi hk;refine ⟨tk,a,hev,h3, ?_,I,S⟩;have ht:cs.take (k+1)=cs.take k++[e]:=by
  rw [take_add_one,he];rfl
 rw [ht];unfold Xr;rw [filterMap_append,Uc,hk];simp only [bind_some,filterMap_cons,ha,filterMap_nil];rw [run_ok h3];rfl
end Go.Sim.Pos
namespace Go.Sim
def V0:RegV:=⟨.ps .nil [],.ps .nil [],.ps .nil [],.ps .nil [],.ps .nil []⟩
theorem Iy:∀ x,Yg x->QB x:=fun _ ⟨cs,sz,te,h,_⟩=>⟨cs,sz,te,h⟩
theorem Iz (hb:b < H.n) (hlo:lo<=b) (hblk:H.get b=.cells (pre++(Zq ZS V0++post)) e):RegW lo H b pre post e ZS V0 :=
 ⟨hb,hlo,hblk,⟨.nil,rfl,.inl ⟨rfl,rfl⟩⟩,⟨.inl ⟨rfl,rfl⟩,fun i a b c d h=>by cases h⟩,⟨.nil,rfl,.inl ⟨rfl,rfl⟩⟩,⟨.inl ⟨rfl,rfl⟩,fun i a b c d h=>by cases h⟩,⟨.nil,rfl,.inl ⟨rfl,rfl⟩⟩,zero_le _,zero_le _,zero_le _,zero_le _,zero_le _⟩
theorem RegW.cells (h:RegW lo H b pre post e r V) (hj:H.get j=.cells cs te) (hl:lo<=j) (hne:j ≠ b) (cs':List AV) (te':TypeId):RegW lo (H.set j (.cells cs' te')) b pre post e r V:=by
 have c:Chg lo b (fun x=>∃ c e,x=.cells c e) H (H.set j (.cells cs' te')):=(Chg.refl H).set hl (.inr (.inl ⟨_,_,hj⟩)) _;have hb:∃ cs e,H.get b=.cells cs e:=⟨_,_,h.blk⟩;have hx:∀ (a:List AV) (n:Nat) (t:TypeId) (cs:List AV),¬ (fun x=>∃ c e,x=ABlk.cells c e) (ABlk.row cs n t):=fun _ _ _ _ ⟨_,_,h⟩=>by cases h
 exact ⟨by simpa using h.bn,h.lob,by rw [Heap.get_set,if_neg (Ne.symm hne)];exact h.blk,h.aT.chg c (hx [] _ _) hb,h.aF.chg c (hx [] _ _) hb,h.aR.chg c (hx [] _ _) hb,h.aP.chg c (hx [] _ _) hb,h.aM.chg c (hx [] _ _) hb,h.lT,h.lF,h.lR,h.lP,h.lM⟩
theorem RegW.tick (h:RegW lo H b pre post e r V) (tk:Int):sst lo H 3 (.ptr b pre.length) (.int .i64 tk)=some (H.set b (.cells (pre++(Zq { r with tick:=tk } V++post)) e))/\RegW lo (H.set b (.cells (pre++(Zq { r with tick:=tk } V++post)) e)) b pre post e { r with tick:=tk } V:=by
 refine ⟨J7 (k:=0) h.blk h.lob (by show 0 < 6;decide) (by kernel_rfl) rfl rfl, ?_⟩;have c:Chg lo b (fun _=>False) H (H.set b (.cells (pre++(Zq { r with tick:=tk } V++post)) e)):=QC H h.lob _
 have hb:∃ cs e,H.get b=.cells cs e:=⟨_,_,h.blk⟩;exact ⟨by simpa using h.bn,h.lob,by rw [Heap.get_set,if_pos rfl],h.aT.chg c (fun _=>id) hb,h.aF.chg c (fun _=>id) hb,h.aR.chg c (fun _=>id) hb,h.aP.chg c (fun _=>id) hb,h.aM.chg c (fun _=>id) hb,h.lT,h.lF,h.lR,h.lP,h.lM⟩
def sfl (t:TypeId) (v:AV) (f:Nat):Option AV:=JE NC.P t v f
theorem Zaa {rec:Rec} {fid:Nat} {K:AV->Heap->Prop} {d:Option Tmp} {t:TypeId} {p:String} {af:Array Edge} {gd:Option (Nat × Bool)} (t':TypeId) (x:Operand) (f:Nat):VO (aop PT rec fid lo ⟨d,.field t' x f,t,p,af,gd⟩ T H) K=AO (Z4 PT T x) fun v=>AO (sfl t' v f) fun v=>K v H:=Bk t' x f
attribute [go_sem ↓ 2000] Zaa
theorem Zab (t:TypeId) (cs:List AV) (f:Nat):sfl t (.agg cs) f=JE NC.P t (.agg cs) f:=rfl
attribute [go_sem 100] Zab
theorem Zac (a b c d:AV):sfl 175 (.agg [a,b,c,d]) 3=some d:=by kernel_rfl
attribute [go_sem] Zac
theorem en126:Q6 126:=Qm
theorem Zad (nm:Nm->Bool) {v:AV} {cs:List Ev} (hs:Sl H v 5 53 (cs.map Pos.Ev.row)) (hl:cs.length<=1000) (hrun:YD ZS (Xr cs)=some r) (hc:∀ e ∈ cs,Y1 nm e=0/\e.kind ≠ ZJ) :
 ∃ w H',R PT (.call H.n 126 [v] H)=some (.ofVal w H') /\ ∃ V,w=.agg (Zq r V)/\Old H.n H H'/\RegW H.n H' (H.n+1) [] [] 49 r V:=by
 refine Zd (C:=PT) (f:=126) (lo:=H.n) (args:=[v]) (H:=H) (fn:=Tryz.f126) (Q:=fun w H'=>∃ V,w=.agg (Zq r V)/\Old H.n H H'/\RegW H.n H' (H.n+1) [] [] 49 r V) (by kernel_rfl) Tryz.func126 rfl rfl ?_;have hlen:=fun H'=>hs.len (t:=22) (by kernel_rfl) H'
 simp only [length_map] at hlen;simp (maxDischargeDepth:=12) only [go_sem,reduceEqDiff,reduceCtorEq,hlen];refine ZP (fun k T Hc M=>M=[]/\Z1 T 2=.ptr H.n 0/\Z1 T 3=.ptr (H.n+1) 0/\Z1 T 6=v/\Z1 T 7=i64 (cs.length:Nat)/\Z1 T 8=i64 k/\Old H.n H Hc/\Hc.get H.n=.cells (Zq ZS V0) 49 /\ ∃ r' V,YD ZS (Xr (cs.take k))=some r'/\RegW H.n Hc (H.n+1) [] [] 49 r' V) cs.length ?_ ?_ ?_
 . simp (maxDischargeDepth:=12) only [go_sem,reduceEqDiff,reduceCtorEq];exact ⟨rfl,_,V0,rfl,Iz (by simp) (by omega) (by rw [Heap.get_push,if_pos (by simp)];rfl)⟩
 . rintro k T Hc M hk ⟨rfl,g2,g3,g6,g7,g8,hO,hz,r',V,hr',hW⟩;obtain ⟨e,he⟩:∃ e,cs[k]? = some e:=⟨cs[k],by simp⟩;obtain ⟨tk,a,hev,hok,hrn,I,S⟩:=Pos.Za9 nm hrun hc he hr';obtain ⟨kind,names,vs,hp⟩:=Pos.Ix e.num tk a;have hA:=fun n=>Iw I S (num:=e.num) hok n
   rw [hp] at hev;simp only [hp] at hA;generalize e.num=num at hev hA;subst hev;have hw:=ZQ hk (by unfold Z2;omega:cs.length<=Z2);have hi:=hs.idx (t:=22) (by kernel_rfl) (by kernel_rfl) (ZD (by intro x;rfl) cs) (by rw [length_map];exact hk) .i64;have hd:=hs.ld (by kernel_rfl) (by kernel_rfl) (ZD (by intro x;rfl) cs) (Zy he) hO;have hHn:H.n+1 < Hc.n:=hW.bn;obtain ⟨H1,hH1⟩:∃ H1,H1=(Hc.push (.cells [.int .i64 0,.str [],.ps .nil [],.ps .nil [],.str []] 53)).set Hc.n (.cells (evC num kind names (tk::vs) []) 53):=⟨_,rfl⟩;have hn1:H1.n=Hc.n+1:=by rw [hH1];simp
   have hO1:Old Hc.n Hc H1:=by rw [hH1];exact (Old.refl Hc).new _ _
   have hg1:H1.get Hc.n=.cells (evC num kind names (tk::vs) []) 53:=by rw [hH1,Heap.get_set,if_pos rfl]
   obtain ⟨H2,hr2,hn2,hk2,hF⟩:=Uj (P:=PPT) (by rfl) (by rfl) H1.n H1 (Nat.le_refl _);have hg2:H2.get Hc.n=.cells (evC num kind names (tk::vs) []) 53:=by rw [hk2 _ (by omega),hg1]
   have hW2:=(hW.old hO1).old ⟨by omega,hk2⟩;obtain ⟨nm',fv,f1,l1,f2,l2,hlk,⟨hst1,hst2⟩,hu,happ⟩:=hA H1.n;obtain ⟨w,H3,V3,hcall,hW3,hch⟩:=happ H.n H2 (H.n+1) [] [] 49 V hF (by omega) hW2;have hlk2:=(Gk hF.map (Gl _) kind).2;rw [hlk] at hlk2;have hu1:=(hu _ (le_of_eq hn2.symm)).1;have hu2:=(hu _ (le_of_eq hn2.symm)).2;have hch':=hch.mono Iy;have hg3:H3.get Hc.n=.cells (evC num kind names (tk::vs) []) 53:=hch'.cells (by omega) (by omega) hg2;obtain ⟨ht1,ht2⟩:=hW3.tick tk;rw [Pos.CG] at ht1 ht2;have hz3:H3.get H.n=.cells (Zq ZS V0) 49:=hch'.cells (by omega) (by omega) (by rw [hk2 _ (by omega),hO1.2 _ (by omega),hz]);have hei:(Z3 (tk::vs))[0]? = some [.int .i64 tk]:=rfl;have hel:(0 < (Z3 (tk::vs)).length)=True:=eq_true (by rw [Yo];exact succ_pos _);have hO3:Old H.n H H3:=(hO.trans (Old.trans ⟨by omega,fun i hi=>hO1.2 i (by omega)⟩ ⟨by omega,fun i hi=>hk2 i (by omega)⟩)).trans (hch.old (by omega));simp only [Pos.Ev.row] at hd;have hkc:=eq_true hk;have hle:=eq_true hO.1;have hn1':(Hc.n < H1.n)=True:=eq_true (by omega);have hn2':(H1.n < H2.n)=True:=eq_true (by omega);have hn3':(Hc.n < H2.n)=True:=eq_true (by omega);simp only [length_nil] at ht1;simp only [length_nil] at hcall;simp (maxDischargeDepth:=12) only [go_sem,reduceEqDiff,reduceAdd,reduceSub,g2,g3,g6,g7,g8,hkc,hle,hn2',hw,hi,hd,<- hH1,Js (P:=PPT) rfl,hr2,hg1,hlk2,hst2,hcall,hg3,hei,hel,ht1];refine ⟨hO3.set (by omega) _,hz3,_,V3,hrn, ?_⟩;simpa only [nil_append,append_nil] using ht2
 . rintro T Hc M ⟨rfl,g2,g3,g6,g7,g8,hO,hz,r',V,hr',hW⟩;rw [take_length,hrun] at hr';cases hr';have hblk:=hW.blk;simp only [nil_append,append_nil] at hblk;have hHn:H.n+1 < Hc.n:=hW.bn;have oT:=hW.aT.one1;have oF:=hW.aF.one1;have oR:=hW.aR.one1;have oP:=hW.aP.one1;have oM:=hW.aM.one1;have hne:(H.n+1=H.n)=False:=eq_false (by omega);obtain ⟨L,hL⟩:∃ L,L=sld Hc 49 (.ptr (H.n+1) 0):=⟨_,rfl⟩;have hld:sld Hc 49 (.ptr (H.n+1) 0)=some (.agg (Zq r V)):=by
    simp (maxDischargeDepth:=12) only [go_sem,reduceAdd,hblk,Zq]
   have hst:sst H.n Hc 49 (.ptr H.n 0) (.agg (Zq r V))=some (Hc.set H.n (.cells (Zq r V) 49)):=by
    unfold AV.one at oT oF oR oP oM;simp (maxDischargeDepth:=12) only [go_sem,reduceAdd,hz,Zq,V0,oT,oF,oR,oP,oM]
   have hld2:Yl NC.P (Hc.set H.n (.cells (Zq r V) 49)) 49 (.ptr H.n 0)=some (.agg (Zq r V)):=by
    simp (maxDischargeDepth:=12) only [go_sem,reduceAdd,Zq]
   have hlt:(cs.length < cs.length)=False:=eq_false (Nat.lt_irrefl _);have hlt':((cs.length:Int) < (cs.length:Int))=False:=eq_false (Int.lt_irrefl _);have h6:(6<=(Zq r V).length)=True:=eq_true (Nat.le_refl 6);have ht6:List.take 6 (Zq r V)=Zq r V:=rfl;simp (maxDischargeDepth:=12) only [go_sem,reduceEqDiff,reduceCtorEq,g2,g3,g7,g8,hlt',hld,hst,h6,ht6];exact ⟨V,rfl,hO.set (Nat.le_refl _) _,hW.cells hz (Nat.le_refl _) (by omega) _ _⟩
end Go.Sim

namespace Go.Sim
variable {te:TypeId}
theorem IA {lo:Nat} {te:TypeId} {H:Heap} {v:AV} (r:List AV) (h:SW lo H v sz te rows) (hlo:lo<=H.n) (hL:Len sz rows) (hr:r.length=sz) (ho:r.all AV.one=true) (hs:0 < sz) (hm:rows.length+1<=Z2) :
 ∃ v' H',Yv lo H sz te v [r]=some (v',H')/\SW lo H' v' sz te (rows++[r])/\Chg lo H.n (Xt sz te) H H'/\(∀ i,i < H.n->(∀ a b c d,v ≠ .rs i a b c d)->H'.get i=H.get i)/\(∀ i a b c d,v'=.rs i a b c d->i=H.n \/ ∃ a b c d,v=.rs i a b c d):=by
 have hf:=Zl hL;obtain ⟨h,hid⟩:=h;rcases h with ⟨rfl,rfl⟩ | ⟨id,cs,m,rfl,h2,h3,h4⟩
 . refine ⟨.rs H.n 0 1 sz none,H.push (.row r sz te), ?_,⟨.inr ⟨H.n,[],0,rfl,by simp,by rw [Heap.get_push,if_pos rfl];simp,by simp⟩,fun i a b c d he=>by cases he;exact hlo⟩,(Chg.refl H).push _,fun i hi _=>by rw [Heap.get_push,if_neg (by omega)],fun i a b c d he=>by cases he;exact .inl rfl⟩;unfold Yv;simp only [Tok.full,length_nil,zero_add,length_cons,all_cons,ho,all_nil,hs,decide_true,Bool.and_true,Bool.true_and];rw [if_pos (by simpa using hm)];simp
 . have hil:=hid _ _ _ _ _ rfl;by_cases hc:m=0
   . subst hc;have hcs:cs=[]:=length_eq_zero_iff.1 (by omega);subst hcs;rw [append_nil] at h3;refine ⟨.rs H.n 0 (rows.length+1) sz none,(H.set id .dead).push (.row (rows++[r]).flatten sz te), ?_,⟨.inr ⟨H.n,[],0,by simp,by simp,by rw [Heap.get_push,if_pos (by simp)];simp,by simp⟩,fun i a b c d he=>by cases he;exact hlo⟩,((Chg.refl H).set hil (.inr (.inl ⟨_,h3⟩)) _).push _,fun i hi hne=>by rw [Heap.get_push,if_neg (by simp;omega),Heap.get_set,if_neg (fun he=>hne _ _ _ _ (by rw [he]))],fun i a b c d he=>by cases he;exact .inl rfl⟩;unfold Yv;simp only [length_cons,length_nil,zero_add,all_cons,ho,all_nil,hs,hil,decide_true,Bool.and_true,isNone_none,h3,hf,if_true];rw [if_pos (by simpa using hm)];simp
   . have hm1:sz<=cs.length:=by
      rw [h4]
      calc sz=1 * sz:=(one_mul _).symm
       _<=m * sz:=mul_le_mul_right _ (by omega)
     have hov:=Ho (A:=rows.flatten) (B:=cs) (r:=r);rw [hf] at hov;refine ⟨.rs id 0 (rows.length+1) sz none,H.set id (.row ((rows++[r]).flatten++cs.drop sz) sz te), ?_,⟨.inr ⟨id,cs.drop sz,m - 1,by simp,by simpa using h2,by rw [Heap.get_set,if_pos rfl],by rw [length_drop,h4,sub_mul];omega⟩,fun i a b c d he=>by cases he;exact hil⟩,(Chg.refl H).set hil (.inr (.inl ⟨_,h3⟩)) _,fun i hi hne=>by rw [Heap.get_set,if_neg (fun he=>hne _ _ _ _ (by rw [he]))],fun i a b c d he=>by cases he;exact .inr ⟨_,_,_,_,rfl⟩⟩;unfold Yv;simp only [length_cons,length_nil,zero_add,all_cons,ho,all_nil,hs,hil,decide_true,Bool.and_true,isNone_none,h3,if_true];rw [if_pos (by simpa using hm)];have c1':¬ (rows.length * sz=(rows.flatten++cs).length):=by rw [length_append,hf];omega
     have c2':(rows.length+1) * sz<=(rows.flatten++cs).length:=by rw [length_append,hf,succ_mul];omega
     simp only [c1',c2',decide_true,decide_false,Bool.and_false,Bool.and_true,false_eq_true,if_false,if_true];have:[r].flatten=r:=by simp
     rw [this,hov,hr];simp
structure HisW (te:TypeId) (lo:Nat) (H:Heap) (hb:Nat) (es cs:List Ev) (r:Reg) (V:RegV) (vE vC:AV):Prop where
 reg:RegW lo H hb [vE,vC] [] te r V
 aE:SW lo H vE 5 53 (es.map Pos.Ev.row)
 aC:SW lo H vC 5 53 (cs.map Pos.Ev.row)
 dis:∀ i j a b c d a' b' c' d',vE=.rs i a b c d->vC=.rs j a' b' c' d'->i ≠ j
 lE:es.length<=1000
 lCE:cs.length<=es.length
section
variable {lo lo':Nat} {H H':Heap} {b b' hb:Nat} {pre pre' post post':List AV} {e e':TypeId} {r:Reg} {V:RegV} {es cs:List Ev} {vE vC:AV}
theorem HisW.is (h:HisW te lo H hb es cs r V vE vC):HisIs te H hb es cs r V vE vC:=⟨h.reg.blk,h.reg.is,h.aE.1,h.aC.1,h.dis,h.lE,Nat.le_trans h.lCE h.lE⟩
theorem HisW.old (h:HisW te lo H hb es cs r V vE vC) (ho:Old H.n H H'):HisW te lo H' hb es cs r V vE vC:=⟨h.reg.old ho,h.aE.old ho,h.aC.old ho,h.dis,h.lE,h.lCE⟩
theorem PW.mono {te:TypeId} {v:AV} (h:PW lo' H v sz te rows) (hl:lo<=lo'):PW lo H v sz te rows:=by
 obtain ⟨t,h1,h2 | ⟨j,h2,h3,h4,h5⟩⟩:=h
 . exact ⟨t,h1,.inl h2⟩
 . exact ⟨t,h1,.inr ⟨j,h2,h3,Nat.le_trans hl h4,h5⟩⟩
theorem SW.mono {te:TypeId} {v:AV} (h:SW lo' H v sz te rows) (hl:lo<=lo'):SW lo H v sz te rows:=⟨h.1,fun i a b c d he=>Nat.le_trans hl (h.2 i a b c d he)⟩
theorem RegW.fore (h:RegW lo H b pre post e r V):RegW lo (H.set b (.cells (pre'++(Zq r V++post)) e)) b pre' post e r V:=by
 have c:Chg lo b (fun _=>False) H (H.set b (.cells (pre'++(Zq r V++post)) e)):=QC H h.lob _;have hb:∃ cs e,H.get b=.cells cs e:=⟨_,_,h.blk⟩;exact ⟨by simpa using h.bn,h.lob,by rw [Heap.get_set,if_pos rfl],h.aT.chg c (fun _=>id) hb,h.aF.chg c (fun _=>id) hb,h.aR.chg c (fun _=>id) hb,h.aP.chg c (fun _=>id) hb,h.aM.chg c (fun _=>id) hb,h.lT,h.lF,h.lR,h.lP,h.lM⟩
theorem RegW.chgE (h:RegW lo H b pre post e r V) (c0:Chg lo H.n (Xt 5 53) H H') (hbb:H'.get b=H.get b):RegW lo H' b pre post e r V:=by
 have c:Chg lo b (Xt 5 53) H H':=Up c0;have hb:∃ cs e,H.get b=.cells cs e:=⟨_,_,h.blk⟩;exact ⟨lt_of_lt_of_le h.bn c.n,h.lob,hbb.trans h.blk,h.aT.chg c (fun cs ⟨_,hx⟩=>by cases hx) hb,h.aF.chg c (fun cs ⟨_,hx⟩=>by cases hx) hb,h.aR.chg c (fun cs ⟨_,hx⟩=>by cases hx) hb,h.aP.chg c (fun cs ⟨_,hx⟩=>by cases hx) hb,h.aM.chg c (fun cs ⟨_,hx⟩=>by cases hx) hb,h.lT,h.lF,h.lR,h.lP,h.lM⟩
theorem RegW.move (h:RegW lo' H b' pre' post' e' r V) (hl:lo<=lo') (hb:b < H.n) (hlb:lo<=b) {cs:List AV} {te:TypeId} (hg:H.get b=.cells cs te):RegW lo (H.set b (.cells (pre++(Zq r V++post)) e)) b pre post e r V:=by
 have c:Chg lo b (fun _=>False) H (H.set b (.cells (pre++(Zq r V++post)) e)):=QC H hlb _;have hb':∃ cs e,H.get b=.cells cs e:=⟨_,_,hg⟩;exact ⟨by simpa using hb,hlb,by rw [Heap.get_set,if_pos rfl],(h.aT.mono hl).chg c (fun _=>id) hb',(h.aF.mono hl).chg c (fun _=>id) hb',(h.aR.mono hl).chg c (fun _=>id) hb',(h.aP.mono hl).chg c (fun _=>id) hb',(h.aM.mono hl).chg c (fun _=>id) hb',h.lT,h.lF,h.lR,h.lP,h.lM⟩
theorem SW.keep {te:TypeId} {v:AV} (h:SW lo H v sz te rows) (hn:H.n<=H'.n) (hg:∀ i a b c d,v=.rs i a b c d->i < H.n->H'.get i=H.get i):SW lo H' v sz te rows :=
 ⟨h.1.keep hn fun i hi hv=>hg _ _ _ _ _ hv hi,h.2⟩
theorem SW.row {te:TypeId} {v:AV} (h:SW lo H v sz te rows) {a b c:Nat} {d:Option Nat} (hv:v=.rs i a b c d):i < H.n /\ ∃ cs,H.get i=.row cs sz te:=by
 obtain ⟨⟨_,h2⟩ | ⟨id,cs,m,h2,h3,h4,_⟩,_⟩:=h
 . rw [hv] at h2;cases h2
 . rw [hv] at h2;cases h2;exact ⟨h3,_,h4⟩
end
theorem en106:Xo 106:=Xu
theorem IB {lo:Nat} {H:Heap} {hb:Nat} {es cs:List Ev} {r:Reg} {V:RegV} {vE vC:AV} (h:HisW te lo H hb es cs r V vE vC) (e:Ev) (hl:es.length+1<=1000) :
 ∃ v1 H1 H2,Yv lo H 5 53 vE [e.row]=some (v1,H1)/\H1.get hb=H.get hb/\sst lo H1 22 (.ptr hb 0) v1=some H2/\HisW te lo H2 hb (es++[e]) cs r V v1 vC/\Chg lo hb QB H H2/\H1.n<=H2.n/\(∀ i,i < H.n->(∀ a b c d,vE ≠ .rs i a b c d)->H1.get i=H.get i)/\H.n<=H1.n:=by
 obtain ⟨v1,H1,ha,hv,hc,ho,hi⟩:=IA e.row h.aE (le_of_lt (lt_of_le_of_lt h.reg.lob h.reg.bn)) (ZD (by intro x;rfl) _) rfl rfl (by decide) (by rw [length_map];unfold Z2;omega);have hbb:H1.get hb=H.get hb:=Gv hc h.reg.bn (fun ⟨_,hx⟩=>by rw [h.reg.blk] at hx;cases hx);have hst:=J7 (lo:=lo) (k:=0) (pre:=[]) (cs:=[vE,vC]) (post:=Zq r V++[]) (t:=22) (v:=v1) (hbb.trans h.reg.blk) h.reg.lob (by show 0 < 2;decide) (by kernel_rfl) hv.cells1 hv.one1;have hr1:=h.reg.chgE hc hbb;have hr2:=hr1.fore (pre':=[v1,vC]);have hC1:SW lo H1 vC 5 53 (cs.map Pos.Ev.row):=h.aC.keep hc.n fun i a b c d hv' hi'=>ho i hi' fun a b c d he=>h.dis _ _ _ _ _ _ _ _ _ _ he hv' rfl
 have hcell:∃ cs e,H1.get hb=.cells cs e:=⟨_,_,hbb.trans h.reg.blk⟩;have hcb:Chg lo hb (fun _=>False) H1 (H1.set hb (.cells ([v1,vC]++(Zq r V++[])) te)):=QC H1 h.reg.lob _;refine ⟨v1,H1,_,ha,hbb,hst,⟨hr2, ?_, ?_, ?_,by simpa using hl,by have:=h.lCE;simp;omega⟩, ?_,by simp,ho,hc.n⟩
 . rw [map_append];exact hv.chg hcb (fun _=>id) hcell
 . exact hC1.chg hcb (fun _=>id) hcell
 . intro i j a b c d a' b' c' d' h1 h2 hij;subst hij;rcases hi _ _ _ _ _ h1 with h3 | ⟨_,_,_,_,h3⟩
   . have:=(h.aC.row h2).1;omega
   . exact h.dis _ _ _ _ _ _ _ _ _ _ h3 h2 rfl
 . exact ((Up hc).mono fun x ⟨cs,hx⟩=>⟨cs,_,_,hx⟩).set h.reg.lob (.inl rfl) _
theorem Zae {lo:Nat} {H:Heap} {hb:Nat} {es cs:List Ev} {r:Reg} {V:RegV} {vE vC:AV} (h:HisW te lo H hb es cs r V vE vC) (e:Ev) (hl:cs.length+1<=es.length) :
 ∃ v1 H1 H2,Yv lo H 5 53 vC [e.row]=some (v1,H1)/\H1.get hb=H.get hb/\sst lo H1 22 (.ptr hb 1) v1=some H2/\HisW te lo H2 hb es (cs++[e]) r V vE v1/\Chg lo hb QB H H2/\H1.n<=H2.n/\H.n<=H1.n:=by
 obtain ⟨v1,H1,ha,hv,hc,ho,hi⟩:=IA e.row h.aC (le_of_lt (lt_of_le_of_lt h.reg.lob h.reg.bn)) (ZD (by intro x;rfl) _) rfl rfl (by decide) (by have:=h.lE;rw [length_map];unfold Z2;omega);have hbb:H1.get hb=H.get hb:=Gv hc h.reg.bn (fun ⟨_,hx⟩=>by rw [h.reg.blk] at hx;cases hx);have hst:=J7 (lo:=lo) (k:=1) (pre:=[]) (cs:=[vE,vC]) (post:=Zq r V++[]) (t:=22) (v:=v1) (hbb.trans h.reg.blk) h.reg.lob (by show 1 < 2;decide) (by kernel_rfl) hv.cells1 hv.one1;have hr1:=h.reg.chgE hc hbb;have hr2:=hr1.fore (pre':=[vE,v1]);have hE1:SW lo H1 vE 5 53 (es.map Pos.Ev.row):=h.aE.keep hc.n fun i a b c d hv' hi'=>ho i hi' fun a b c d he=>h.dis _ _ _ _ _ _ _ _ _ _ hv' he rfl
 have hcell:∃ cs e,H1.get hb=.cells cs e:=⟨_,_,hbb.trans h.reg.blk⟩;have hcb:Chg lo hb (fun _=>False) H1 (H1.set hb (.cells ([vE,v1]++(Zq r V++[])) te)):=QC H1 h.reg.lob _;refine ⟨v1,H1,_,ha,hbb,hst,⟨hr2, ?_, ?_, ?_,h.lE,by simpa using hl⟩, ?_,by simp,hc.n⟩
 . exact hE1.chg hcb (fun _=>id) hcell
 . rw [map_append];exact hv.chg hcb (fun _=>id) hcell
 . intro i j a b c d a' b' c' d' h1 h2 hij;subst hij;rcases hi _ _ _ _ _ h2 with h3 | ⟨_,_,_,_,h3⟩
   . have:=(h.aE.row h1).1;omega
   . exact h.dis _ _ _ _ _ _ _ _ _ _ h1 h3 rfl
 . exact ((Up hc).mono fun x ⟨cs,hx⟩=>⟨cs,_,_,hx⟩).set h.reg.lob (.inl rfl) _
theorem CH {te:TypeId} {v:AV} (h:SW lo H v sz te rows) (hb:H.get b=.cells cs e):Jm (some v)=none \/ ∃ j,Jm (some v)=some (.wr j)/\j < H.n/\j ≠ b:=by
 obtain ⟨⟨_,rfl⟩ | ⟨id,cs',m,rfl,h2,h3,_⟩,_⟩:=h
 . exact .inl rfl
 . exact .inr ⟨id,rfl,h2,fun he=>by rw [he,hb] at h3;cases h3⟩
theorem Zaf {cs:List Ev} (h:HisW te lo H hb es cs r V vE vC) {a:Pos.Act} (hk:kind ≠ ZJ) (hA:∀ n,Xv r a num kind names (tk::vs) [] n) (hn:names.length≤Z2∧(tk::vs).length≤Z2) (hle:es.length+1≤1000) :
 ∃ w H',R PT (.call lo 106 [.ptr hb 0,.agg (evC num kind names (tk::vs) [])] H)=some (.ofVal w H') ∧ ∃ vE' vC' V',HisW te lo H' hb (es++[⟨num,kind,names,tk::vs,[]⟩]) (cs++[⟨num,kind,names,tk::vs,[]⟩]) (Pos.doA r tk a) V' vE' vC'∧Chg lo hb QB H H':=by
 refine Zd (C:=PT) (f:=106) (lo:=lo) (args:=[.ptr hb 0,.agg (evC num kind names (tk::vs) [])]) (H:=H) (fn:=Tryz.f106) (Q:=fun _ H'=>∃ vE' vC' V',HisW te lo H' hb (es++[⟨num,kind,names,tk::vs,[]⟩]) (cs++[⟨num,kind,names,tk::vs,[]⟩]) (Pos.doA r tk a) V' vE' vC'∧Chg lo hb QB H H') (by kernel_rfl) Tryz.func106 rfl rfl ?_
 have hlo:lo≤H.n:=le_of_lt (lt_of_le_of_lt h.reg.lob h.reg.bn)
 have hlo':=eq_true hlo
 have hbn:=eq_true h.reg.bn
 have hku:Z6 kind [117,110,100,111]=false:=by rw [Ys];exact decide_eq_false hk
 obtain ⟨H0,hH0⟩:∃ H0,H0=(H.push (.cells (evC num kind names (tk::vs) []) 53)).set H.n (.cells (evC num kind names (tk::vs) []) 53):=⟨_,rfl⟩
 have hst0:sst lo (H.push (.cells (evC num kind names (tk::vs) []) 53)) 53 (.ptr H.n 0) (.agg (evC num kind names (tk::vs) []))=some H0:=by
  simp (maxDischargeDepth:=12) only [go_sem,reduceAdd,hlo',hH0]
 have hn0:H0.n=H.n+1:=by rw [hH0];simp
 have hO0:Old H.n H H0:=by rw [hH0];exact (Old.refl H).new _ _
 have hc0:Chg lo hb QB H H0:=⟨by omega,fun i hi=>.inl (hO0.2 i hi)⟩
 have hp0:H0.get H.n=.cells (evC num kind names (tk::vs) []) 53:=by rw [hH0,Heap.get_set,if_pos rfl]
 have h0:=h.old hO0
 obtain ⟨v1,H1,H2,ha1,hb1,hst1,h2,hc2,hn12,ho1,hn01⟩:=IB h0 ⟨num,kind,names,tk::vs,[]⟩ hle
 obtain ⟨v2,H3,H4,ha2,hb2,hst2,h4,hc4,hn34,hn23⟩:=Zae h2 ⟨num,kind,names,tk::vs,[]⟩ (by have:=h.lCE;simp;omega)
 simp only [Pos.Ev.row] at ha1 ha2
 have hp2:H2.get H.n=.cells (evC num kind names (tk::vs) []) 53:=hc2.cells (by omega) (by have:=h.reg.bn;omega) hp0
 have hn2:=hc2.n
 have hn4:=hc4.n
 have hp4:H4.get H.n=.cells (evC num kind names (tk::vs) []) 53:=hc4.cells (by omega) (by have:=h.reg.bn;omega) hp2
 have hg0:=h0.reg.blk
 have hg2:=h2.reg.blk
 simp only [Zq,append_nil,cons_append,nil_append] at hg0 hg2
 have hg1:=hb1.trans hg0
 have hg3:=hb2.trans hg2
 obtain ⟨H5,hr5,hn5,hk5,hF⟩:=Uj (P:=PPT) (by rfl) (by rfl) H4.n H4 (Nat.le_refl _)
 have hp5:H5.get H.n=.cells (evC num kind names (tk::vs) []) 53:=by rw [hk5 _ (by omega),hp4]
 have hO5:Old H4.n H4 H5:=⟨by omega,hk5⟩
 obtain ⟨nm',fv,f1,l1,f2,l2,hlk,⟨hs1,hs2⟩,hu,happ⟩:=hA H4.n
 have h5:=h4.old hO5
 obtain ⟨w,H6,V',hcall,hW6,hc6⟩:=happ lo H5 hb [v1,v2] [] te V hF (by omega) h5.reg
 have hlk2:=(Gk hF.map (Gl _) kind).2
 rw [hlk] at hlk2
 have hu1:=(hu _ (le_of_eq hn5.symm)).1
 have hu2:=(hu _ (le_of_eq hn5.symm)).2
 have hc6':=hc6.mono Iy
 have hp6:H6.get H.n=.cells (evC num kind names (tk::vs) []) 53:=hc6'.cells (by omega) (by have:=h.reg.bn;omega) hp5
 obtain ⟨ht1,ht2⟩:=hW6.tick tk
 rw [Pos.CG] at ht1 ht2
 have hei:(Z3 (tk::vs))[0]? = some [.int .i64 tk]:=rfl
 have hel:(0 < (Z3 (tk::vs)).length)=True:=eq_true (by rw [Yo];exact succ_pos _)
 have hown:=pe76 ⟨num,kind,names,tk::vs,[]⟩ hn
 simp only [Pos.Ev.row] at hown
 simp only [length_cons,length_nil,zero_add,reduceAdd] at ht1 hcall
 try simp only [length_nil,zero_add,add_zero] at hst1 hst2
 have q1:(H.n < H0.n)=True:=eq_true (by omega)
 have q2:(H.n < H1.n)=True:=eq_true (by omega)
 have q3:(H.n < H2.n)=True:=eq_true (by omega)
 have q4:(H.n < H4.n)=True:=eq_true (by omega)
 have q5:(H4.n < H5.n)=True:=eq_true (by omega)
 have q6:(H.n < H5.n)=True:=eq_true (by omega)
 have q7:(hb < H0.n)=True:=eq_true (by have:=h.reg.bn;omega)
 have q8:(hb < H2.n)=True:=eq_true (by have:=h.reg.bn;omega)
 have q9:(hb < H5.n)=True:=eq_true (by have:=h.reg.bn;omega)
 have q10:(hb=H.n)=False:=eq_false (by have:=h.reg.bn;omega)
 have q11:(H.n=hb)=False:=eq_false (by have:=h.reg.bn;omega)
 have hfin:HisW te lo (H6.set hb (.cells ([v1,v2]++(Zq (Pos.doA r tk a) V'++[])) te)) hb (es++[⟨num,kind,names,tk::vs,[]⟩]) (cs++[⟨num,kind,names,tk::vs,[]⟩]) (Pos.doA r tk a) V' v1 v2:=by
  have hcb:Chg lo hb (fun _=>False) H6 (H6.set hb (.cells ([v1,v2]++(Zq (Pos.doA r tk a) V'++[])) te)):=QC H6 h.reg.lob _
  have hx:∀ cs,¬ Yg (.row cs 5 53):=fun cs ⟨_,_,_,h1,h2⟩=>by cases h1;exact h2 rfl
  exact ⟨ht2,(h5.aE.chg hc6 hx ⟨_,_,h5.reg.blk⟩).chg hcb (fun _=>id) ⟨_,_,hW6.blk⟩,(h5.aC.chg hc6 hx ⟨_,_,h5.reg.blk⟩).chg hcb (fun _=>id) ⟨_,_,hW6.blk⟩,h5.dis,h5.lE,h5.lCE⟩
 have hchg:Chg lo hb QB H (H6.set hb (.cells ([v1,v2]++(Zq (Pos.doA r tk a) V'++[])) te)):=((((hc0.to hc2).to hc4).to ⟨by omega,fun i hi=>.inl (hk5 i hi)⟩).to hc6').set h.reg.lob (.inl rfl) _
 rcases CH h0.aE hg0 with aE | ⟨jE,aE,jE1,jE2⟩<;>rcases CH h2.aC hg2 with aC | ⟨jC,aC,jC1,jC2⟩
 · skip
   simp (maxDischargeDepth:=12) only [go_sem,reduceEqDiff,reduceAdd,reduceMul,reduceSub,reduceLeDiff,reduceCtorEq,Zu,hst0,hst1,hst2,ha1,ha2,hp0,hp2,hp4,hp6,hg0,hg2,hlk2,hs2,hcall,ht1,hei,hel,hown,hku,Js (P:=PPT) rfl,hr5,q5,aE,aC]
   exact ⟨v1,v2,V',hfin,hchg⟩
 · skip
   have f1:(jC=hb)=False:=eq_false jC2
   have f2:(hb=jC)=False:=eq_false (Ne.symm jC2)
   have f3:(jC=H.n)=False:=eq_false (fun he=>by
    rcases h2.aC.1 with ⟨_,hv⟩ | ⟨id,cs,m,hv,_,hg,_⟩
    · rw [hv] at aC;cases aC
    · rw [hv] at aC
      cases aC
      rw [he,hp2] at hg;cases hg)
   have f4:(H.n=jC)=False:=eq_false (fun he=>by rw [he] at f3;simp at f3)
   simp (maxDischargeDepth:=12) only [go_sem,reduceEqDiff,reduceAdd,reduceMul,reduceSub,reduceLeDiff,reduceCtorEq,Zu,hst0,hst1,hst2,ha1,ha2,hp0,hp2,hp4,hp6,hg0,hg2,hlk2,hs2,hcall,ht1,hei,hel,hown,hku,Js (P:=PPT) rfl,hr5,q5,aE,aC]
   exact ⟨v1,v2,V',hfin,hchg⟩
 · skip
   have e1:(jE=hb)=False:=eq_false jE2
   have e2:(hb=jE)=False:=eq_false (Ne.symm jE2)
   have e3:(jE=H.n)=False:=eq_false (fun he=>by
    rcases h0.aE.1 with ⟨_,hv⟩ | ⟨id,cs,m,hv,_,hg,_⟩
    · rw [hv] at aE;cases aE
    · rw [hv] at aE
      cases aE
      rw [he,hp0] at hg;cases hg)
   have e4:(H.n=jE)=False:=eq_false (fun he=>by rw [he] at e3;simp at e3)
   simp (maxDischargeDepth:=12) only [go_sem,reduceEqDiff,reduceAdd,reduceMul,reduceSub,reduceLeDiff,reduceCtorEq,Zu,hst0,hst1,hst2,ha1,ha2,hp0,hp2,hp4,hp6,hg0,hg2,hlk2,hs2,hcall,ht1,hei,hel,hown,hku,Js (P:=PPT) rfl,hr5,q5,aE,aC]
   exact ⟨v1,v2,V',hfin,hchg⟩
 · skip
   have e1:(jE=hb)=False:=eq_false jE2
   have e2:(hb=jE)=False:=eq_false (Ne.symm jE2)
   have e3:(jE=H.n)=False:=eq_false (fun he=>by
    rcases h0.aE.1 with ⟨_,hv⟩ | ⟨id,cs,m,hv,_,hg,_⟩
    · rw [hv] at aE;cases aE
    · rw [hv] at aE
      cases aE
      rw [he,hp0] at hg;cases hg)
   have e4:(H.n=jE)=False:=eq_false (fun he=>by rw [he] at e3;simp at e3)
   have f1:(jC=hb)=False:=eq_false jC2
   have f2:(hb=jC)=False:=eq_false (Ne.symm jC2)
   have f3:(jC=H.n)=False:=eq_false (fun he=>by
    rcases h2.aC.1 with ⟨_,hv⟩ | ⟨id,cs,m,hv,_,hg,_⟩
    · rw [hv] at aC;cases aC
    · rw [hv] at aC
      cases aC
      rw [he,hp2] at hg;cases hg)
   have f4:(H.n=jC)=False:=eq_false (fun he=>by rw [he] at f3;simp at f3)
   simp (maxDischargeDepth:=12) only [go_sem,reduceEqDiff,reduceAdd,reduceMul,reduceSub,reduceLeDiff,reduceCtorEq,Zu,hst0,hst1,hst2,ha1,ha2,hp0,hp2,hp4,hp6,hg0,hg2,hlk2,hs2,hcall,ht1,hei,hel,hown,hku,Js (P:=PPT) rfl,hr5,q5,aE,aC]
   exact ⟨v1,v2,V',hfin,hchg⟩
theorem Zag:XH NC.P 22 (.rs id 0 (n+1) 5 none) none (some (.int .i64 (n:Nat))) none=some (.rs id 0 n 5 none):=by
 have hu:NC.P.underlying 22=some (.slice 53):=by kernel_rfl
 have hz:Zf NC.P 53=some 5:=by kernel_rfl
 have hn:YI (n+1+1) (.int .i64 (n:Nat))=some n:=by rw [U2,if_pos (by omega)]
 have h0:∀ k,YS 0 k none=some 0:=fun k=>rfl
 have hb:YS (n+1) (n+1) (some (.int .i64 (n:Nat)))=some n:=by
  unfold YS;simp only [hn]
 unfold XH;simp only [hu,hz,if_true,hb,h0];simp
theorem Zah (nm:Nm→Bool) {cs:List Ev} (h:HisW te lo H hb es cs r V vE vC) {l:Ev} {ds:List Ev} (hcs:cs=ds++[l]) (hrun:YD ZS (Xr ds)=some r') (hc:∀ e ∈ ds,Y1 nm e=0∧e.kind ≠ ZJ) (hle:es.length+1≤1000) :
 ∃ w H',R PT (.call lo 106 [.ptr hb 0,.agg (evC num ZJ [] [] [])] H)=some (.ofVal w H') ∧ ∃ vE' vC' V',HisW te lo H' hb (es++[⟨num,ZJ,[],[],[]⟩]) ds r' V' vE' vC'∧Chg lo hb QB H H':=by
 refine Zd (C:=PT) (f:=106) (lo:=lo) (args:=[.ptr hb 0,.agg (evC num ZJ [] [] [])]) (H:=H) (fn:=Tryz.f106) (Q:=fun _ H'=>∃ vE' vC' V',HisW te lo H' hb (es++[⟨num,ZJ,[],[],[]⟩]) ds r' V' vE' vC'∧Chg lo hb QB H H') (by kernel_rfl) Tryz.func106 rfl rfl ?_
 have hlo:lo≤H.n:=le_of_lt (lt_of_le_of_lt h.reg.lob h.reg.bn)
 have hlo':=eq_true hlo
 have hbn:=eq_true h.reg.bn
 have hbn0:=h.reg.bn
 have hku:Z6 ZJ [117,110,100,111]=true:=by decide
 obtain ⟨H0,hH0⟩:∃ H0,H0=(H.push (.cells (evC num ZJ [] [] []) 53)).set H.n (.cells (evC num ZJ [] [] []) 53):=⟨_,rfl⟩
 have hst0:sst lo (H.push (.cells (evC num ZJ [] [] []) 53)) 53 (.ptr H.n 0) (.agg (evC num ZJ [] [] []))=some H0:=by
  simp (maxDischargeDepth:=12) only [go_sem,reduceAdd,hlo',hH0]
 have hn0:H0.n=H.n+1:=by rw [hH0];simp
 have hO0:Old H.n H H0:=by rw [hH0];exact (Old.refl H).new _ _
 have hc0:Chg lo hb QB H H0:=⟨by omega,fun i hi=>.inl (hO0.2 i hi)⟩
 have hp0:H0.get H.n=.cells (evC num ZJ [] [] []) 53:=by rw [hH0,Heap.get_set,if_pos rfl]
 have h0:=h.old hO0
 obtain ⟨v1,H1,H2,ha1,hb1,hst1,h2,hc2,hn12,ho1,hn01⟩:=IB h0 ⟨num,ZJ,[],[],[]⟩ hle
 simp only [Pos.Ev.row] at ha1
 have hp2:H2.get H.n=.cells (evC num ZJ [] [] []) 53:=hc2.cells (by omega) (by omega) hp0
 have hn2:=hc2.n
 have hg0:=h0.reg.blk
 have hg2:=h2.reg.blk
 simp only [Zq,append_nil,cons_append,nil_append] at hg0 hg2
 have hg1:=hb1.trans hg0
 subst hcs
 obtain ⟨hr0,_⟩ | ⟨idC,tl,m,hvC,hid,hgi,htl⟩:=h2.aC.1
 · simp at hr0
 have hll:((ds++[l]).map Pos.Ev.row).length=ds.length+1:=by simp
 rw [hll] at hvC
 have hidl:=h2.aC.2 _ _ _ _ _ hvC
 have hlC:=h2.lCE
 have hlE:=h2.lE
 simp only [length_append,length_cons,length_nil] at hlC hlE
 have hw2:ZC .i64 (Int.sub ((ds.length+1:Nat):Int) 1)=(ds.length:Int):=BD (k:=ds.length+1) (by omega) (Nat.le_refl _) (by unfold Z2;omega)
 have hsl:=Zag (id:=idC) (n:=ds.length)
 have hst2:=J7 (lo:=lo) (k:=1) (pre:=[]) (cs:=[v1,vC]) (post:=Zq r V++[]) (t:=22) (v:=.rs idC 0 ds.length 5 none) h2.reg.blk h.reg.lob (by show 1 < 2;decide) (by kernel_rfl) rfl rfl
 have hr3:=h2.reg.fore (pre':=[v1,.rs idC 0 ds.length 5 none])
 obtain ⟨H3,hH3⟩:∃ H3,H3=H2.set hb (.cells ([v1,.rs idC 0 ds.length 5 none]++(Zq r V++[])) te):=⟨_,rfl⟩
 have hst2':sst lo H2 22 (.ptr hb 1) (.rs idC 0 ds.length 5 none)=some H3:=by rw [hH3];exact hst2
 rw [← hH3] at hr3
 have hn3:H3.n=H2.n:=by rw [hH3];simp
 have hidb:idC ≠ hb:=fun he=>by rw [he,h2.reg.blk] at hgi;cases hgi
 have hg3':H3.get idC=.row (((ds++[l]).map Pos.Ev.row).flatten++tl) 5 53:=by rw [hH3,Heap.get_set,if_neg hidb];exact hgi
 have hC3:SW lo H3 (.rs idC 0 ds.length 5 none) 5 53 (ds.map Pos.Ev.row):=⟨.inr ⟨idC,l.row++tl,m+1,by rw [length_map],by omega,by rw [hg3'];simp,by rw [length_append,htl,succ_mul];show 5+m * 5=_;omega⟩,fun i a b c d he=>by cases he;exact hidl⟩
 have hcb3:Chg lo hb (fun _=>False) H2 H3:=by rw [hH3];exact QC H2 h.reg.lob _
 have hE3:SW lo H3 v1 5 53 ((es++[(⟨num,ZJ,[],[],[]⟩:Ev)]).map Pos.Ev.row):=h2.aE.chg hcb3 (fun _=>id) ⟨_,_,h2.reg.blk⟩
 obtain ⟨w,H4,hm,V',rfl,hO4,hW4⟩:=Zad nm (Ju hC3.1) (by omega) hrun hc
 have hmade:=fun lo K=>QA (K:=K) (en126 (lo:=lo) rfl) hm
 have hn4:=hO4.1
 have hg4:H4.get hb=.cells ([v1,.rs idC 0 ds.length 5 none]++(Zq r V++[])) te:=by rw [hO4.2 _ (by omega)];exact hr3.blk
 have hr5:=hW4.move (lo:=lo) (b:=hb) (pre:=[v1,.rs idC 0 ds.length 5 none]) (post:=[]) (e:=te) (by omega) (by omega) h.reg.lob hg4
 have hg4':=hg4
 simp only [Zq,append_nil,cons_append,nil_append] at hg4'
 obtain ⟨H5,hH5⟩:∃ H5,H5=H4.set hb (.cells ([v1,.rs idC 0 ds.length 5 none]++(Zq r' V'++[])) te):=⟨_,rfl⟩
 rw [← hH5] at hr5
 have hlob:=eq_true h.reg.lob
 have oT:=hW4.aT.one1
 have oF:=hW4.aF.one1
 have oR:=hW4.aR.one1
 have oP:=hW4.aP.one1
 have oM:=hW4.aM.one1
 have hst4:sst lo H4 49 (.ptr hb 2) (.agg (Zq r' V'))=some H5:=by
  unfold AV.one at oT oF oR oP oM
  rw [hH5]
  simp (maxDischargeDepth:=12) only [go_sem,reduceAdd,hg4',Zq,oT,oF,oR,oP,oM,hlob]
 have hcb5:Chg lo hb (fun _=>False) H4 H5:=by rw [hH5];exact QC H4 h.reg.lob _
 have hfin:HisW te lo H5 hb (es++[⟨num,ZJ,[],[],[]⟩]) ds r' V' v1 (.rs idC 0 ds.length 5 none):=by
  refine ⟨hr5,(hE3.old hO4).chg hcb5 (fun _=>id) ⟨_,_,hg4⟩,(hC3.old hO4).chg hcb5 (fun _=>id) ⟨_,_,hg4⟩, ?_,h2.lE,by simp;omega⟩
  intro i j a b c d a' b' c' d' e1 e2
  cases e2
  exact h2.dis _ _ _ _ _ _ _ _ _ _ e1 hvC
 have hchg:Chg lo hb QB H H5:=(((hc0.to hc2).to (hcb3.mono fun _ hx=>hx.elim)).to ⟨hn4,fun i hi=>.inl (hO4.2 i hi)⟩).to (hcb5.mono fun _ hx=>hx.elim)
 have hown:=pe76 ⟨num,ZJ,[],[],[]⟩ ⟨zero_le _,zero_le _⟩
 simp only [Pos.Ev.row] at hown
 have q1:(H.n < H0.n)=True:=eq_true (by omega)
 have q2:(H.n < H2.n)=True:=eq_true (by omega)
 have q7:(hb < H0.n)=True:=eq_true (by omega)
 have q8:(hb < H2.n)=True:=eq_true (by omega)
 have q9:(idC < H2.n)=True:=eq_true hid
 have q10:(hb=H.n)=False:=eq_false (by omega)
 have q11:(H.n=hb)=False:=eq_false (by omega)
 have hun:(AV.rs idC 0 (ds.length+1) 5 none).under H2.n=true:=Nat.ble_eq.symm ▸ (show idC < H2.n from hid)
 have hg2n:=hg2
 rw [hvC] at hg2n
 have hg3n:=hr3.blk
 simp only [Zq,append_nil,cons_append,nil_append] at hg3n
 try simp only [length_nil,zero_add,add_zero] at hst1
 rcases CH h0.aE hg0 with aE | ⟨jE,aE,jE1,jE2⟩
 · simp (maxDischargeDepth:=12) only [go_sem,reduceEqDiff,reduceAdd,reduceMul,reduceSub,reduceLeDiff,reduceCtorEq,Zu,hst0,hst1,hst2',hst4,ha1,hp0,hp2,hg0,hg2n,hg3n,hown,hku,hw2,hsl,hmade,aE]
   exact ⟨v1,_,V',hfin,hchg⟩
 · have e1:(jE=hb)=False:=eq_false jE2
   have e2:(hb=jE)=False:=eq_false (Ne.symm jE2)
   have e3:(jE=H.n)=False:=eq_false (fun he=>by
    rcases h0.aE.1 with ⟨_,hv⟩ | ⟨id,cs,m,hv,_,hg,_⟩
    · rw [hv] at aE;cases aE
    · rw [hv] at aE
      cases aE
      rw [he,hp0] at hg;cases hg)
   have e4:(H.n=jE)=False:=eq_false (fun he=>by rw [he] at e3;simp at e3)
   simp (maxDischargeDepth:=12) only [go_sem,reduceEqDiff,reduceAdd,reduceMul,reduceSub,reduceLeDiff,reduceCtorEq,Zu,hst0,hst1,hst2',hst4,ha1,hp0,hp2,hg0,hg2n,hg3n,hown,hku,hw2,hsl,hmade,aE]
   exact ⟨v1,_,V',hfin,hchg⟩
theorem Zai {k:Nm} {a:Nat} (h:Qy k=some (a,b)):a<=4/\b<=4:=by
 have go:∀ {p:Prop} [Decidable p] {x:Nat × Nat} {v:Option (Nat × Nat)},(if p then some x else v)=some (a,b)->x=(a,b)\/v=some (a,b):=fun {p} _ {x v} h=>by
  split at h
  . exact .inl (Option.some.inj h)
  . exact .inr h
 unfold Qy at h
 iterate 18
  rcases go h with h1 | h
  . cases h1;decide
 cases h
theorem w_add (nm:Nm→Bool) {cs:List Ev} (h:HisW te lo H hb es cs r V vE vC) (J:Pos.JOk nm ⟨cs,r⟩) {e:Ev} (hw:YU nm ⟨cs,r⟩ es.length e=0) (hle:es.length+1≤1000) :
 ∃ w H',R PT (.call lo 106 [.ptr hb 0,.agg e.row] H)=some (.ofVal w H') ∧ ∃ vE' vC' V',HisW te lo H' hb (es++[e]) (YP ⟨cs,r⟩ e).cs (YP ⟨cs,r⟩ e).reg V' vE' vC'∧Chg lo hb QB H H':=by
 have J':=Ud nm J hw;have h1:Y1 nm e=0:=by
  unfold YU at hw;split at hw
  · rename_i h;exact absurd hw h
  · rename_i h;simpa using h
 have hacc:XV ⟨cs,r⟩ es.length e=0:=by
  unfold YU at hw;rw [if_neg (by simpa using h1)] at hw;exact hw
 by_cases hk:e.kind=ZJ
 · have he:=Pos.Iq nm h1 hk;generalize e.num=num at he;subst he;unfold XV at hacc;by_cases hnum:num ≠ (es.length:Int)+1
   · rw [if_pos hnum] at hacc;cases hacc
   rw [if_neg hnum,if_pos rfl] at hacc;rcases eq_nil_or_concat cs with rfl | ⟨ds,l,rfl⟩
   · cases hacc
   rw [concat_eq_append] at *;have hadd:YP ⟨ds++[l],r⟩ ⟨num,ZJ,[],[],[]⟩=⟨ds,Jp ds⟩:=by
    unfold YP;rw [if_pos rfl];simp
   rw [hadd] at J' ⊢;exact Zah nm h rfl J'.run J'.chk hle
 · obtain ⟨tk,a,ha,hev,h0,h9⟩:=Pos.Un nm h1 hk;obtain ⟨kind,names,vs,hp⟩:=Pos.Ix e.num tk a;have hok:Pos.okA r tk a=0:=by
    unfold XV at hacc;by_cases hnum:e.num ≠ (es.length:Int)+1
    · rw [if_pos hnum] at hacc;cases hacc
    rw [if_neg hnum,if_neg hk] at hacc;simpa only [ha] using hacc
   obtain ⟨I,S⟩:=Gg nm J;have hA:=fun n=>Iw I S (num:=e.num) hok n
   have hadd:YP ⟨cs,r⟩ e=⟨cs++[e],Pos.doA r tk a⟩:=by
    unfold YP;rw [if_neg hk];unfold Pos.doE;simp only [ha]
   obtain ⟨a1,a2,hf,hl1,hl2,_⟩:=KF nm h1;rw [hadd];rw [hp] at hev;simp only [hp] at hA;have hnn:e.names.length≤Z2∧e.vals.length≤Z2:=by
    have:=Zai hf;unfold Z2;omega
   generalize e.num=num at hev hA;subst hev;exact Zaf h hk hA hnn hle
end Go.Sim

namespace Go.Sim
def EvS (e:Ev):Prop:=e.names.length<=Z2/\e.vals.length<=Z2
theorem Zaj (nm:Nm->Bool) (j:Pos.Jn) (n:Nat) (e:Ev) (l:List Ev):ZE nm j n (e::l)=if YU nm j n e ≠ 0 then (j,n+1,YU nm j n e) else ZE nm (YP j e) (n+1) l:=rfl
theorem en74:Q6 74:=Qm
theorem Zak {v:AV} (hs:Sl H v 5 53 (l.map Pos.Ev.row)) (hl:l.length≤1000) (hsm:∀ e ∈ l,EvS e) :
 ∃ w H',R PT (.call H.n 74 [v] H)=some (.ofVal w H')∧w=.tup [.ptr H.n 0,.int .i64 (ZE Z7 Pos.zJn 0 l).2.1,.int .i64 (ZE Z7 Pos.zJn 0 l).2.2]∧Old H.n H H' ∧
   ∃ es V vE vC,HisW 170 H.n H' H.n es (ZE Z7 Pos.zJn 0 l).1.cs (ZE Z7 Pos.zJn 0 l).1.reg V vE vC∧Pos.JOk Z7 (ZE Z7 Pos.zJn 0 l).1∧((ZE Z7 Pos.zJn 0 l).2.2=0→es=l):=by
 have hJz:=Ue Z7 (l:=l) (n:=0) (Vk Z7);generalize hq:ZE Z7 Pos.zJn 0 l=q at hJz ⊢;refine Zd (C:=PT) (f:=74) (lo:=H.n) (args:=[v]) (H:=H) (fn:=Tryz.f74) (Q:=fun w H'=>w=.tup [.ptr H.n 0,.int .i64 q.2.1,.int .i64 q.2.2]∧Old H.n H H' ∧ ∃ es V vE vC,HisW 170 H.n H' H.n es q.1.cs q.1.reg V vE vC∧Pos.JOk Z7 q.1∧(q.2.2=0→es=l)) (by kernel_rfl) Tryz.func74 rfl rfl ?_;have hlen:=fun H'=>hs.len (t:=22) (by kernel_rfl) H'
 simp only [length_map] at hlen;have hl1:((1000:Int) < (l.length:Int))=False:=eq_false (by omega);simp (maxDischargeDepth:=12) only [go_sem,reduceEqDiff,reduceCtorEq,hlen,hl1];refine ZP (fun k T Hc M=>M=[]∧Z1 T 5=.ptr H.n 0∧Z1 T 15=v∧Z1 T 16=i64 (l.length:Nat)∧Z1 T 17=i64 k∧Old H.n H Hc ∧ ∃ j V vE vC,HisW 170 H.n Hc H.n (l.take k) j.cs j.reg V vE vC∧Pos.JOk Z7 j∧ZE Z7 j k (l.drop k)=q) l.length ?_ ?_ ?_
 · simp (maxDischargeDepth:=12) only [go_sem,reduceEqDiff,reduceCtorEq];refine ⟨Pos.zJn,V0,.ps .nil [],.ps .nil [],⟨Iz (by simp) (Nat.le_refl _) (by rw [Heap.get_push,if_pos rfl];rfl),⟨.inl ⟨rfl,rfl⟩,fun i a b c d h=>by cases h⟩,⟨.inl ⟨rfl,rfl⟩,fun i a b c d h=>by cases h⟩,fun i j a b c d a' b' c' d' h1=>by (cases h1),zero_le _,zero_le _⟩,Vk Z7,hq⟩
 · rintro k T Hc M hk ⟨rfl,g5,g15,g16,g17,hO,j,V,vE,vC,hW,J,hrep⟩;obtain ⟨e,he⟩:∃ e,l[k]? = some e:=⟨l[k],by simp⟩;have hw:=ZQ hk (by unfold Z2;omega:l.length≤Z2);have hi:=hs.idx (t:=22) (by kernel_rfl) (by kernel_rfl) (ZD (by intro x;rfl) l) (by rw [length_map];exact hk) .i64;have hd:=hs.ld (by kernel_rfl) (by kernel_rfl) (ZD (by intro x;rfl) l) (Zy he) hO;have hes:=hsm e (mem_of_getElem? he);have hHn:H.n < Hc.n:=hW.reg.bn;have hkc:=eq_true hk;have hle:=eq_true hO.1;obtain ⟨H1,hH1⟩:∃ H1,H1=(Hc.push (.cells [.int .i64 0,.str [],.ps .nil [],.ps .nil [],.str []] 53)).set Hc.n (.cells e.row 53):=⟨_,rfl⟩;have hn1:H1.n=Hc.n+1:=by rw [hH1];simp
   have hO1:Old Hc.n Hc H1:=by rw [hH1];exact (Old.refl Hc).new _ _
   have hg1:H1.get Hc.n=.cells e.row 53:=by rw [hH1,Heap.get_set,if_pos rfl]
   have hO1':Old H.n H H1:=hO.trans ⟨by omega,fun i hi=>hO1.2 i (by omega)⟩;have hW1:=hW.old hO1;have hck:=pe57 e hes;rw [Vl he,Zaj] at hrep;have htk:(l.take k).length=k:=by rw [length_take];omega
   have hst1:sst H.n (Hc.push (.cells [.int .i64 0,.str [],.ps .nil [],.ps .nil [],.str []] 53)) 53 (.ptr Hc.n 0) (.agg e.row)=some H1:=by
    simp (maxDischargeDepth:=12) only [go_sem,reduceAdd,Pos.Ev.row,hle,hH1]
   have hld1:sld H1 53 (.ptr Hc.n 0)=some (.agg e.row):=by
    simp (maxDischargeDepth:=12) only [go_sem,reduceAdd,Pos.Ev.row,hg1]
   have hsr:List.map AV.strip0 e.row=e.row:=rfl;have q1:(Hc.n < H1.n)=True:=eq_true (by omega);by_cases c1:Y1 Z7 e=0
   · have hwr:YU Z7 j k e=XV j k e:=by
      unfold YU;rw [if_neg (by simpa using c1)]
     rw [hwr] at hrep;have hacc:=fun lo K=>Z9l Z7 (e:=e) hW1.is (Gg Z7 J).2 c1 (Old.refl H1) (lo:=lo) (K:=K)
     rw [htk] at hacc;by_cases c2:XV j k e=0
     · rw [if_neg (by simpa using c2)] at hrep;obtain ⟨w,H2,hadd,vE',vC',V',hW2,hch⟩:=w_add Z7 hW1 J (e:=e) (by rw [htk,hwr];exact c2) (by rw [htk];omega);have hadd':=fun K=>Xs (K:=K) (en106 rfl) hadd
       have J2:=Ud Z7 J (n:=k) (e:=e) (by rw [hwr];exact c2);simp (maxDischargeDepth:=12) only [go_sem,reduceEqDiff,g5,g15,g16,g17,hkc,hw,hi,hd,hst1,hld1,hsr,hck,c1,hacc,c2,hadd'];have ht:l.take (k+1)=l.take k++[e]:=by rw [take_add_one,he];rfl
       rw [ht];exact ⟨hO1'.trans (hch.old (by omega)),_,V',vE',vC',hW2,J2,hrep⟩
     · rw [if_pos (by simpa using c2)] at hrep;subst hrep;simp (maxDischargeDepth:=12) only [go_sem,reduceEqDiff,reduceCtorEq,g5,g15,g16,g17,hkc,hw,hi,hd,hst1,hld1,hsr,hck,c1,hacc,c2];exact ⟨hO1',l.take k,V,vE,vC,hW1,J,fun h=>h.elim⟩
   · have hwr:YU Z7 j k e=Y1 Z7 e:=by
      unfold YU;rw [if_pos (by simpa using c1)]
     rw [hwr,if_pos (by simpa using c1)] at hrep;subst hrep;simp (maxDischargeDepth:=12) only [go_sem,reduceEqDiff,reduceCtorEq,g5,g15,g16,g17,hkc,hw,hi,hd,hst1,hld1,hsr,hck,c1];exact ⟨hO1',l.take k,V,vE,vC,hW1,J,fun h=>h.elim⟩
 · rintro T Hc M ⟨rfl,g5,g15,g16,g17,hO,j,V,vE,vC,hW,J,hrep⟩;rw [drop_length] at hrep;rw [take_length] at hW;subst hrep;have hlt:(l.length < l.length)=False:=eq_false (Nat.lt_irrefl _);simp (maxDischargeDepth:=12) only [go_sem,reduceEqDiff,reduceCtorEq,g5,g16,g17,hlt];exact ⟨rfl,hO,l,V,vE,vC,hW,J,fun _=>rfl⟩
theorem CI {m:List Ev}:(l.map Pos.Ev.row=m.map Pos.Ev.row)=(l=m):=propext ⟨Jq (fun a b h=>by rw [Pos.Ev.row_inj] at h;exact h),fun h=>by rw [h]⟩
theorem en73:Q6 73:=Qm
theorem CJ (hl:l.length<=1000) (hsm:∀ e ∈ l,EvS e) (c:Int) (s:Nm) :
 ∃ w H2,R PT (.call H.n 73 [.ps .unk (l.map Pos.Ev.row),.int .u8 c,.str s] H)=some (.ofVal w H2)/\Old H.n H H2 /\
   ((ZE Z7 Pos.zJn 0 l).2.2 ≠ 0->w=.tup [.nilp,.int .i64 (ZE Z7 Pos.zJn 0 l).2.2]) /\
   ((ZE Z7 Pos.zJn 0 l).2.2=0->w=.tup [.ptr H.n 2,.int .i64 (Z5 (!decide (s ∈ Y3 (ZE Z7 Pos.zJn 0 l).1.reg c)) 10)] /\ ∃ V,RegIs H2 H.n 2 (ZE Z7 Pos.zJn 0 l).1.reg V)/\Pos.JOk Z7 (ZE Z7 Pos.zJn 0 l).1:=by
 have hJz:=Ue Z7 (l:=l) (n:=0) (Vk Z7);obtain ⟨w,H2,hr,rfl,hO,es,V,vE,vC,hW,J,hes⟩:=Zak (H:=H) (v:=.ps .unk (l.map Pos.Ev.row)) (l:=l) (.inl ⟨_,rfl,rfl⟩) hl hsm;have hrep:=fun lo K=>QA (K:=K) (en74 (lo:=lo) rfl) hr
 generalize hq:ZE Z7 Pos.zJn 0 l=q at *;obtain ⟨w,H3,h1,h2,h3,h4⟩:=Zd (C:=PT) (f:=73) (lo:=H.n) (args:=[.ps .unk (l.map Pos.Ev.row),.int .u8 c,.str s]) (H:=H) (fn:=Tryz.f73) (Q:=fun w H2=>Old H.n H H2/\(q.2.2 ≠ 0->w=.tup [.nilp,.int .i64 q.2.2])/\(q.2.2=0->w=.tup [.ptr H.n 2,.int .i64 (Z5 (!decide (s ∈ Y3 q.1.reg c)) 10)] /\ ∃ V,RegIs H2 H.n 2 q.1.reg V)) (by kernel_rfl) Tryz.func73 rfl rfl (by
  by_cases c1:q.2.2=0
  . have hna:=fun lo K=>Um hW.reg.is c (Old.refl H2) (lo:=lo) (K:=K)
    simp only [length_cons,length_nil,zero_add,reduceAdd] at hna;have hlen:=Im (r:=q.1.reg) c hW.reg.lT hW.reg.lF hW.reg.lR hW.reg.lP hW.reg.lM;have hpc:=HJ (Y3 q.1.reg c) s hlen;have hbn:(H.n < H2.n)=True:=eq_true hW.reg.bn;simp (maxDischargeDepth:=12) only [go_sem,reduceEqDiff,reduceAdd,reduceSub,reduceCtorEq,hrep,c1,hna,hpc,hbn];exact ⟨hO,fun h=>absurd rfl h,fun _=>⟨V,hW.reg.is⟩⟩
  . simp (maxDischargeDepth:=12) only [go_sem,reduceEqDiff,reduceAdd,reduceCtorEq,hrep,c1];exact ⟨hO,fun _=>trivial,fun h=>h.elim⟩)
 exact ⟨w,H3,h1,h2,h3,h4,hJz⟩
end Go.Sim
