/-
Lemmas of one proof, the texts Rc17 to Lw5 joined.
-/
import Derived.Test.YtlooccmcmeofhaaGreatDoorT22
set_option linter.unusedSimpArgs false
set_option linter.unusedVariables false
open Nat (reduceEqDiff reduceAdd reduceMul reduceSub reduceLeDiff reduceLT)
set_option maxRecDepth 100000
set_option maxHeartbeats 32000000
noncomputable section
open Go Go.Proofs
open Bool (and_eq_true false_eq_true)
open Int (cast_ofNat_Int)
open List (all_eq_true any_cons any_nil append_assoc append_nil cons_append dropLast_eq_take drop_length find?_some getElem?_map getLast?_eq_getElem? getLast?_eq_none_iff length_append length_cons length_dropLast length_filter_le length_map length_nil length_pos_iff length_set length_take map_append map_cons map_eq_nil_iff map_map map_nil map_set map_take mem_map mem_of_find?_eq_some nil_append take_length zip_cons_cons zip_nil_right)
open Nat (le_add_right le_succ lt_of_lt_of_le lt_succ_self succ_pos zero_le)
open Option (isSome_iff_exists)
open Go.Sim.Pos (C8 C9 CG CK Ev Flt Gg Ip J1 J5 Jn Jp KF KG Len Mch Nm Pos Qz Reg Trk Trn Ud Ue Uf Un Vk XU XV Xc Xf Xg Xp Y1 Y7 YE YP YQ YU Yb Yc Yt Yz Z4s Z4t ZE ZJ ZM ZS ZT ZZ Zl Zw Zx doA okA)
variable {H H2:Go.Sim.Heap} {L:Go.Sim.RegL} {P:Go.Sim.PF} {e:Go.Sim.Pos.Ev} {id k:Nat} {l:List Go.Sim.Pos.Ev} {num tk v0:Int} {p:Go.Sim.Pos.Nm} {r:Go.Sim.Pos.Reg} {z:List Go.Sim.AV}

namespace Go.Sim
def JN (H:Heap) (reg ev z c d:List AV):Heap:=((((Zj H reg ev z).push (.cells [.str [],.str [],.int .i64 0,.int .i64 0,.int .i64 0,.bool false,.bool false] 114)).push (.cells [.str [],.str [],.int .i64 0,.int .i64 0,.bool false,.bool false,.bool false,.int .i64 0,.int .i64 0,.int .i64 0] 76)).set (H.n+1+1+1) (.cells c 114)).set (H.n+1+1+1+1) (.cells d 76)
theorem Uv (H:Heap) (reg ev z c d:List AV) (te:Nat):Keep H (JN H reg ev z c d) te :=
 ((((Yu H reg ev z te).push _).push _).set (by omega) (by rw [Heap.get_push,if_neg (by rw [JY,XF];omega),Heap.get_push];exact if_pos rfl) _).set (by omega) (by rw [Heap.get_set,if_neg (by omega),Heap.get_push];exact if_pos rfl) _
theorem GE (H:Heap) (reg ev z c d:List AV):(JN H reg ev z c d).get (H.n+1+1)=.cells z 34:=by
 unfold JN;rw [Heap.get_set,if_neg (by omega),Heap.get_set,if_neg (by omega),Heap.get_push,if_neg (by rw [JY,XF];omega),Heap.get_push,if_neg (by rw [XF];omega)];exact JA _ _ _ _
theorem La {reg ev c d:List AV} {b:ABlk} (hid:id < H.n) (hg:H.get id=b):(JN H reg ev z c d).get id=b:=by
 unfold JN Zj;rw [Heap.get_set,if_neg (by omega),Heap.get_set,if_neg (by omega),Heap.get_push,if_neg (by simp;omega),Heap.get_push,if_neg (by simp;omega),Heap.get_push,if_neg (by simp;omega),Heap.get_push,if_neg (by simp;omega),Heap.get_push,if_neg (by omega)];exact hg
theorem okFl {HW:Heap} {vT vR vP vM:AV} {a:Pos.Act} {i:Nat} {FL row' u:List AV} {t:TypeId} (hL:LstIs H ⟨vT,.rs id 0 r.faults.length 7 none,vR,vP,vM⟩ r) (hg:HW.get id=.row FL 7 114) (hid:id < H.n) (hi:i < r.faults.length) (e:(doA r r.tick a).faults.map Pos.Flt.row=(r.faults.map Pos.Flt.row).set i row') (ho:(doA r r.tick a).tracks=r.tracks/\(doA r r.tick a).poss=r.poss/\(doA r r.tick a).trains=r.trains/\(doA r r.tick a).machs=r.machs) (kW:Keep H HW 114) (hz:HW.get (H.n+1+1)=.cells z t) :
 Y2 H r a 0 tk (.tup [.agg [.int .i64 tk,vT,.rs id 0 r.faults.length 7 none,vR,vP,vM],.int .i64 0]) ((HW.set id (.row ((r.faults.map Pos.Flt.row).set i row').flatten 7 114)).set (H.n+1+1) (.cells u 34)):=by
 have kf:=(kW.setRow hg (.row ((r.faults.map Pos.Flt.row).set i row').flatten 7 114)).set (i:=H.n+1+1) (by omega) (by rw [Heap.get_set,if_neg (by omega)];exact hz) (.cells u 34);refine ⟨⟨(⟨vT,.rs id 0 r.faults.length 7 none,vR,vP,vM⟩:RegL),rfl, ?_⟩,kf.le,kf.cells⟩;rw [if_pos rfl];obtain ⟨o1,o2,o3,o4⟩:=ho;refine ⟨by rw [o1];exact kf.sl (by decide) hL.lT, ?_,by rw [o3];exact kf.sl (by decide) hL.lR,by rw [o2];exact kf.sl (by decide) hL.lP,by rw [o4];exact kf.sl (by decide) hL.lM⟩;rw [e];refine .inr ⟨id, ?_,by rw [length_set,length_map],by rw [Qx,Qx];have:=kW.le;omega, ?_⟩
 . intro h;have:=congrArg List.length h;rw [length_set,length_map,length_nil] at this;omega
 . rw [Heap.get_set,if_neg (by omega),Heap.get_set,if_pos rfl]
theorem ZbR {f:Nm} (hL:LstIs H L r) (hl:ZH r) (hu:Zw (·.name) r.faults) {y:Flt} (hy:r.fault? f=some y) {q:Pos} (hq:r.poss? p=some q) (htk:¬ v0 < r.tick) :
 ∃ w H2,R PV (.call 0 277 [.agg (L.row tk),.agg (Ev.row ⟨num,Yz,[f,p],[v0],[]⟩)] H)=some (.ofVal w H2)∧Y2 H r (Pos.Act.repair f p) (okA r v0 (Pos.Act.repair f p)) tk w H2:=by
 refine Zd (C:=PV) (f:=277) (lo:=0) (args:=[.agg (L.row tk),.agg (Ev.row ⟨num,Yz,[f,p],[v0],[]⟩)]) (H:=H) (fn:=Tryz.f277) (Q:=fun w H2=>Y2 H r (Pos.Act.repair f p) (okA r v0 (Pos.Act.repair f p)) tk w H2) (by kernel_rfl) Tryz.func277 rfl rfl ?_
 have hok:okA r v0 (Pos.Act.repair f p)=if y.rep=true then 23 else if q.ret=true∨q.track ≠ y.track∨y.frm < q.frm∨q.to < y.to then 21 else if q.pers=0∧r.within p=[] then 12 else 0:=by
  unfold okA;rw [if_neg htk];simp only [];rw [hy,hq]
 rw [hok]
 have hK:=hL.keep (Yu H [.int .i64 tk,L.vT,L.vF,L.vR,L.vP,L.vM] [.int .i64 num,.str Yz,.ps .unk [[.str f],[.str p]],.ps .unk [[.int .i64 v0]],.str []] [.int .i64 0,.ps .nil [],.ps .nil [],.ps .nil [],.ps .nil [],.ps .nil []] 0)
 have hA:=Qr hK hl tk (c:=102) (.inr (.inl rfl)) f
 have hB:=Qr hK hl tk (c:=112) (.inr (.inr (.inr (.inl rfl)))) p
 clear hK
 obtain ⟨i,hi1,hi2,hi3⟩:∃ i:Nat,atL (ZO r 102) f=(i:Int)∧r.faults[i]? = some y∧i < r.faults.length:=by
  rcases XX (fun z:Flt=>z.name) f r.faults with ⟨h1,_⟩ | ⟨i,z,h1,h2,h3,h4⟩
  · have h1:r.fault? f=none:=h1
    rw [hy] at h1;cases h1
  · have h1:r.fault? f=some z:=h1
    rw [hy] at h1;cases h1
    exact ⟨i,h2,h3,h4⟩
 obtain ⟨j,hj1,hj2,hj3⟩:∃ i:Nat,atL (ZO r 112) p=(i:Int)∧r.poss[i]? = some q∧i < r.poss.length:=by
  rcases XX (fun z:Pos=>z.name) p r.poss with ⟨h1,_⟩ | ⟨i,z,h1,h2,h3,h4⟩
  · have h1:r.poss? p=none:=h1
    rw [hq] at h1;cases h1
  · have h1:r.poss? p=some z:=h1
    rw [hq] at h1;cases h1
    exact ⟨i,h2,h3,h4⟩
 rw [hi1] at hA
 rw [hj1] at hB
 unfold Zj RegL.row at hA hB
 simp only [map_cons,map_nil,AV.strip0] at hA hB
 have un1:=hL.lT.under (n:=H.n+1+1+1) (by omega)
 have un2:=hL.lF.under (n:=H.n+1+1+1) (by omega)
 have un3:=hL.lR.under (n:=H.n+1+1+1) (by omega)
 have un4:=hL.lP.under (n:=H.n+1+1+1) (by omega)
 have un5:=hL.lM.under (n:=H.n+1+1+1) (by omega)
 have c1:=hL.lT.cells
 have c3:=hL.lR.cells
 have c5:=hL.lM.cells
 have u1:=hL.lT.one
 have u3:=hL.lR.one
 have u5:=hL.lM.one
 simp only [AV.cells] at c1 c3 c5
 simp only [AV.one] at u1 u3 u5
 have b_track:Z6 Yz [116,114,97,99,107]=false:=rfl
 have b_fault:Z6 Yz [102,97,117,108,116]=false:=rfl
 have b_answer:Z6 Yz [97,110,115,119,101,114]=false:=rfl
 have b_repair:Z6 Yz [114,101,112,97,105,114]=true:=rfl
 obtain ⟨id,hv,hid,hg⟩:=hL.lF.blk (by intro e;rw [map_eq_nil_iff] at e;rw [e] at hi3;simp at hi3)
 obtain ⟨jd,hv2,hjd,hg2⟩:=hL.lP.blk (by intro e;rw [map_eq_nil_iff] at e;rw [e] at hj3;simp at hj3)
 rw [length_map] at hv hv2
 have hlen:Len 7 (r.faults.map Pos.Flt.row):=Yi (f:=Pos.Flt.row) (fun _=>rfl) _
 have hlen2:Len 10 (r.poss.map Pos.Pos.row):=Yi (f:=Pos.Pos.row) (fun _=>rfl) _
 have hrow:(r.faults.map Pos.Flt.row)[i]? = some (Pos.Flt.row y):=Zy (f:=Pos.Flt.row) hi2
 have hrow2:(r.poss.map Pos.Pos.row)[j]? = some (Pos.Pos.row q):=Zy (f:=Pos.Pos.row) hj2
 have hat:=Zx hlen hrow
 have hat2:=Zx hlen2 hrow2
 have hfl:=Zl hlen
 have hfl2:=Zl hlen2
 have hF:i * 7+7≤(r.faults.map Pos.Flt.row).flatten.length:=by rw [hfl,length_map];omega
 have hF6:i * 7+6+1≤(r.faults.map Pos.Flt.row).flatten.length:=by rw [hfl,length_map];omega
 have hP:j * 10+10≤(r.poss.map Pos.Pos.row).flatten.length:=by rw [hfl2,length_map];omega
 unfold ZW at hat hat2
 rw [if_pos hF] at hat
 rw [if_pos hP] at hat2
 have tF:=Option.some.inj hat
 have tP:=Option.some.inj hat2
 have hset:=Yt (k:=6) (v:=.bool true) hlen hrow (by decide)
 unfold over at hset
 simp (maxDischargeDepth:=12) only [go_sem] at hset
 have i1:(id=H.n+1+1)=False:=eq_false (by omega)
 have i2:(id=H.n+1)=False:=eq_false (by omega)
 have i3:(id=H.n)=False:=eq_false (by omega)
 have i4:(H.n=id)=False:=eq_false (by omega)
 have i5:(H.n+1+1=id)=False:=eq_false (by omega)
 have i6:(id=H.n+1+1+1)=False:=eq_false (by omega)
 have i7:(id=H.n+1+1+1+1)=False:=eq_false (by omega)
 have j1:(jd=H.n+1+1)=False:=eq_false (by omega)
 have j2:(jd=H.n+1)=False:=eq_false (by omega)
 have j3:(jd=H.n)=False:=eq_false (by omega)
 have j4:(jd=H.n+1+1+1)=False:=eq_false (by omega)
 have j5:(jd=H.n+1+1+1+1)=False:=eq_false (by omega)
 obtain ⟨vT,vF,vR,vP,vM⟩:=L
 simp only at hv hv2
 subst hv hv2
 have hname:y.name=f:=by simpa using find?_some hy
 have hqn:q.name=p:=by simpa using find?_some hq
 have hupd:=Qz (nm:=fun z:Flt=>z.name) (g:=fun z:Flt=>{ z with rep:=true }) hu hi2
 obtain ⟨nm,tr,fa,tb,sp,an,rp⟩:=y
 obtain ⟨qn,qt,qf,qo,rt,pr,op,cl,pe,qs⟩:=q
 simp only [Pos.Flt.row] at tF
 simp only [Pos.Pos.row] at tP
 simp only at hname hqn hupd
 cases rp with
 | true =>
   try simp only []
   simp (maxDischargeDepth:=12) only [go_sem,reduceEqDiff,reduceAdd,reduceSub,reduceLeDiff,Nat.reduceBEq,reduceCtorEq,Pos.Ev.row,RegL.row,Z0,Z3,u1,u3,u5,b_track,b_fault,b_answer,b_repair,un1,un2,un3,un4,un5,hA,hB,hi3,hj3,i1,i2,i3,i6,j1,j2,j3,j4,hg,hg2,hF,hP,tF,tP]
   exact Ki hL (23:Int) (by decide) (Uv _ _ _ _ _ _ _) (GE _ _ _ _ _ _)
 | false =>
 rw [if_neg Bool.false_ne_true]
 have e21:Y2 H r (Pos.Act.repair f p) 21 tk (.tup [.agg [.int .i64 tk,vT,.rs id 0 r.faults.length 7 none,vR,.rs jd 0 r.poss.length 10 none,vM],.int .i64 21]) ((JN H [.int .i64 tk,vT,.rs id 0 r.faults.length 7 none,vR,.rs jd 0 r.poss.length 10 none,vM] [.int .i64 num,.str Yz,.ps .unk [[.str f],[.str p]],.ps .unk [[.int .i64 v0]],.str []] [.int .i64 0,.ps .nil [],.ps .nil [],.ps .nil [],.ps .nil [],.ps .nil []] [.str nm,.str tr,.int .i64 fa,.int .i64 tb,.int .i64 sp,.bool an,.bool false] [.str qn,.str qt,.int .i64 qf,.int .i64 qo,.bool rt,.bool pr,.bool op,.int .i64 cl,.int .i64 pe,.int .i64 qs]).set (H.n+1+1) (.cells [.int .i64 tk,vT,.rs id 0 r.faults.length 7 none,vR,.rs jd 0 r.poss.length 10 none,vM] 34)):=Ki hL (21:Int) (by decide) (Uv _ _ _ _ _ _ _) (GE _ _ _ _ _ _)
 unfold JN Zj at e21
 by_cases k_21:rt=true∨qt ≠ tr∨fa < qf∨qo < tb
 · rw [if_pos k_21]
   cases rt with
   | true =>
     simp (maxDischargeDepth:=12) only [go_sem,reduceEqDiff,reduceAdd,reduceSub,reduceLeDiff,Nat.reduceBEq,reduceCtorEq,Pos.Ev.row,RegL.row,Z0,Z3,u1,u3,u5,b_track,b_fault,b_answer,b_repair,un1,un2,un3,un4,un5,hA,hB,hi3,hj3,i1,i2,i3,i6,j1,j2,j3,j4,hg,hg2,hF,hP,tF,tP]
     exact e21
   | false =>
   by_cases d1:qt=tr
   case neg =>
    have b1:=Yd d1
    simp (maxDischargeDepth:=12) only [go_sem,reduceEqDiff,reduceAdd,reduceSub,reduceLeDiff,Nat.reduceBEq,reduceCtorEq,Pos.Ev.row,RegL.row,Z0,Z3,u1,u3,u5,b_track,b_fault,b_answer,b_repair,un1,un2,un3,un4,un5,hA,hB,hi3,hj3,i1,i2,i3,i6,j1,j2,j3,j4,hg,hg2,hF,hP,tF,tP,b1]
    exact e21
   have b1:=Yh d1
   rcases Classical.propComplete (fa < qf) with q1 | q1
   · simp (maxDischargeDepth:=12) only [go_sem,reduceEqDiff,reduceAdd,reduceSub,reduceLeDiff,Nat.reduceBEq,reduceCtorEq,Pos.Ev.row,RegL.row,Z0,Z3,u1,u3,u5,b_track,b_fault,b_answer,b_repair,un1,un2,un3,un4,un5,hA,hB,hi3,hj3,i1,i2,i3,i6,j1,j2,j3,j4,hg,hg2,hF,hP,tF,tP,b1,q1]
     exact e21
   · have q2:(qo < tb)=True:=eq_true (by
      rcases k_21 with h | h | h | h
      · cases h
      · exact absurd d1 h
      · exact absurd h (of_eq_false q1)
      · exact h)
     simp (maxDischargeDepth:=12) only [go_sem,reduceEqDiff,reduceAdd,reduceSub,reduceLeDiff,Nat.reduceBEq,reduceCtorEq,Pos.Ev.row,RegL.row,Z0,Z3,u1,u3,u5,b_track,b_fault,b_answer,b_repair,un1,un2,un3,un4,un5,hA,hB,hi3,hj3,i1,i2,i3,i6,j1,j2,j3,j4,hg,hg2,hF,hP,tF,tP,b1,q1,q2]
     exact e21
 rw [if_neg k_21]
 have hrt:rt=false:=by
  cases rt with
  | false=>rfl
  | true=>exact absurd (.inl rfl) k_21
 subst hrt
 have b1:=Yh (Decidable.not_not.1 (fun h=>k_21 (.inr (.inl h))):qt=tr)
 have q1:(fa < qf)=False:=eq_false (fun h=>k_21 (.inr (.inr (.inl h))))
 have q2:(qo < tb)=False:=eq_false (fun h=>k_21 (.inr (.inr (.inr h))))
 have e:(doA r r.tick (Pos.Act.repair f p)).faults.map Pos.Flt.row=(r.faults.map Pos.Flt.row).set i [.str nm,.str tr,.int .i64 fa,.int .i64 tb,.int .i64 sp,.bool an,.bool true]:=by
  show (J1 r.faults f fun z=>{ z with rep:=true }).map Pos.Flt.row=_
  unfold J1
  rw [← hname,← hupd,map_set];rfl
 have hsetr:(Pos.Flt.row ⟨nm,tr,fa,tb,sp,an,false⟩).set 6 (.bool true)=[.str nm,.str tr,.int .i64 fa,.int .i64 tb,.int .i64 sp,.bool an,.bool true]:=rfl
 rw [hsetr] at hset
 rcases Classical.propComplete (pe=0) with q3 | q3
 · obtain ⟨mv,H2,hr,⟨mt,rfl,hmA⟩,ho⟩:=CU (tk:=tk) (hL.keep (Uv H [.int .i64 tk,vT,.rs id 0 r.faults.length 7 none,vR,.rs jd 0 r.poss.length 10 none,vM] [.int .i64 num,.str Yz,.ps .unk [[.str f],[.str p]],.ps .unk [[.int .i64 v0]],.str []] [.int .i64 0,.ps .nil [],.ps .nil [],.ps .nil [],.ps .nil [],.ps .nil []] [.str nm,.str tr,.int .i64 fa,.int .i64 tb,.int .i64 sp,.bool an,.bool false] [.str qn,.str qt,.int .i64 qf,.int .i64 qo,.bool false,.bool pr,.bool op,.int .i64 cl,.int .i64 pe,.int .i64 qs] 0)) hl qn
   have hM:=fun K=>GD (K:=K) (lo:=0) CT hr
   have z2:H2.get (H.n+1+1)=.cells [.int .i64 0,.ps .nil [],.ps .nil [],.ps .nil [],.ps .nil [],.ps .nil []] 34:=(ho.2 _ (by show H.n+1+1 < H.n+1+1+1+1+1;omega)).trans (GE _ _ _ _ _ _)
   have gid2:H2.get id=.row (r.faults.map Pos.Flt.row).flatten 7 114:=(ho.2 _ (by show id < H.n+1+1+1+1+1;omega)).trans (La hid hg)
   have g02:H2.get H.n=.cells [.int .i64 tk,vT,.rs id 0 r.faults.length 7 none,vR,.rs jd 0 r.poss.length 10 none,vM] 34:=(ho.2 _ (by show H.n < H.n+1+1+1+1+1;omega)).trans (by unfold JN Zj;simp (maxDischargeDepth:=12) only [go_sem])
   have kW2:∀ te,Keep H H2 te:=fun te=>(Uv H _ _ _ _ _ te).trans (Keep.ofOld ho)
   unfold JN Zj RegL.row at hM
   simp only [map_cons,map_nil,AV.strip0] at hM
   have hwl:(Z0 ((r.within qn).map (·.name))).length=(r.within qn).length:=by rw [Zv,length_map]
   by_cases k_12:r.within p=[]
   · rw [if_pos ⟨of_eq_true q3,k_12⟩]
     have q4:((r.within qn).length:Int)=0:=by rw [hqn,k_12];rfl
     have q5:(((r.within qn).length:Int)=0)=True:=eq_true q4
     simp (maxDischargeDepth:=12) only [go_sem,reduceEqDiff,reduceAdd,reduceSub,reduceLeDiff,Nat.reduceBEq,reduceCtorEq,Pos.Ev.row,RegL.row,Z0,Z3,u1,u3,u5,b_track,b_fault,b_answer,b_repair,un1,un2,un3,un4,un5,hA,hB,hi3,hj3,i1,i2,i3,i6,j1,j2,j3,j4,hg,hg2,hF,hP,tF,tP,b1,q1,q2,q3,hM,q5,z2,g02]
     exact Ki hL (12:Int) (by decide) (kW2 0) z2
   · rw [if_neg (fun h=>k_12 h.2)]
     have q5:(((r.within qn).length:Int)=0)=False:=eq_false (by rw [hqn];have:=length_pos_iff.2 k_12;omega)
     simp (maxDischargeDepth:=12) only [go_sem,reduceEqDiff,reduceAdd,reduceSub,reduceLeDiff,Nat.reduceBEq,reduceCtorEq,Pos.Ev.row,RegL.row,Z0,Z3,u1,u3,u5,b_track,b_fault,b_answer,b_repair,un1,un2,un3,un4,un5,hA,hB,hi3,hj3,i1,i2,i3,i4,i5,i6,j1,j2,j3,j4,hg,hg2,hF,hP,tF,tP,b1,q1,q2,q3,hM,q5,z2,gid2,g02,hset]
     exact okFl hL gid2 hid hi3 e ⟨rfl,rfl,rfl,rfl⟩ (kW2 _) z2
 · rw [if_neg (fun h=>absurd h.1 (of_eq_false q3))]
   simp (maxDischargeDepth:=12) only [go_sem,reduceEqDiff,reduceAdd,reduceSub,reduceLeDiff,Nat.reduceBEq,reduceCtorEq,Pos.Ev.row,RegL.row,Z0,Z3,u1,u3,u5,b_track,b_fault,b_answer,b_repair,un1,un2,un3,un4,un5,hA,hB,hi3,hj3,i1,i2,i3,i4,i5,i6,i7,j1,j2,j3,j4,hg,hg2,hF,hP,tF,tP,b1,q1,q2,q3,hset]
   exact okFl hL (La (c:=[.str nm,.str tr,.int .i64 fa,.int .i64 tb,.int .i64 sp,.bool an,.bool false]) (d:=[.str qn,.str qt,.int .i64 qf,.int .i64 qo,.bool false,.bool pr,.bool op,.int .i64 cl,.int .i64 pe,.int .i64 qs]) hid hg) hid hi3 e ⟨rfl,rfl,rfl,rfl⟩ (Uv _ _ _ _ _ _ _) (GE _ _ _ _ _ _)
theorem ZbS {H':Heap} (kH:Keep H H2 0) (hle:H2.n<=H'.n) (hc:∀ i c t,i < H2.n->H2.get i=.cells c t->H'.get i=.cells c t) (x y:ABlk):H.n<=((H'.set H.n x).set (H.n+1+1) y).n /\ ∀ i c t,i < H.n->H.get i=.cells c t->((H'.set H.n x).set (H.n+1+1) y).get i=.cells c t:=by
 refine ⟨by rw [Qx,Qx];exact Nat.le_trans kH.le hle,fun i c t hi hg => ?_⟩;rw [Heap.get_set,if_neg (by omega),Heap.get_set,if_neg (by omega)];exact hc _ _ _ (lt_of_lt_of_le hi kH.le) (kH.cells _ _ _ hi hg)
theorem ZbT {t:Nm} {a b:Int} (hL:LstIs H L r) (hl:ZH r) (h1:(r.track? t).isSome=true) (h2:r.poss? p=none) (htk:¬ v0 < r.tick) :
 ∃ w H2,R PV (.call 0 277 [.agg (L.row tk),.agg (Ev.row ⟨num,Yc,[p,t],[v0,a,b],[]⟩)] H)=some (.ofVal w H2)∧Y2 H r (Pos.Act.take p t a b) (okA r v0 (Pos.Act.take p t a b)) tk w H2:=by
 refine Zd (C:=PV) (f:=277) (lo:=0) (args:=[.agg (L.row tk),.agg (Ev.row ⟨num,Yc,[p,t],[v0,a,b],[]⟩)]) (H:=H) (fn:=Tryz.f277) (Q:=fun w H2=>Y2 H r (Pos.Act.take p t a b) (okA r v0 (Pos.Act.take p t a b)) tk w H2) (by kernel_rfl) Tryz.func277 rfl rfl ?_
 have hok:okA r v0 (Pos.Act.take p t a b)=if b≤a∨100000000 < b then 14 else if r.manned t=true then 31 else if r.overlaps t a b=true then 15 else if 16≤r.poss.length then 5 else 0:=by
  obtain ⟨y,hy⟩:=isSome_iff_exists.1 h1
  unfold okA;rw [if_neg htk];simp only [];rw [hy,h2];rfl
 rw [hok]
 have c1:=hL.lT.cells
 have c2:=hL.lF.cells
 have c3:=hL.lR.cells
 have c4:=hL.lP.cells
 have c5:=hL.lM.cells
 have u1:=hL.lT.one
 have u2:=hL.lF.one
 have u3:=hL.lR.one
 have u4:=hL.lP.one
 have u5:=hL.lM.one
 have hn3:=hL.lR.len (t:=30) (by kernel_rfl)
 have hn4:=hL.lP.len (t:=31) (by kernel_rfl)
 simp only [AV.cells] at c1 c2 c3 c4 c5
 simp only [AV.one] at u1 u2 u3 u4 u5
 simp only [length_map] at hn3 hn4
 have b_track:Z6 Yc [116,114,97,99,107]=false:=rfl
 have b_fault:Z6 Yc [102,97,117,108,116]=false:=rfl
 have b_answer:Z6 Yc [97,110,115,119,101,114]=false:=rfl
 have b_repair:Z6 Yc [114,101,112,97,105,114]=false:=rfl
 have b_enter:Z6 Yc [101,110,116,101,114]=false:=rfl
 have b_leave:Z6 Yc [108,101,97,118,101]=false:=rfl
 obtain ⟨vT,vF,vR,vP,vM⟩:=L
 have kT:Keep H (((Zj H [.int .i64 tk,vT,vF,vR,vP,vM] [.int .i64 num,.str Yc,.ps .unk [[.str p],[.str t]],.ps .unk [[.int .i64 v0],[.int .i64 a],[.int .i64 b]],.str []] [.int .i64 0,.ps .nil [],.ps .nil [],.ps .nil [],.ps .nil [],.ps .nil []]).push (.cells [.int .i64 0,.int .i64 0] 57)).set (H.n+1+1+1) (.cells [.int .i64 a,.int .i64 b] 57)) 0:=((Yu _ _ _ _ _).push _).set (by omega) (by rw [Heap.get_push];exact if_pos rfl) _
 have zT:(((Zj H [.int .i64 tk,vT,vF,vR,vP,vM] [.int .i64 num,.str Yc,.ps .unk [[.str p],[.str t]],.ps .unk [[.int .i64 v0],[.int .i64 a],[.int .i64 b]],.str []] [.int .i64 0,.ps .nil [],.ps .nil [],.ps .nil [],.ps .nil [],.ps .nil []]).push (.cells [.int .i64 0,.int .i64 0] 57)).set (H.n+1+1+1) (.cells [.int .i64 a,.int .i64 b] 57)).get (H.n+1+1)=.cells [.int .i64 0,.ps .nil [],.ps .nil [],.ps .nil [],.ps .nil [],.ps .nil []] 34:=by
  rw [Heap.get_set,if_neg (by omega),Heap.get_push,if_neg (by rw [XF];omega)]
  exact JA _ _ _ _
 by_cases k_14:b≤a∨100000000 < b
 · rw [if_pos k_14]
   have e14:=Ki (a:=Pos.Act.take p t a b) (tk:=tk) (u:=[.int .i64 tk,vT,vF,vR,vP,vM]) hL (14:Int) (by decide) kT zT
   unfold Zj at e14
   rcases Classical.propComplete (a < b) with q1 | q1
   · have q2:(100000000 < b)=True:=eq_true (by have:=of_eq_true q1;omega)
     simp (maxDischargeDepth:=12) only [go_sem,reduceEqDiff,reduceAdd,reduceSub,reduceLeDiff,reduceCtorEq,Pos.Ev.row,RegL.row,Z0,Z3,u1,u2,u3,u4,u5,b_track,b_fault,b_answer,b_repair,b_enter,b_leave,q1,q2]
     exact e14
   · simp (maxDischargeDepth:=12) only [go_sem,reduceEqDiff,reduceAdd,reduceSub,reduceLeDiff,reduceCtorEq,Pos.Ev.row,RegL.row,Z0,Z3,u1,u2,u3,u4,u5,b_track,b_fault,b_answer,b_repair,b_enter,b_leave,q1]
     exact e14
 rw [if_neg k_14]
 have q1:(a < b)=True:=eq_true (by omega)
 have q2:(100000000 < b)=False:=eq_false (by omega)
 simp (maxDischargeDepth:=12) only [go_sem,reduceEqDiff,reduceAdd,reduceSub,reduceLeDiff,reduceCtorEq,Pos.Ev.row,RegL.row,Z0,Z3,u1,u2,u3,u4,u5,b_track,b_fault,b_answer,b_repair,b_enter,b_leave,q1,q2]
 have kTg:=kT
 clear hok h1 h2 htk b_track b_fault b_answer b_repair b_enter b_leave
 refine ZP (fun k T H2 M=>M=[]∧Z1 T 2=.ptr H.n 0∧Z1 T 3=.ptr (H.n+1) 0∧Z1 T 4=.ptr (H.n+1+1) 0∧Z1 T 13=.ptr (H.n+1+1+1) 0∧Z1 T 14=i64 k∧Keep H H2 0∧H.n+4≤H2.n∧H2.get H.n=.cells [.int .i64 tk,vT,vF,vR,vP,vM] 34∧H2.get (H.n+1)=.cells [.int .i64 num,.str Yc,.ps .unk [[.str p],[.str t]],.ps .unk [[.int .i64 v0],[.int .i64 a],[.int .i64 b]],.str []] 53∧H2.get (H.n+1+1)=.cells [.int .i64 0,.ps .nil [],.ps .nil [],.ps .nil [],.ps .nil [],.ps .nil []] 34∧H2.get (H.n+1+1+1)=.cells [.int .i64 a,.int .i64 b] 57∧(r.trains.take k).any (fun x=>decide (x.track=t))=false) r.trains.length ?_ ?_ ?_
 · simp (maxDischargeDepth:=12) only [go_sem,reduceEqDiff,reduceCtorEq]
   unfold Zj at kT
   exact kT
 · rintro k T H2 M hk ⟨rfl,t2,t3,t4,t13,t14,kH,hn,g0,g1,g2,g3,ha⟩
   obtain ⟨y,hy⟩:∃ y,r.trains[k]? = some y:=⟨r.trains[k],by simp⟩
   have e1:=Vw (p:=fun x:Trn=>decide (x.track=t)) hy
   rw [ha,Bool.false_or] at e1
   have e2:=fun h=>Vx (p:=fun x:Trn=>decide (x.track=t)) hy h
   try simp only at e1 e2
   have hw:=ZQ hk (by have:=hl.2.2.1;unfold Z2;omega)
   obtain ⟨id,hv,hid,hg⟩:=(kH.sl (by decide) hL.lR).blk (by intro e;rw [map_eq_nil_iff] at e;rw [e] at hk;simp at hk)
   rw [length_map] at hv
   have hlen:Len 3 (r.trains.map Pos.Trn.row):=Yi (f:=Pos.Trn.row) (fun _=>rfl) _
   have hrow:(r.trains.map Pos.Trn.row)[k]? = some (Pos.Trn.row y):=Zy (f:=Pos.Trn.row) hy
   have hc1:=Xg (k:=1) (v:=.str y.track) hlen hrow rfl
   have hfl:=Zl hlen
   rw [length_map] at hfl
   have hF:k * 3+1+1≤(r.trains.map Pos.Trn.row).flatten.length:=by omega
   unfold ZW at hc1
   rw [if_pos hF] at hc1
   have tC:=Option.some.inj hc1
   have e31:=Ki (a:=Pos.Act.take p t a b) (tk:=tk) (u:=[.int .i64 tk,vT,vF,vR,vP,vM]) hL (31:Int) (by decide) kH g2
   simp only at hv
   subst hv
   by_cases d1:y.track=t
   · have b1:=Yh d1
     have hm:r.manned t=true:=e2 (decide_eq_true d1)
     rw [if_pos hm]
     simp (maxDischargeDepth:=12) only [go_sem,reduceEqDiff,reduceAdd,reduceSub,reduceLeDiff,reduceCtorEq,u1,u2,u4,u5,hn3,t2,t3,t4,g0,g1,g2,t14,hk,hg,hF,tC,b1]
     exact e31
   · have b1:=Yd d1
     rw [decide_eq_false d1] at e1
     simp (maxDischargeDepth:=12) only [go_sem,reduceEqDiff,reduceAdd,reduceSub,reduceLeDiff,hn3,t2,t3,t4,t13,g0,g1,g2,g3,t14,hk,hg,hF,tC,b1,hw]
     exact ⟨kH,hn,e1⟩
 · rintro T H2 M ⟨rfl,t2,t3,t4,t13,t14,kH,hn,g0,g1,g2,g3,ha⟩
   rw [take_length] at ha
   have hm:r.manned t=false:=ha
   rw [hm,if_neg Bool.false_ne_true]
   simp (maxDischargeDepth:=12) only [go_sem,reduceEqDiff,reduceAdd,reduceLeDiff,reduceCtorEq,u1,u2,u3,u4,u5,hn3,t2,t4,g0,g2,t14,Nat.lt_irrefl]
   clear kT kTg zT
   refine ZP (fun k T H2 M=>M=[]∧Z1 T 2=.ptr H.n 0∧Z1 T 3=.ptr (H.n+1) 0∧Z1 T 4=.ptr (H.n+1+1) 0∧Z1 T 13=.ptr (H.n+1+1+1) 0∧Z1 T 15=i64 k∧Keep H H2 0∧H.n+4≤H2.n∧H2.get H.n=.cells [.int .i64 tk,vT,vF,vR,vP,vM] 34∧H2.get (H.n+1)=.cells [.int .i64 num,.str Yc,.ps .unk [[.str p],[.str t]],.ps .unk [[.int .i64 v0],[.int .i64 a],[.int .i64 b]],.str []] 53∧H2.get (H.n+1+1)=.cells [.int .i64 0,.ps .nil [],.ps .nil [],.ps .nil [],.ps .nil [],.ps .nil []] 34∧H2.get (H.n+1+1+1)=.cells [.int .i64 a,.int .i64 b] 57∧(r.poss.take k).any (fun x=>(decide (x.track=t) && !x.ret) && Pos.over x.frm x.to a b)=false) r.poss.length ?_ ?_ ?_
   · simp (maxDischargeDepth:=12) only [go_sem,reduceEqDiff,t2,t3,t4,t13,g0,g1,g2,g3]
     exact ⟨kH,hn⟩
   · clear t2 t3 t4 t13 t14 kH hn g0 g1 g2 g3 ha
     rintro k T H2 M hk ⟨rfl,t2,t3,t4,t13,t15,kH,hn,g0,g1,g2,g3,ha⟩
     obtain ⟨y,hy⟩:∃ y,r.poss[k]? = some y:=⟨r.poss[k],by simp⟩
     have e1:=Vw (p:=fun x:Pos=>(decide (x.track=t) && !x.ret) && Pos.over x.frm x.to a b) hy
     rw [ha,Bool.false_or] at e1
     have e2:=fun h=>Vx (p:=fun x:Pos=>(decide (x.track=t) && !x.ret) && Pos.over x.frm x.to a b) hy h
     try simp only at e1 e2
     have hw:=ZQ hk (by have:=hl.2.2.2.1;unfold Z2;omega)
     obtain ⟨id,hv,hid,hg⟩:=(kH.sl (by decide) hL.lP).blk (by intro e;rw [map_eq_nil_iff] at e;rw [e] at hk;simp at hk)
     rw [length_map] at hv
     have hlen:Len 10 (r.poss.map Pos.Pos.row):=Yi (f:=Pos.Pos.row) (fun _=>rfl) _
     have hrow:(r.poss.map Pos.Pos.row)[k]? = some (Pos.Pos.row y):=Zy (f:=Pos.Pos.row) hy
     have hat:=Zx hlen hrow
     have hfl:=Zl hlen
     rw [length_map] at hfl
     have hF:k * 10+10≤(r.poss.map Pos.Pos.row).flatten.length:=by omega
     unfold ZW at hat
     rw [if_pos hF] at hat
     have tP:=Option.some.inj hat
     simp only at hv
     subst hv
     obtain ⟨qn,qt,qf,qo,rt,pr,op,cl,pe,qs⟩:=y
     simp only [Pos.Pos.row] at tP
     simp only at e1 e2
     have i1:(id=H2.n)=False:=eq_false (by omega)
     have i2:(H2.n=H.n)=False:=eq_false (by omega)
     have i3:(H2.n=H.n+1)=False:=eq_false (by omega)
     have i4:(H2.n=H.n+1+1)=False:=eq_false (by omega)
     have i5:(H2.n=H.n+1+1+1)=False:=eq_false (by omega)
     have i6:(H.n=H2.n)=False:=eq_false (by omega)
     have i7:(H.n+1=H2.n)=False:=eq_false (by omega)
     have i8:(H.n+1+1=H2.n)=False:=eq_false (by omega)
     have i9:(H.n+1+1+1=H2.n)=False:=eq_false (by omega)
     have kP:∀ c:List AV,Keep H ((H2.push (.cells c 76)).set H2.n (.cells [.str qn,.str qt,.int .i64 qf,.int .i64 qo,.bool rt,.bool pr,.bool op,.int .i64 cl,.int .i64 pe,.int .i64 qs] 76)) 0:=fun c=>(kH.push _).set (by omega) (by rw [Heap.get_push];exact if_pos rfl) _
     have gP:∀ (c:List AV) (i:Nat) (x:ABlk),i < H2.n→H2.get i=x→((H2.push (.cells c 76)).set H2.n (.cells [.str qn,.str qt,.int .i64 qf,.int .i64 qo,.bool rt,.bool pr,.bool op,.int .i64 cl,.int .i64 pe,.int .i64 qs] 76)).get i=x:=fun c i x hi hx=>by
      rw [Heap.get_set,if_neg (by omega),Heap.get_push,if_neg (by omega)];exact hx
     have e15:=fun c:List AV=>Ki (a:=Pos.Act.take p t a b) (tk:=tk) (u:=[.int .i64 tk,vT,vF,vR,.rs id 0 r.poss.length 10 none,vM]) hL (15:Int) (by decide) (kP c) (gP c _ _ (by omega) g2)
     simp only [] at c1 c2 c3 c4 c5
     cases rt with
     | true =>
       simp only [Bool.not_true,Bool.and_false,Bool.false_and] at e1
       simp (maxDischargeDepth:=12) only [go_sem,reduceEqDiff,reduceAdd,reduceSub,reduceLeDiff,hn4,t2,t3,t4,t13,g0,g1,g2,g3,t15,hk,hg,hF,tP,hw,i6,i7,i8,i9]
       exact ⟨kP _,by omega,e1⟩
     | false =>
       by_cases d1:qt=t
       case neg =>
        have b1:=Yd d1
        rw [decide_eq_false d1] at e1
        simp only [Bool.false_and] at e1
        simp (maxDischargeDepth:=12) only [go_sem,reduceEqDiff,reduceAdd,reduceSub,reduceLeDiff,reduceCtorEq,hn4,t2,t3,t4,t13,g0,g1,g2,g3,t15,hk,hg,hF,tP,hw,i6,i7,i8,i9,b1]
        exact ⟨kP _,by omega,e1⟩
       have b1:=Yh d1
       rw [decide_eq_true d1] at e1 e2
       unfold Pos.over at e1 e2
       simp only [Bool.not_false,Bool.and_true,Bool.true_and] at e1 e2
       rcases Classical.propComplete (qf < b) with q1 | q1
       case inr =>
        rw [decide_eq_false (of_eq_false q1)] at e1
        simp only [Bool.false_and] at e1
        simp (maxDischargeDepth:=12) only [go_sem,reduceEqDiff,reduceAdd,reduceSub,reduceLeDiff,reduceCtorEq,hn4,t2,t3,t4,t13,g0,g1,g2,g3,t15,hk,hg,hF,tP,hw,i6,i7,i8,i9,b1,q1]
        exact ⟨kP _,by omega,e1⟩
       rw [decide_eq_true (of_eq_true q1),Bool.true_and] at e1 e2
       rcases Classical.propComplete (a < qo) with q2 | q2
       case inr =>
        rw [decide_eq_false (of_eq_false q2)] at e1
        simp (maxDischargeDepth:=12) only [go_sem,reduceEqDiff,reduceAdd,reduceSub,reduceLeDiff,reduceCtorEq,hn4,t2,t3,t4,t13,g0,g1,g2,g3,t15,hk,hg,hF,tP,hw,i6,i7,i8,i9,b1,q1,q2]
        exact ⟨kP _,by omega,e1⟩
       have ho:r.overlaps t a b=true:=e2 (decide_eq_true (of_eq_true q2))
       rw [if_pos ho]
       simp (maxDischargeDepth:=12) only [go_sem,reduceEqDiff,reduceAdd,reduceSub,reduceLeDiff,reduceCtorEq,u1,u2,u3,u5,hn4,t2,t3,t4,t13,g0,g1,g2,g3,t15,hk,hg,hF,tP,i6,i7,i8,i9,b1,q1,q2]
       exact e15 _
   · clear t2 t3 t4 t13 t14 kH hn g0 g1 g2 g3 ha
     rintro T H2 M ⟨rfl,t2,t3,t4,t13,t15,kH,hn,g0,g1,g2,g3,ha⟩
     rw [take_length] at ha
     have ho:r.overlaps t a b=false:=ha
     rw [ho,if_neg Bool.false_ne_true]
     have e5:=Ki (a:=Pos.Act.take p t a b) (tk:=tk) (u:=[.int .i64 tk,vT,vF,vR,vP,vM]) hL (5:Int) (by decide) kH g2
     by_cases k_5:16≤r.poss.length
     · rw [if_pos k_5]
       have q4:((r.poss.length:Int) < 16)=False:=eq_false (by omega)
       simp (maxDischargeDepth:=12) only [go_sem,reduceEqDiff,reduceAdd,reduceLeDiff,reduceCtorEq,u1,u2,u3,u4,u5,hn4,t2,t4,g0,g2,t15,Nat.lt_irrefl,q4]
       exact e5
     rw [if_neg k_5]
     have q4:((r.poss.length:Int) < 16)=True:=eq_true (by omega)
     obtain ⟨v',H',a1,s1,k⟩:=Ut (lo:=0) (H:=H2) (kH.sl (by decide) hL.lP) rfl (by rw [length_map];unfold Z2;omega) (r:=[.str p,.str t,.int .i64 a,.int .i64 b,.bool false,.bool false,.bool false,.int .i64 0,.int .i64 0,.int .i64 0]) rfl (by decide) rfl (Yi (f:=Pos.Pos.row) (fun _=>rfl) _)
     have f0:=k.2.1 _ _ _ (by omega) g0
     have f2:=k.2.1 _ _ _ (by omega) g2
     have c6:=s1.cells
     have u6:=s1.one
     simp only [AV.cells] at c6
     simp only [AV.one] at u6
     simp (maxDischargeDepth:=12) only [go_sem,reduceEqDiff,reduceAdd,reduceMul,reduceSub,reduceLeDiff,reduceCtorEq,u1,u2,u3,u4,u5,hn4,t2,t3,t4,t13,g0,g1,g2,g3,t15,Nat.lt_irrefl,q4,Zu,a1,f0,f2,c6,u6]
     refine ⟨⟨(⟨vT,vF,vR,v',vM⟩:RegL),rfl, ?_⟩,ZbS kH k.1 k.2.1 _ _⟩
     rw [if_pos rfl]
     have e:(doA r r.tick (Pos.Act.take p t a b)).poss.map Pos.Pos.row=r.poss.map Pos.Pos.row++[[.str p,.str t,.int .i64 a,.int .i64 b,.bool false,.bool false,.bool false,.int .i64 0,.int .i64 0,.int .i64 0]]:=by
      show (r.poss++[(⟨p,t,a,b,false,false,false,0,0,0⟩:Pos)]).map Pos.Pos.row=_
      rw [map_append];rfl
     refine ⟨(k.2.2 (by decide) (kH.sl (by decide) hL.lT)).fin f0 f2 _ _,(k.2.2 (by decide) (kH.sl (by decide) hL.lF)).fin f0 f2 _ _,(k.2.2 (by decide) (kH.sl (by decide) hL.lR)).fin f0 f2 _ _, ?_,(k.2.2 (by decide) (kH.sl (by decide) hL.lM)).fin f0 f2 _ _⟩
     rw [e]
     exact s1.fin f0 f2 _ _
end Go.Sim

namespace Go.Sim.Pos
open Go.Sim
def Xi (r:Reg):Act->Int
 | .track t _=>if (r.track? t).isSome then 9 else 0
 | .fault f t _ _ _=>if (r.track? t).isNone then 10 else if (r.fault? f).isSome then 9 else 0
 | .answer f=>if (r.fault? f).isNone then 10 else 0
 | .repair f p=>if (r.fault? f).isNone then 10 else if (r.poss? p).isNone then 10 else 0
 | .enter x t _=>if (r.track? t).isNone then 10 else if (r.train? x).isSome then 9 else 0
 | .leave x=>if (r.train? x).isNone then 10 else 0
 | .take p t _ _=>if (r.track? t).isNone then 10 else if (r.poss? p).isSome then 9 else 0
 | .into m p=>if (r.poss? p).isNone then 10 else if (r.mach? m).isSome then 9 else 0
 | .out m=>if (r.mach? m).isNone then 10 else 0
 | .prot p=>if (r.poss? p).isNone then 10 else 0
 | .clear p=>if (r.poss? p).isNone then 10 else 0
 | .staff p _=>if (r.poss? p).isNone then 10 else 0
 | .off p _=>if (r.poss? p).isNone then 10 else 0
 | .opn p=>if (r.poss? p).isNone then 10 else 0
 | .close p _=>if (r.poss? p).isNone then 10 else 0
 | .ret p=>if (r.poss? p).isNone then 10 else 0
 | .raise p _=>if (r.poss? p).isNone then 10 else 0
theorem Lb {a:Act} (ht:¬ tk < r.tick) (hn:Xi r a ≠ 0):okA r tk a=Xi r a:=by
 unfold okA;rw [if_neg ht];cases a with
 | track t v | fault f t c b v | enter x t v | take p t c b =>
   unfold Xi at hn ⊢;cases h1:r.track? t<;>(first | (cases h2:r.fault? f) | (cases h2:r.train? x) | (cases h2:r.poss? p) | skip)<;>simp_all
 | leave x=>unfold Xi at hn ⊢;cases h1:r.train? x<;>simp_all
 | out m=>unfold Xi at hn ⊢;cases h1:r.mach? m<;>simp_all
 | answer f=>unfold Xi at hn ⊢;cases h1:r.fault? f<;>simp_all
 | repair f p=>unfold Xi at hn ⊢;cases h1:r.fault? f<;>cases h2:r.poss? p<;>simp_all
 | into m p=>unfold Xi at hn ⊢;cases h1:r.poss? p<;>cases h2:r.mach? m<;>simp_all
 | prot p | clear p | staff p v | off p v | opn p | close p v | ret p | raise p v =>
   unfold Xi at hn ⊢;(try unfold Yy);cases h1:r.poss? p<;>simp_all
end Go.Sim.Pos
namespace Go.Sim
open Go.Sim.Pos (Nm Trk Flt Trn Pos Mch Reg Ev Len okA doA Zw Ze Xi)
theorem Uw {α:Type} (nm:α->Nm) (w:Nm) (l:List α):decide (atL (l.map nm) w < 0)=(l.find? (fun z=>decide (nm z=w))).isNone/\((0<=atL (l.map nm) w) ↔ (l.find? (fun z=>decide (nm z=w))).isSome=true):=by
 rcases XX nm w l with ⟨h1,h2⟩ | ⟨i,y,h1,h2,_,_⟩
 . rw [h1,h2];exact ⟨rfl,by simp⟩
 . rw [h1,h2];refine ⟨?_,by simp⟩;rw [decide_eq_false (by omega)];rfl
theorem ZbU (r:Reg) (num tk:Int) (a:Pos.Act):QQ r (Y8 (Ze num tk a).kind).1 (Ze num tk a).names=Xi r a:=by
 have hT:=fun w=>Uw (fun z:Trk=>z.name) w r.tracks
 have hF:=fun w=>Uw (fun z:Flt=>z.name) w r.faults
 have hR:=fun w=>Uw (fun z:Trn=>z.name) w r.trains
 have hP:=fun w=>Uw (fun z:Pos=>z.name) w r.poss
 have hM:=fun w=>Uw (fun z:Mch=>z.name) w r.machs
 have nT:ZO r 116=r.tracks.map (·.name):=rfl;have nF:ZO r 102=r.faults.map (·.name):=rfl;have nR:ZO r 114=r.trains.map (·.name):=rfl;have nP:ZO r 112=r.poss.map (·.name):=rfl;have nM:ZO r 109=r.machs.map (·.name):=rfl;cases a<;>(simp only [Ze,Xi,Pos.Reg.track?,Pos.Reg.fault?,Pos.Reg.train?,Pos.Reg.poss?,Pos.Reg.mach?];unfold QQ)
 all_goals (first
  | (rw [show (Y8 _).1=[84] from rfl])
  | (rw [show (Y8 _).1=[70,116] from rfl])
  | (rw [show (Y8 _).1=[102] from rfl])
  | (rw [show (Y8 _).1=[102,112] from rfl])
  | (rw [show (Y8 _).1=[82,116] from rfl])
  | (rw [show (Y8 _).1=[114] from rfl])
  | (rw [show (Y8 _).1=[80,116] from rfl])
  | (rw [show (Y8 _).1=[112] from rfl])
  | (rw [show (Y8 _).1=[77,112] from rfl])
  | (rw [show (Y8 _).1=[109] from rfl]))
 all_goals simp only [zip_cons_cons,zip_nil_right,any_cons,any_nil,reduceLeDiff,decide_true,decide_false,Bool.true_and,Bool.false_and,Bool.or_false,Bool.false_or,reduceAdd,reduceLT,true_and,false_and,if_false,false_eq_true,cast_ofNat_Int,nT,nF,nR,nP,nM,fun w=>(hT w).1,fun w=>(hT w).2,fun w=>(hF w).1,fun w=>(hF w).2,fun w=>(hR w).1,fun w=>(hR w).2,fun w=>(hP w).1,fun w=>(hP w).2,fun w=>(hM w).1,fun w=>(hM w).2]
 all_goals (try rfl)
 rename_i f p
 have e:∀ u v:Bool,(if (u || v)=true then (10:Int) else 0)=if u=true then 10 else if v=true then 10 else 0:=by decide
 refine Eq.trans ?_ (e _ _)
 congr
def linA:Pos.Act->Bool
 | .track _ _ | .fault _ _ _ _ _ | .answer _ | .repair _ _ | .enter _ _ _ | .leave _ | .take _ _ _ _=>true
 | _=>false
theorem Ux (S:Pos.Safe r):ZH r:=by
 have:=S.nT;have:=S.nF;have:=S.nN;have:=S.nP;have:=S.nM;unfold ZH;omega
theorem XN {p:Bool} {x:Int} (h:(if p=true then (10:Int) else x)=0):p=false/\x=0:=by
 cases p with
 | true=>cases h
 | false=>exact ⟨rfl,h⟩
theorem Uy {p:Bool} (h:(if p=true then (9:Int) else 0)=0):p=false:=by
 cases p with
 | true=>cases h
 | false=>rfl
theorem r_lw {a:Pos.Act} (I:Pos.Inv r) (S:Pos.Safe r) (hck:Y1 Z7 (Ze num tk a)=0) (hn:Xi r a=0) (ht:¬ tk < r.tick) (hL:LstIs H L r) (t0:Int) :
 ∃ w H2,R PV (.call 0 (if linA a=true then 277 else 278) [.agg (L.row t0),.agg (Ze num tk a).row] H)=some (.ofVal w H2)/\Y2 H r a (okA r tk a) t0 w H2:=by
 have hl:=Ux S;obtain ⟨_,_,_,_,_,_,hv,_⟩:=KF Z7 hck;have isn:∀ {α:Type} {o:Option α},o.isNone=false -> ∃ y,o=some y:=fun {α o} h=>by cases o with | none=>cases h | some y=>exact ⟨y,rfl⟩
 have iso:∀ {α:Type} {o:Option α},o.isSome=false->o=none:=fun {α o} h=>by cases o with | none=>rfl | some y=>cases h
 have iss:∀ {α:Type} {o:Option α},o.isNone=false->o.isSome=true:=fun {α o} h=>by cases o with | none=>cases h | some y=>rfl
 have pers:∀ {p:Nm} {y:Pos},r.poss? p=some y->0<=y.pers/\y.pers<=1000000:=fun {p y} h=>by
  have:=S.pers y (mem_of_find?_eq_some h);omega
 have closed:∀ {p:Nm} {y:Pos},r.poss? p=some y->0<=y.closed/\y.closed<=1000000:=fun {p y} h=>by
  have:=S.closed y (mem_of_find?_eq_some h);omega
 cases a with
 | track t v=>exact Zby hL hl (iso (Uy hn)) ht
 | fault f t c b v=>obtain ⟨h1,h2⟩:=XN hn;exact ZbB hL hl (iss h1) (iso (Uy h2)) ht
 | answer f=>obtain ⟨h1,_⟩:=XN hn;obtain ⟨y,hy⟩:=isn h1;exact ZbD hL hl I.uF hy ht
 | repair f p=>obtain ⟨h1,h2⟩:=XN hn;obtain ⟨h3,_⟩:=XN h2;obtain ⟨y,hy⟩:=isn h1;obtain ⟨q,hq⟩:=isn h3;exact ZbR hL hl I.uF hy hq ht
 | enter x t v=>obtain ⟨h1,h2⟩:=XN hn;exact ZbC hL hl (iss h1) (iso (Uy h2)) (hv v (by simp [Ze])).1 ht
 | leave x=>obtain ⟨h1,_⟩:=XN hn;obtain ⟨y,hy⟩:=isn h1;exact ZbK hL hl I.uN hy ht
 | take p t c b=>obtain ⟨h1,h2⟩:=XN hn;exact ZbT hL hl (iss h1) (iso (Uy h2)) ht
 | prot p=>obtain ⟨h1,_⟩:=XN hn;obtain ⟨y,hy⟩:=isn h1;exact ZbE hL hl I.uP hy ht
 | clear p=>obtain ⟨h1,_⟩:=XN hn;obtain ⟨y,hy⟩:=isn h1;exact ZbL hL hl I.uP hy ht
 | into m p=>obtain ⟨h1,h2⟩:=XN hn;obtain ⟨y,hy⟩:=isn h1;exact r_in hL hl I.uP hy (iso (Uy h2)) ht
 | out m=>obtain ⟨h1,_⟩:=XN hn;obtain ⟨y,hy⟩:=isn h1;exact r_out hL hl I.uM hy ht
 | staff p v=>obtain ⟨h1,_⟩:=XN hn;obtain ⟨y,hy⟩:=isn h1;exact ZbF hL hl I.uP hy (hv v (by simp [Ze])).1 (pers hy) ht
 | off p v=>obtain ⟨h1,_⟩:=XN hn;obtain ⟨y,hy⟩:=isn h1;exact r_off hL hl I.uP hy (hv v (by simp [Ze])).1 (pers hy) ht
 | opn p=>obtain ⟨h1,_⟩:=XN hn;obtain ⟨y,hy⟩:=isn h1;exact ZbG hL hl I.uP hy ht
 | close p v=>obtain ⟨h1,_⟩:=XN hn;obtain ⟨y,hy⟩:=isn h1;exact ZbH hL hl I.uP hy (closed hy) ht
 | ret p=>obtain ⟨h1,_⟩:=XN hn;obtain ⟨y,hy⟩:=isn h1;exact ZbQ hL hl I.uP hy ht
 | raise p v=>obtain ⟨h1,_⟩:=XN hn;obtain ⟨y,hy⟩:=isn h1;exact ZbI hL hl I.uP hy ht
end Go.Sim

namespace Go.Sim
open Go.Sim.Pos (Nm Trk Flt Trn Pos Mch Reg Ev Len okA doA Zw Ze Xi)
section
variable {lo:Nat} {args:List AV} {H:Heap} {K:AV->Heap->Prop}
theorem ZbV:VO (Z9 PV (R PV) lo 277 args H) K=AO (R PV (.call lo 277 args H)) fun o=>K o.val o.s.H:=Fy (by rfl) (by kernel_rfl) (by kernel_rfl) (by kernel_rfl) (by kernel_rfl)
theorem ZbW:VO (Z9 PV (R PV) lo 278 args H) K=AO (R PV (.call lo 278 args H)) fun o=>K o.val o.s.H:=Fy (by rfl) (by kernel_rfl) (by kernel_rfl) (by kernel_rfl) (by kernel_rfl)
theorem ZbX:VO (Z9 PV (R PV) lo 276 args H) K=AO (R PV (.call H.n 276 args H)) fun o=>K o.val o.s.H:=Fx (by rfl) (by kernel_rfl) (by kernel_rfl) (by kernel_rfl) (by kernel_rfl)
end
theorem Lc {f lo:Nat} {args:List AV} {H:Heap} {v:AV} {K:AV->Heap->Prop} (hen:VO (Z9 PV (R PV) lo f args H) K=AO (R PV (.call lo f args H)) fun o=>K o.val o.s.H) (hR:R PV (.call lo f args H)=some (.ofVal v H2)):VO (Z9 PV (R PV) lo f args H) K=K v H2:=by
 rw [hen,hR];rfl
theorem ZbY {H:Heap} (h:LstIs H L r) (tk:Int):Ye (k+3) H (.agg (L.row tk))=some (.agg (Z8 { r with tick:=tk })):=by
 have d1:=h.lT.reads (k:=k) (Yi (f:=Pos.Trk.row) (sz:=2) (fun _=>rfl) _) (Jz (f:=Pos.Trk.row) (fun x c hc=>by simp [Pos.Trk.row] at hc;rcases hc with rfl | rfl<;>rfl) _)
 have d2:=h.lF.reads (k:=k) (Yi (f:=Pos.Flt.row) (sz:=7) (fun _=>rfl) _) (Jz (f:=Pos.Flt.row) (fun x c hc=>by simp [Pos.Flt.row] at hc;rcases hc with rfl | rfl | rfl | rfl | rfl | rfl | rfl<;>rfl) _)
 have d3:=h.lR.reads (k:=k) (Yi (f:=Pos.Trn.row) (sz:=3) (fun _=>rfl) _) (Jz (f:=Pos.Trn.row) (fun x c hc=>by simp [Pos.Trn.row] at hc;rcases hc with rfl | rfl | rfl<;>rfl) _)
 have d4:=h.lP.reads (k:=k) (Yi (f:=Pos.Pos.row) (sz:=10) (fun _=>rfl) _) (Jz (f:=Pos.Pos.row) (fun x c hc=>by simp [Pos.Pos.row] at hc;rcases hc with rfl | rfl | rfl | rfl | rfl | rfl | rfl | rfl | rfl | rfl<;>rfl) _)
 have d5:=h.lM.reads (k:=k) (Yi (f:=Pos.Mch.row) (sz:=2) (fun _=>rfl) _) (Jz (f:=Pos.Mch.row) (fun x c hc=>by simp [Pos.Mch.row] at hc;rcases hc with rfl | rfl<;>rfl) _)
 have d0:Ye (k+2) H (.int .i64 tk)=some (.int .i64 tk):=rfl;show (match YL (Ye (k+2) H) (L.row tk) with
  | some l=>some (AV.agg l)
  | none=>none)=_
 unfold RegL.row;simp only [YL,d0,d1,d2,d3,d4,d5];rfl
theorem ZbZ {H:Heap} (h:LstIs H L r) (tk c:Int):Ye (k+4) H (.tup [.agg (L.row tk),.int .i64 c])=some (.tup [.agg (Z8 { r with tick:=tk }),.int .i64 c]):=by
 have d1:=ZbY (k:=k) h tk;have d2:Ye (k+3) H (.int .i64 c)=some (.int .i64 c):=rfl;show (match YL (Ye (k+3) H) [.agg (L.row tk),.int .i64 c] with
  | some l=>some (AV.tup l)
  | none=>none)=_
 simp only [YL,d1,d2]
theorem Zc0:Z6 Xp [116,114,97,99,107]=true:=rfl
theorem Zc1:Z6 Xc [116,114,97,99,107]=false:=rfl
theorem Zc2:Z6 Xc [102,97,117,108,116]=true:=rfl
theorem Zc3:Z6 YE [116,114,97,99,107]=false:=rfl
theorem Zc4:Z6 YE [102,97,117,108,116]=false:=rfl
theorem Zc5:Z6 YE [97,110,115,119,101,114]=true:=rfl
theorem Zc6:Z6 Yz [116,114,97,99,107]=false:=rfl
theorem Zc7:Z6 Yz [102,97,117,108,116]=false:=rfl
theorem Zc8:Z6 Yz [97,110,115,119,101,114]=false:=rfl
theorem Zc9:Z6 Yz [114,101,112,97,105,114]=true:=rfl
theorem Zca:Z6 ZZ [116,114,97,99,107]=false:=rfl
theorem Zcb:Z6 ZZ [102,97,117,108,116]=false:=rfl
theorem Zcc:Z6 ZZ [97,110,115,119,101,114]=false:=rfl
theorem Zcd:Z6 ZZ [114,101,112,97,105,114]=false:=rfl
theorem Zce:Z6 ZZ [101,110,116,101,114]=true:=rfl
theorem Zcf:Z6 Yb [116,114,97,99,107]=false:=rfl
theorem Zcg:Z6 Yb [102,97,117,108,116]=false:=rfl
theorem Zch:Z6 Yb [97,110,115,119,101,114]=false:=rfl
theorem Zci:Z6 Yb [114,101,112,97,105,114]=false:=rfl
theorem Zcj:Z6 Yb [101,110,116,101,114]=false:=rfl
theorem Zck:Z6 Yb [108,101,97,118,101]=true:=rfl
theorem Zcl:Z6 Yc [116,114,97,99,107]=false:=rfl
theorem Zcm:Z6 Yc [102,97,117,108,116]=false:=rfl
theorem Zcn:Z6 Yc [97,110,115,119,101,114]=false:=rfl
theorem Zco:Z6 Yc [114,101,112,97,105,114]=false:=rfl
theorem Zcp:Z6 Yc [101,110,116,101,114]=false:=rfl
theorem Zcq:Z6 Yc [108,101,97,118,101]=false:=rfl
theorem Zcr:Z6 Yc [116,97,107,101]=true:=rfl
theorem Zcs (num tk:Int) (a:Pos.Act):∃ k ns vs,Ze num tk a=⟨num,k,ns,tk::vs,[]⟩/\((linA a=true/\(k=Xp\/k=Xc\/k=YE\/k=Yz\/k=ZZ\/k=Yb\/k=Yc))\/(linA a=false/\Z6 k [116,114,97,99,107]=false/\Z6 k [102,97,117,108,116]=false/\Z6 k [97,110,115,119,101,114]=false/\Z6 k [114,101,112,97,105,114]=false/\Z6 k [101,110,116,101,114]=false/\Z6 k [108,101,97,118,101]=false/\Z6 k [116,97,107,101]=false)):=by
 cases a<;>(refine ⟨_,_,_,rfl, ?_⟩;first | exact .inl ⟨rfl,.inl rfl⟩ | exact .inl ⟨rfl,.inr (.inl rfl)⟩ | exact .inl ⟨rfl,.inr (.inr (.inl rfl))⟩ | exact .inl ⟨rfl,.inr (.inr (.inr (.inl rfl)))⟩ | exact .inl ⟨rfl,.inr (.inr (.inr (.inr (.inl rfl))))⟩ | exact .inl ⟨rfl,.inr (.inr (.inr (.inr (.inr (.inl rfl)))))⟩ | exact .inl ⟨rfl,.inr (.inr (.inr (.inr (.inr (.inr (rfl))))))⟩ | exact .inr ⟨rfl,rfl,rfl,rfl,rfl,rfl,rfl,rfl⟩)
def CW (r:Reg) (e:Ev):Prop:=Pos.Inv r/\Pos.Safe r/\Y1 Z7 e=0/\e.kind ≠ ZJ
def KU (r:Reg) (e:Ev):Int:=match XU e with
 | some (tk,a)=>okA r tk a
 | none=>0
def Kk (r:Reg) (e:Ev):Reg:=match XU e with
 | some (tk,a)=>if tk < r.tick\/Xi r a ≠ 0 then r else { (if okA r tk a=0 then doA r r.tick a else r) with tick:=tk }
 | none=>r
theorem c195 (r:Reg) (e:Ev) (hp:CW r e):∀ lo H,Za NC lo 195 [.agg (Z8 r),.agg e.row] H (.tup [.agg (Z8 (Kk r e)),i64 (KU r e)]) H:=by
 refine Zbd KE Zbm vset 6 (fn:=Tryz.f195) (by kernel_rfl) Tryz.func195 rfl rfl (by rfl) ?_;obtain ⟨I,S,hck,hu⟩:=hp;have hl:=Ux S;obtain ⟨tk,a,ha,hev,_,_⟩:=Un Z7 hck hu;have hN:=IT r e ⟨hl,hck⟩;generalize e.num=num at hev;subst hev;rw [ZbU] at hN;have eR:Kk r (Ze num tk a)=if tk < r.tick∨Xi r a ≠ 0 then r else { (if okA r tk a=0 then doA r r.tick a else r) with tick:=tk }:=by
  unfold Kk;rw [Ip]
 have eC:KU r (Ze num tk a)=okA r tk a:=by unfold KU;rw [Ip]
 rw [eR,eC];clear ha eR eC;have hrl:=fun (hn:Xi r a=0) (ht:¬ tk < r.tick) (H:Heap) (L:RegL) (hL:LstIs H L r)=>r_lw (num:=num) I S hck hn ht hL r.tick
 have hnam:=fun (ht:¬ tk < r.tick)=>Pos.Lb (r:=r) (a:=a) ht
 generalize hR:(if tk < r.tick∨Xi r a ≠ 0 then r else { (if okA r tk a=0 then doA r r.tick a else r) with tick:=tk })=R'
 obtain ⟨k,ns,vs,hk,hkin⟩:=Zcs num tk a;rw [hk] at hN hrl ⊢;clear hck hu hk I S
 change W PV _ _ _ _ _ _ _ (Ky PV _ _)
 simp only [Pos.Ev.row,Z8] at hN hrl ⊢;have hr0:(Z3 (tk::vs))[0]? = some [.int .i64 tk]:=rfl;have hz:0 < vs.length+1:=succ_pos _;rcases Classical.propComplete (tk < r.tick) with q | q
 · have e1:okA r tk a=22:=by unfold okA;rw [if_pos (of_eq_true q)]
   rw [if_pos (.inl (of_eq_true q))] at hR;subst hR;rw [e1];simp (maxDischargeDepth:=12) only [go_sem,reduceEqDiff,reduceAdd,reduceSub,reduceCtorEq,hr0,Yo,hz,q];rfl
 have e1:=hnam (of_eq_false q);rcases Classical.propComplete (Xi r a=0) with q2 | q2
 case inr =>
  rw [if_pos (.inr (of_eq_false q2))] at hR;subst hR;rw [e1 (of_eq_false q2)];simp (maxDischargeDepth:=12) only [go_sem,reduceEqDiff,reduceAdd,reduceSub,reduceCtorEq,hr0,Yo,hz,q,hN,q2];rfl
 have q2':=of_eq_true q2;rw [if_neg (fun h=>h.elim (of_eq_false q) (fun h=>h q2'))] at hR;obtain ⟨w,H2,hr,⟨L,rfl,hL⟩,hO⟩:=r276 (P:=CS) (V:=vset) hl (H:=((Heap.empty.push (.cells [.int .i64 r.tick,.ps .unk (r.tracks.map Pos.Trk.row),.ps .unk (r.faults.map Pos.Flt.row),.ps .unk (r.trains.map Pos.Trn.row),.ps .unk (r.poss.map Pos.Pos.row),.ps .unk (r.machs.map Pos.Mch.row)] 34)).push (.cells [.int .i64 num,.str k,.ps .unk (Z0 ns),.ps .unk (Z3 (tk::vs)),.str []] 53)).push (.cells [.int .i64 0,.ps .nil [],.ps .nil [],.ps .nil [],.ps .nil [],.ps .nil []] 34));have hOw:=fun K=>GD (K:=K) (lo:=0) ZbX hr
 have hn2:3≤H2.n:=hO.1;have g1:H2.get 1=.cells [.int .i64 num,.str k,.ps .unk (Z0 ns),.ps .unk (Z3 (tk::vs)),.str []] 53:=(hO.2 1 (by simp)).trans (by rw [Heap.get_push,if_neg (by simp),Heap.get_push];exact if_pos rfl);have g2:H2.get 2=.cells [.int .i64 0,.ps .nil [],.ps .nil [],.ps .nil [],.ps .nil [],.ps .nil []] 34:=(hO.2 2 (by simp)).trans (by rw [Heap.get_push];exact if_pos rfl);have kE:Keep H2 ((H2.push (.cells [.int .i64 0,.ps .nil [],.ps .nil [],.ps .nil [],.ps .nil [],.ps .nil []] 34)).set H2.n (.cells (L.row r.tick) 34)) 0:=((Keep.refl _ _).push _).set (Nat.le_refl _) (by rw [Heap.get_push];exact if_pos rfl) _;obtain ⟨w,H4,hr4,⟨L4,rfl,hL4⟩,hle4,hc4⟩:=hrl q2' (of_eq_false q) _ L (hL.keep kE);have n1:(H2.n=1)=False:=eq_false (by omega);have n2:(H2.n=2)=False:=eq_false (by omega);have n3:(1=H2.n)=False:=eq_false (by omega);have n4:(2=H2.n)=False:=eq_false (by omega);have g41:=hc4 1 _ _ (by simp;omega) (kE.cells 1 _ _ (by omega) g1);have g42:=hc4 2 _ _ (by simp;omega) (kE.cells 2 _ _ (by omega) g2);have g47:=hc4 H2.n _ _ (by simp) (by rw [Heap.get_set,if_pos rfl]);simp only [Qx,JY] at hle4;clear hrl hnam hc4;have c1:=hL.lT.cells;have c2:=hL.lF.cells;have c3:=hL.lR.cells;have c4:=hL.lP.cells;have c5:=hL.lM.cells;have u1:=hL.lT.one;have u2:=hL.lF.one;have u3:=hL.lR.one;have u4:=hL.lP.one;have u5:=hL.lM.one;have d1:=hL4.lT.cells;have d2:=hL4.lF.cells;have d3:=hL4.lR.cells;have d4:=hL4.lP.cells;have d5:=hL4.lM.cells;have w1:=hL4.lT.one;have w2:=hL4.lF.one;have w3:=hL4.lR.one;have w4:=hL4.lP.one;have w5:=hL4.lM.one;have f1:=hL.lT.full;have f2:=hL.lF.full;have f3:=hL.lR.full;have f4:=hL.lP.full;have f5:=hL.lM.full;simp only [AV.fullN,Tok.full] at f1 f2 f3 f4 f5;simp only [AV.cells] at c1 c2 c3 c4 c5 d1 d2 d3 d4 d5;simp only [AV.one] at u1 u2 u3 u4 u5 w1 w2 w3 w4 w5;have hfin:∀ (x y z:List AV) (c:Int),Ye 6 (((H4.set H2.n (.cells x 34)).set H2.n (.cells y 34)).set 2 (.cells z 34)) (.tup [.agg (L4.row tk),.int .i64 c])=some (.tup [.agg (Z8 R'),.int .i64 c]):=by
  intro x y z c;rw [← hR];refine ZbZ ?_ tk c;have f:∀ {H:Heap} {i:Nat} {c c':List AV} {t t':TypeId},H.get i=.cells c t→LstIs H L4 (if okA r tk a=0 then doA r r.tick a else r)→LstIs (H.set i (.cells c' t')) L4 (if okA r tk a=0 then doA r r.tick a else r):=fun {H i c c' t t'} hg h=>⟨h.lT.setc hg _,h.lF.setc hg _,h.lR.setc hg _,h.lP.setc hg _,h.lM.setc hg _⟩
  refine f (c:=[.int .i64 0,.ps .nil [],.ps .nil [],.ps .nil [],.ps .nil [],.ps .nil []]) (t:=34) ?_ (f (c:=x) (t:=34) ?_ (f g47 hL4))
  · rw [Heap.get_set,if_neg (by omega),Heap.get_set,if_neg (by omega)];exact g42
  · rw [Heap.get_set,if_pos rfl]
 obtain ⟨vT,vF,vR,vP,vM⟩:=L;obtain ⟨xT,xF,xR,xP,xM⟩:=L4;simp only [RegL.row] at hOw hr4 g47 hfin f1 f2 f3 f4 f5 c1 c2 c3 c4 c5 d1 d2 d3 d4 d5 u1 u2 u3 u4 u5 w1 w2 w3 w4 w5;simp only [Z8] at hfin hOw;clear hL hL4 hr kE;rcases hkin with ⟨hlin,hkk⟩ | ⟨hlin,k1,k2,k3,k4,k5,k6,k7⟩
 · rw [hlin,if_pos rfl] at hr4;have hLw:=fun K=>Lc (K:=K) (lo:=0) ZbV hr4
   rcases hkk with rfl | rfl | rfl | rfl | rfl | rfl | rfl<;>(simp (maxDischargeDepth:=12) only [go_sem,reduceEqDiff,reduceAdd,reduceSub,reduceCtorEq,hr0,Yo,hz,q,hN,q2,hOw,g1,n3,n4,u1,u2,u3,u4,u5,f1,f2,f3,f4,f5,Zc0,Zc1,Zc2,Zc3,Zc4,Zc5,Zc6,Zc7,Zc8,Zc9,Zca,Zcb,Zcc,Zcd,Zce,Zcf,Zcg,Zch,Zci,Zcj,Zck,Zcl,Zcm,Zcn,Zco,Zcp,Zcq,Zcr,hLw,g41,g42,g47,w1,w2,w3,w4,w5];exact hfin _ _ _ _)
 · rw [hlin,if_neg Bool.false_ne_true] at hr4;have hLw:=fun K=>Lc (K:=K) (lo:=0) ZbW hr4
   simp (maxDischargeDepth:=12) only [go_sem,reduceEqDiff,reduceAdd,reduceSub,reduceCtorEq,hr0,Yo,hz,q,hN,q2,hOw,g1,n3,n4,u1,u2,u3,u4,u5,f1,f2,f3,f4,f5,k1,k2,k3,k4,k5,k6,k7,hLw,g41,g42,g47,w1,w2,w3,w4,w5];exact hfin _ _ _ _
def p195:List AV->Option AV:=ZG (α:=(Reg) × (Ev)) (fun x=>[.agg (Z8 x.1),.agg x.2.row]) (fun x=>CW x.1 x.2) (fun x=>.tup [.agg (Z8 (Kk x.1 x.2)),i64 (KU x.1 x.2)])
theorem Zct:Pok p195 195:=by
 intro args v h;obtain ⟨x,rfl,hp,rfl⟩:=ZL h;exact c195 x.1 x.2 hp
theorem Ld (r:Reg) (e:Ev) (hp:CW r e):p195 [.agg (Z8 r),.agg e.row]=some (.tup [.agg (Z8 (Kk r e)),.int .i64 (KU r e)]):=ZN (by intro x y h;(simp only [List.cons.injEq,AV.agg.injEq,Pos.Ev.row_inj,KR,and_true] at h;first | simpa only [Prod.ext_iff] using h | simpa only [Prod.ext_iff,and_assoc] using h)) (r,e) hp
attribute [go_sem] Ld
end Go.Sim

namespace Go.Sim
theorem Zcu {a:Pos.Act} (ha:XU e=some (tk,a)) (h:Pos.okA r tk a=0):Kk r e=Pos.doE r e:=by
 unfold Kk Pos.doE;rw [ha];simp only;have h1:¬ tk < r.tick:=fun h1=>by unfold Pos.okA at h;rw [if_pos h1] at h;cases h
 have h2:¬ Pos.Xi r a ≠ 0:=fun h2=>by rw [Pos.Lb h1 h2] at h;exact h2 h
 rw [if_neg (fun x=>x.elim h1 h2),if_pos h];exact CG r tk a
def VA (q:Jn × Nat × Int):List Ev × List Reg × Nat × Int:=if q.2.2=0 then (q.1.cs,YQ ZS q.1.cs,0,0) else ([],[],q.2.1,q.2.2)
def XO (l:List Ev):List Ev × List Reg × Nat × Int:=if 1000 < l.length then ([],[],0,5) else VA (ZE Z7 Pos.zJn 0 l)
theorem Le (l:List Reg):(l.map Z8).all (fun r=>decide (r.length=6))=true:=Ql (f:=Z8) (sz:=6) (fun _=>rfl) l
theorem Zcv (l:List Reg):(l.map Z8).all Q0=true:=by
 rw [all_eq_true];intro r hr;obtain ⟨e,_,rfl⟩:=mem_map.1 hr;rfl
theorem Zcw (l:List Reg):(l.map Z8).map (List.map AV.strip0)=l.map Z8:=by
 rw [map_map];rfl
theorem Zcx (l:List Ev):(l.map Pos.Ev.row).all Q0=true:=by
 rw [all_eq_true];intro r hr;obtain ⟨e,_,rfl⟩:=mem_map.1 hr;rfl
theorem Zcy (l:List Ev):(l.map Pos.Ev.row).map (List.map AV.strip0)=l.map Pos.Ev.row:=by
 rw [map_map];rfl
theorem Lf (l:List Ev):(l.map Pos.Ev.row).all (fun r=>decide (r.length=5))=true:=Ql (f:=Pos.Ev.row) (sz:=5) (fun _=>rfl) l
theorem Zcz (j:Jn) (he:l[k]? = some e):ZE Z7 j k (l.drop k)=if YU Z7 j k e ≠ 0 then (j,k+1,YU Z7 j k e) else ZE Z7 (YP j e) (k+1) (l.drop (k+1)):=by
 rw [Vl he];rfl
def CX:PF:=Zo 195 p195 (Zo 34 p34 (fun _=>none))
theorem ZcA:PrimsOk NC CX:=Pa (Pa (ZK) pok34) Zct
theorem ZcB:En CX 34 p34:=ZA (by rfl) (by kernel_rfl)
theorem ZcC:En CX 195 p195:=ZA (by rfl) (by kernel_rfl)
attribute [go_sem ↓] ZcB ZcC
theorem c78 (l:List Ev) (hp:l.length<=1000000):∀ lo H,Za NC lo 78 [.ps .unk (l.map Pos.Ev.row)] H (.tup [.ps .unk ((XO l).1.map Pos.Ev.row),.ps .unk ((XO l).2.1.map Z8),i64 ((XO l).2.2.1:Nat),i64 (XO l).2.2.2]) H:=by
 refine Cn ZcA Tryz.func78 rfl rfl ?_;by_cases hbig:(1000:Int) < l.length
 . have e:XO l=([],[],0,5):=by unfold XO;rw [if_pos (by omega)]
   rw [e];simp (maxDischargeDepth:=12) only [go_sem,reduceEqDiff,reduceCtorEq,hbig];try rfl
 have e:XO l=VA (ZE Z7 Pos.zJn 0 l):=by unfold XO;rw [if_neg (by omega)]
 rw [e];clear e;have hl:l.length<=1000:=by omega
 generalize hq:ZE Z7 Pos.zJn 0 l=q;simp (maxDischargeDepth:=12) only [go_sem,reduceEqDiff,reduceAdd,reduceMul,reduceLeDiff,reduceCtorEq,hbig];refine ZP (fun k T H M=>M=[]/\Z1 T 0=.ps .unk (l.map Pos.Ev.row)/\Z1 T 8=i64 k /\ ∃ j,(∃ t,Z1 T 6=.ps t (j.cs.map Pos.Ev.row))/\(∃ t,Z1 T 7=.ps t ((YQ ZS j.cs).map Z8))/\Pos.JOk Z7 j/\ZE Z7 j k (l.drop k)=q/\j.cs.length<=k) l.length ?_ ?_ ?_
 . simp (maxDischargeDepth:=12) only [go_sem,reduceEqDiff,reduceCtorEq];exact ⟨Pos.zJn,⟨_,rfl⟩,⟨_,rfl⟩,Vk Z7,hq,Nat.le_refl _⟩
 . rintro k T H M hk ⟨rfl,g0,g8,j,⟨t1,g6⟩,⟨t2,g7⟩,J,hrep,hle⟩;obtain ⟨e,he⟩:∃ e,l[k]? = some e:=⟨l[k],by simp⟩;have hw:=ZQ hk (n:=l.length) (by unfold Z2;omega);have hC:=pe34 e;rw [Zcz j he] at hrep;have hr:(l.map Pos.Ev.row)[k]? = some e.row:=Zy (f:=Pos.Ev.row) he;have hnum:ZC .i64 (Int.add (k:Int) 1)=((k+1:Nat):Int):=hw;have hq1:∀ {c:Int},c ≠ 0->(j,k+1,c)=q->VA q=([],[],k+1,c):=fun {c} hc h=>by
    rw [<- h];unfold VA;simp only;rw [if_neg hc]
   by_cases c1:Y1 Z7 e=0
   case neg =>
    have hwj:YU Z7 j k e=Y1 Z7 e:=by unfold YU;rw [if_pos c1]
    rw [hwj,if_pos c1] at hrep;rw [hq1 c1 hrep];have d1:(Y1 Z7 e=0)=False:=eq_false c1;obtain ⟨num,kind,names,vals,text⟩:=e;simp only [Pos.Ev.row] at hr hC;simp (maxDischargeDepth:=12) only [go_sem,reduceEqDiff,reduceAdd,reduceCtorEq,g0,g6,g8,hk,hr,hC,d1,hnum];try rfl
   have hwj:YU Z7 j k e=XV j k e:=by unfold YU;rw [if_neg (fun h=>h c1)]
   have d1:(Y1 Z7 e=0)=True:=eq_true c1;unfold XV at hwj;by_cases c2:e.num=(k:Int)+1
   case neg =>
    rw [if_pos c2] at hwj;rw [hwj,if_pos (by decide)] at hrep;rw [hq1 (by decide) hrep];obtain ⟨num,kind,names,vals,text⟩:=e;have d2:(num=((k+1:Nat):Int))=False:=eq_false (by simp only at c2;omega);have d3:((11:Int)=0)=False:=eq_false (by decide);simp only [Pos.Ev.row] at hr hC;simp (maxDischargeDepth:=12) only [go_sem,reduceEqDiff,reduceAdd,reduceCtorEq,g0,g6,g8,hk,hr,hC,d1,hnum,d2,d3];try rfl
   rw [if_neg (fun h=>h c2)] at hwj;have d2:(e.num=((k+1:Nat):Int))=True:=eq_true (by omega);have d0:((0:Int)=0)=True:=eq_true rfl;have hlc:j.cs.length<=1000:=by omega
   have hrl:((YQ ZS j.cs).map Z8).length=j.cs.length+1:=by rw [length_map,C8]
   have h5:=Lf j.cs;have h6:=Le (YQ ZS j.cs);by_cases c3:e.kind=ZJ
   . rw [if_pos c3] at hwj;have b3:Z6 e.kind [117,110,100,111]=true:=Yh c3;cases hlast:j.cs.getLast? with
     | none =>
       rw [hlast] at hwj;simp only at hwj;rw [hwj,if_pos (by decide)] at hrep;rw [hq1 (by decide) hrep];have hnil:j.cs.length=0:=by rw [getLast?_eq_none_iff] at hlast;rw [hlast];rfl
       have d3:((12:Int)=0)=False:=eq_false (by decide);obtain ⟨num,kind,names,vals,text⟩:=e;simp only [Pos.Ev.row] at hr hC;simp only at d2 b3;have d4:(((j.cs.length:Nat):Int)=0)=True:=eq_true (by omega);simp (maxDischargeDepth:=12) only [go_sem,reduceEqDiff,reduceAdd,reduceCtorEq,g0,g6,g8,hk,hr,hC,d1,hnum,d2,b3,d4,d3];try rfl
     | some x =>
       rw [hlast] at hwj;simp only at hwj;have hpos:0 < j.cs.length:=by
        cases hcs:j.cs with
        | nil=>rw [hcs] at hlast;cases hlast
        | cons a r=>simp
       obtain ⟨n,hn⟩:∃ n,j.cs.length=n+1:=⟨j.cs.length - 1,by omega⟩;have hx:j.cs[n]? = some x:=by rw [getLast?_eq_getElem?] at hlast;rw [<- hlast,hn];rfl
       have hxr:(j.cs.map Pos.Ev.row)[n]? = some x.row:=Zy (f:=Pos.Ev.row) hx;have d4:(((n+1:Nat):Int)=0)=False:=eq_false (by omega);have hw1:ZC .i64 (Int.sub ((n+1:Nat):Int) 1)=(n:Int):=by
        have e:Int.sub ((n+1:Nat):Int) 1=(n:Int):=by show ((n+1:Nat):Int) - 1=_;omega
        rw [e];exact Vb (by omega)
       have hln:n < n+1:=lt_succ_self n;have hln2:n < n+1+1:=by omega
       have hln3:n+1 < n+1+1+1:=by omega
       by_cases c4:x.kind=ZZ\/x.kind=Y7
       . rw [if_pos c4] at hwj;rw [hwj,if_pos (by decide)] at hrep;rw [hq1 (by decide) hrep];have d3:((21:Int)=0)=False:=eq_false (by decide);obtain ⟨num,kind,names,vals,text⟩:=e;obtain ⟨xn,xk,xs,xv,xt⟩:=x;simp only [Pos.Ev.row] at hr hC hxr;simp only at d2 b3 c4;by_cases c5:xk=ZZ
         . have b5:Z6 xk [101,110,116,101,114]=true:=Yh c5;simp (maxDischargeDepth:=12) only [go_sem,reduceEqDiff,reduceAdd,reduceCtorEq,g0,g6,g8,hk,hr,hC,d1,hnum,d2,b3,hn,d4,hw1,hxr,b5,d3,hln];try rfl
         . have b5:Z6 xk [101,110,116,101,114]=false:=Yd c5;have b6:Z6 xk [114,101,116,117,114,110]=true:=Yh (c4.resolve_left c5);simp (maxDischargeDepth:=12) only [go_sem,reduceEqDiff,reduceAdd,reduceCtorEq,g0,g6,g8,hk,hr,hC,d1,hnum,d2,b3,hn,d4,hw1,hxr,b5,b6,d3,hln];try rfl
       . rw [if_neg c4] at hwj;have hacc:=hwj;rw [hwj,if_neg (by decide)] at hrep;have J2:=Ud Z7 J (n:=k) (e:=e) hacc;have b5:Z6 x.kind [101,110,116,101,114]=false:=Yd (fun h=>c4 (.inl h));have b6:Z6 x.kind [114,101,116,117,114,110]=false:=Yd (fun h=>c4 (.inr h));have hadd:YP j e=⟨j.cs.dropLast,Jp j.cs.dropLast⟩:=by unfold YP;rw [if_pos c3]
         rw [hadd] at hrep J2;have m1:(j.cs.map Pos.Ev.row).take n=j.cs.dropLast.map Pos.Ev.row:=by
          rw [dropLast_eq_take,hn,<- map_take];rfl
         have m2:((YQ ZS j.cs).map Z8).take (n+1)=(YQ ZS j.cs.dropLast).map Z8:=by
          rw [Z4t,hn,<- map_take];rfl
         have hdl:j.cs.dropLast.length<=k+1:=by rw [length_dropLast];omega
         clear hacc hwj hadd c4 hlast hx c3 c2 c1 hq1;obtain ⟨num,kind,names,vals,text⟩:=e;obtain ⟨xn,xk,xs,xv,xt⟩:=x;simp only [Pos.Ev.row] at hr hC hxr;simp only at d2 b3 b5 b6;simp (maxDischargeDepth:=12) only [go_sem,reduceEqDiff,reduceAdd,reduceCtorEq,g0,g6,g7,g8,hk,hr,hC,d1,hnum,d2,b3,hn,d4,hw1,hxr,b5,b6,hln,XH,GJ,YS,h5,h6,hrl,hln2,hln3,m1,m2];exact ⟨_,⟨_,rfl⟩,⟨_,rfl⟩,J2,hrep,hdl⟩
   . rw [if_neg c3] at hwj;have b3:Z6 e.kind [117,110,100,111]=false:=Yd c3;obtain ⟨tk,a,ha,hev,_,_⟩:=Un Z7 c1 c3;rw [ha] at hwj;simp only at hwj;obtain ⟨I,S⟩:=Gg Z7 J;have hA:=Ld j.reg e ⟨I,S,c1,c3⟩;have hC2:KU j.reg e=Pos.okA j.reg tk a:=by unfold KU;rw [ha]
     rw [hC2] at hA;have hreg:((YQ ZS j.cs).map Z8)[j.cs.length]? = some (Z8 j.reg):=by
      rw [getElem?_map,C9 _ _ _ (Nat.le_refl _),take_length,J.reg];rfl
     have hlr:j.cs.length < j.cs.length+1:=lt_succ_self _;by_cases c4:Pos.okA j.reg tk a=0
     case neg =>
      rw [hwj,if_pos c4] at hrep;rw [hq1 c4 hrep];have d3:(Pos.okA j.reg tk a=0)=False:=eq_false c4;generalize Pos.okA j.reg tk a=cd at hA d3;generalize Kk j.reg e=R' at hA;clear hwj ha hev c4 hrep hq1 hC2;obtain ⟨num,kind,names,vals,text⟩:=e;simp only [Pos.Ev.row,Z8] at hr hC hA hreg;simp only at d2 b3;simp (maxDischargeDepth:=12) only [go_sem,reduceEqDiff,reduceAdd,reduceSub,reduceCtorEq,g0,g6,g7,g8,hk,hr,hC,d1,hnum,d2,b3,hreg,hrl,hlr,hA,d3];try rfl
     rw [hwj,if_neg (fun h=>h c4)] at hrep;rw [c4,Zcu ha c4] at hA;have J2:=Ud Z7 J (n:=k) (e:=e) (hwj.trans c4);have hadd:YP j e=⟨j.cs++[e],Pos.doE j.reg e⟩:=by unfold YP;rw [if_neg c3]
     rw [hadd] at hrep J2;have m1:(j.cs++[e]).map Pos.Ev.row=j.cs.map Pos.Ev.row++[e.row]:=by simp
     have m2:(YQ ZS (j.cs++[e])).map Z8=(YQ ZS j.cs).map Z8++[Z8 (Pos.doE j.reg e)]:=by
      rw [Z4s,map_append,J.reg];rfl
     have hln2:(j.cs++[e]).length<=k+1:=by simp;omega
     clear hwj ha hev hq1 hC2 c4 hadd;generalize Pos.doE j.reg e=R' at *;obtain ⟨tA,HA,ha1,hB1,hn1,_,hC1⟩:=Gz (b:=0) (lo:=0) (H:=(H.push (.cells [.int .i64 0,.ps .nil [],.ps .nil [],.ps .nil [],.ps .nil [],.ps .nil []] 34)).set H.n (.cells (Z8 R') 34)) (t:=.exact) (rows:=[]) (rx:=j.cs.map Pos.Ev.row) (sz:=5) (e:=53) (.inl rfl) (zero_le _) (Nat.le_refl _) (by rw [length_map];unfold Z2;simp only [length_nil];omega) (Zcx _) (by decide) rfl (Zcy _);rw [nil_append] at ha1 hB1;obtain ⟨tB,HB,ha2,hB2,hn2,_,hC2⟩:=Gz (lo:=0) hB1 (zero_le _) (Nat.le_refl _) (rx:=[e.row]) (by rw [length_map];unfold Z2;simp only [length_cons,length_nil];omega) rfl (by decide) (Lf _) rfl;have hgB:=hC2 H.n _ _ (by simp at hn1;omega) (hC1 H.n _ _ (by simp) (by rw [Heap.get_set,if_pos rfl]));obtain ⟨tC,HC,ha3,hB3,hn3,_,hC3⟩:=Gz (b:=0) (lo:=0) (H:=HB) (t:=.exact) (rows:=[]) (rx:=(YQ ZS j.cs).map Z8) (sz:=6) (e:=34) (.inl rfl) (zero_le _) (Nat.le_refl _) (by rw [hrl];unfold Z2;simp only [length_nil];omega) (Zcv _) (by decide) rfl (Zcw _);rw [nil_append] at ha3 hB3;obtain ⟨tD,HD,ha4,hB4,hn4,_,_⟩:=Gz (lo:=0) hB3 (zero_le _) (Nat.le_refl _) (rx:=[Z8 R']) (by rw [hrl];unfold Z2;simp only [length_cons,length_nil];omega) rfl (by decide) (Le _) rfl;have hgC:=hC3 H.n _ _ (by simp at hn1;omega) hgB;have hu1:=fun r=>hB1.under (rows':=r)
     have hu2:=fun r=>hB2.under (rows':=r)
     have hu3:=fun r=>hB3.under (rows':=r)
     have hu4:=fun r=>hB4.under (rows':=r)
     clear hB1 hB2 hB3 hB4 hC1 hC2 hC3 hn1 hn2 hn3 hn4;obtain ⟨num,kind,names,vals,text⟩:=e;simp only [Pos.Ev.row] at hr hC hA hreg ha2;simp only [Z8] at hA hreg ha1 ha4 hgB hgC;simp only at d2 b3;simp (maxDischargeDepth:=12) only [go_sem,reduceEqDiff,reduceAdd,reduceMul,reduceSub,reduceLeDiff,reduceCtorEq,g0,g6,g7,g8,hk,hr,hC,d1,hnum,d2,b3,hreg,hrl,hlr,hA,Zu,ha1,ha2,hgB,ha3,ha4,h5,h6];exact ⟨⟨_,R'⟩,⟨tB,by rw [m1];rfl⟩,⟨tD,by rw [m2];rfl⟩,J2,hrep,hln2⟩
 . rintro T H M ⟨rfl,g0,g8,j,⟨t1,g6⟩,⟨t2,g7⟩,J,hrep,hle⟩;rw [drop_length] at hrep;have e:VA q=(j.cs,YQ ZS j.cs,0,0):=by rw [<- hrep];rfl
   rw [e];simp (maxDischargeDepth:=12) only [go_sem,reduceEqDiff,reduceCtorEq,g0,g8,Nat.lt_irrefl,g6,g7];try rfl
def p78:List AV->Option AV:=ZG (α:=(List Ev)) (fun x=>[.ps .unk (x.map Pos.Ev.row)]) (fun x=>x.length<=1000000) (fun x=>.tup [.ps .unk ((XO x).1.map Pos.Ev.row),.ps .unk ((XO x).2.1.map Z8),i64 ((XO x).2.2.1:Nat),i64 (XO x).2.2.2])
theorem pok78:Pok p78 78:=by
 intro args v h;obtain ⟨x,rfl,hp,rfl⟩:=ZL h;exact c78 x hp
theorem pe78 (l:List Ev) (hp:l.length<=1000000):p78 [.ps .unk (l.map Pos.Ev.row)]=some (.tup [.ps .unk ((XO l).1.map Pos.Ev.row),.ps .unk ((XO l).2.1.map Z8),.int .i64 ((XO l).2.2.1:Nat),.int .i64 (XO l).2.2.2]):=ZN (by intro x y h;(simp only [List.cons.injEq,AV.ps.injEq,CM,true_and,and_true] at h;first | simpa only [Prod.ext_iff] using h | simpa only [Prod.ext_iff,and_assoc] using h)) l hp
attribute [go_sem] pe78
def J9 (l:List Ev):Reg × Nat × Int:=if 1000 < l.length then (ZS,0,5) else if (ZE Z7 Pos.zJn 0 l).2.2=0 then ((ZE Z7 Pos.zJn 0 l).1.reg,0,0) else (ZS,(ZE Z7 Pos.zJn 0 l).2)
theorem Lg:∀ {l:List Ev} {j:Jn} {n:Nat},(ZE Z7 j n l).1.cs.length<=j.cs.length+l.length
 | [],j,n=>Nat.le_refl _
 | e::l,j,n=>by
   show (if YU Z7 j n e ≠ 0 then (j,n+1,YU Z7 j n e) else ZE Z7 (YP j e) (n+1) l).1.cs.length<=_
   split
   . exact le_add_right _ _
   . have h:=Lg (l:=l) (j:=YP j e) (n:=n+1);have h2:(YP j e).cs.length<=j.cs.length+1:=by
      unfold YP;split
      . show j.cs.dropLast.length<=_;rw [length_dropLast];omega
      . show (j.cs++[e]).length<=_;simp
     rw [length_cons];omega
def Lh:PF:=Zo 78 p78 (fun _=>none)
theorem ZcD:PrimsOk NC Lh:=Pa (ZK) pok78
theorem ZcE:En Lh 78 p78:=ZA (by rfl) (by kernel_rfl)
attribute [go_sem ↓] ZcE
theorem c17 (l:List Ev) (hp:l.length≤1000000):∀ lo H,Za NC lo 17 [.ps .unk (l.map Pos.Ev.row)] H (.tup [.agg (Z8 (J9 l).1),i64 ((J9 l).2.1:Nat),i64 (J9 l).2.2]) H:=by
 refine Cn ZcD Tryz.func17 rfl rfl ?_;have hC:=pe78 l hp;unfold J9;unfold XO at hC;by_cases hbig:1000 < l.length
 · rw [if_pos hbig] at hC ⊢;have d:((5:Int)=0)=False:=eq_false (by decide);simp (maxDischargeDepth:=12) only [go_sem,reduceEqDiff,reduceAdd,reduceCtorEq,hC,d];try rfl
 rw [if_neg hbig] at hC ⊢;have hJ:=Ue Z7 (l:=l) (n:=0) (Vk Z7);have hlc:=Lg (l:=l) (j:=Pos.zJn) (n:=0);generalize ZE Z7 Pos.zJn 0 l=q at *;unfold VA at hC;by_cases hz:q.2.2=0
 · rw [if_pos hz] at hC ⊢;have hreg:((YQ ZS q.1.cs).map Z8)[q.1.cs.length]? = some (Z8 q.1.reg):=by
    rw [getElem?_map,C9 _ _ _ (Nat.le_refl _),take_length,hJ.reg];rfl
   have hrl:(YQ ZS q.1.cs).length=q.1.cs.length+1:=C8 _ _;have hw1:ZC .i64 (Int.sub ((q.1.cs.length+1:Nat):Int) 1)=(q.1.cs.length:Int):=by
    have e:Int.sub ((q.1.cs.length+1:Nat):Int) 1=(q.1.cs.length:Int):=by show ((q.1.cs.length+1:Nat):Int) - 1=_;omega
    rw [e];exact Vb (by have:q.1.cs.length≤0+l.length:=hlc;omega)
   have hlr:q.1.cs.length < q.1.cs.length+1:=lt_succ_self _;simp only [Z8] at hreg;simp (maxDischargeDepth:=12) only [go_sem,reduceEqDiff,reduceAdd,reduceCtorEq,hC,hrl,hw1,hreg,hlr,Z8];try rfl
 · rw [if_neg hz] at hC ⊢;have d:(q.2.2=0)=False:=eq_false hz;simp (maxDischargeDepth:=12) only [go_sem,reduceEqDiff,reduceAdd,reduceCtorEq,hC,d];try rfl
def p17:List AV->Option AV:=ZG (α:=(List Ev)) (fun x=>[.ps .unk (x.map Pos.Ev.row)]) (fun x=>x.length<=1000000) (fun x=>.tup [.agg (Z8 (J9 x).1),i64 ((J9 x).2.1:Nat),i64 (J9 x).2.2])
theorem pok17:Pok p17 17:=by
 intro args v h;obtain ⟨x,rfl,hp,rfl⟩:=ZL h;exact c17 x hp
theorem pe17 (l:List Ev) (hp:l.length<=1000000):p17 [.ps .unk (l.map Pos.Ev.row)]=some (.tup [.agg (Z8 (J9 l).1),.int .i64 ((J9 l).2.1:Nat),.int .i64 (J9 l).2.2]):=ZN (by intro x y h;(simp only [List.cons.injEq,AV.ps.injEq,CM,true_and,and_true] at h;first | simpa only [Prod.ext_iff] using h | simpa only [Prod.ext_iff,and_assoc] using h)) l hp
attribute [go_sem] pe17
theorem ZcF (h:Qp e=true):e.kind.length<=40/\e.names.length<=6/\e.vals.length<=8:=by
 unfold Qp at h;simp only [and_eq_true,decide_eq_true_eq] at h;exact ⟨h.1,h.2.1,h.2.2.1⟩
theorem ZcG {n:Int} (h:Jy l n=true):(l.length:Int)<=n /\ ∀ e ∈ l,EvS e:=by
 unfold Jy at h;rw [and_eq_true,decide_eq_true_eq,all_eq_true] at h;refine ⟨h.1,fun e he => ?_⟩;have:=ZcF (h.2 e he);unfold EvS Z2;omega
theorem CY (a b:Int):Zc [a,b]=if a ≠ 0 then a else b:=by
 unfold Zc Zc Zc;by_cases h1:a=0<;>by_cases h2:b=0<;>simp [h1,h2]
theorem en28:Q6 28:=Qm
def wNm (r:Reg) (w:Nm) (k:Nat):List Nm:=((r.machs.take k).filter fun m=>decide (m.poss=w)).map (·.name)
theorem ZcH (hl:ZH r) (w:Nm):∃ t H2,R (NC.withPrims P) (.call H.n 28 [.agg (Z8 r),.str w] H)=some (.ofVal (.ps t (Z0 ((r.within w).map (·.name)))) H2)∧ZB H.n H2 t (Z0 ((r.within w).map (·.name))) 1 9∧Old H.n H H2:=by
 obtain ⟨v,H2,h1,t,rfl,h2⟩:=Zd (C:=NC.withPrims P) (f:=28) (lo:=H.n) (args:=[.agg (Z8 r),.str w]) (H:=H) (fn:=Tryz.f28) (Q:=fun v H2=>∃ t,v=.ps t (Z0 ((r.within w).map (·.name)))∧ZB H.n H2 t (Z0 ((r.within w).map (·.name))) 1 9∧Old H.n H H2) (by kernel_rfl) Tryz.func28 rfl rfl (by
  obtain ⟨n1,n2,n3,n4,n5⟩:=hl;simp (maxDischargeDepth:=12) only [go_sem,reduceAdd,Z8];refine ZP (fun k T Hc M=>M=[]∧Z1 T 1=.str w∧Z1 T 2=.ptr H.n 0∧Z1 T 6=i64 k∧H.n+1≤Hc.n∧Hc.get H.n=.cells (Z8 r) 34∧Old H.n H Hc ∧ ∃ t,Z1 T 5=.ps t (Z0 (wNm r w k))∧ZB (H.n+1) Hc t (Z0 (wNm r w k)) 1 9) r.machs.length ?_ ?_ ?_
  · simp (maxDischargeDepth:=12) only [go_sem,reduceEqDiff,reduceCtorEq];exact ⟨rfl,.nil,rfl,.inl ⟨rfl,rfl⟩⟩
  · rintro k T Hc M hk ⟨rfl,g1,g2,g6,hn,hg,ho,t,g5,hA⟩;obtain ⟨y,hy⟩:∃ y,r.machs[k]? = some y:=⟨r.machs[k],by simp⟩;have hr:(r.machs.map Pos.Mch.row)[k]? = some [.str y.name,.str y.poss]:=Zy (f:=Pos.Mch.row) hy;have hst:wNm r w (k+1)=wNm r w k++(if y.poss=w then [y.name] else []):=L6 hy
    have hw:=ZQ hk (by unfold Z2;omega);have hle:(wNm r w k).length≤r.machs.length:=by
     unfold wNm;rw [length_map];have:=length_filter_le (fun m:Mch=>decide (m.poss=w)) (r.machs.take k);rw [length_take] at this;omega
    rw [hst];generalize wNm r w k=W at *;by_cases hp:y.poss=w
    · have b1:=Yh hp;rw [if_pos hp];obtain ⟨t',H3,ha,hB,hn1,hO1,hC1⟩:=Xm (lo:=H.n) hA hn (le_succ _) (r:=[.str y.name]) (by rw [Zv];unfold Z2;omega) rfl (by decide) (Kf _);have hmap:Z0 W++[[AV.str y.name].map AV.strip0]=Z0 (W++[y.name]):=by simp [Z0,AV.strip0]
      rw [hmap] at ha hB;have hg0':=hC1 H.n _ _ (by omega) hg;have hO3:Old H.n H H3:=⟨by omega,fun j hj=>(hO1.2 j (by omega)).trans (ho.2 j hj)⟩;unfold Z8 at hg hg0' ⊢;obtain ⟨nm,ps⟩:=y;simp only at hr b1 ha hB;simp (maxDischargeDepth:=12) only [go_sem,reduceEqDiff,reduceAdd,reduceMul,reduceLeDiff,g1,g2,g6,g5,hg,hr,hk,length_map,b1,Zu,ha,hw];exact ⟨by omega,hg0',hO3,t',rfl,hB⟩
    · have b1:=Yd hp;rw [if_neg hp,append_nil];have hg':=hg;unfold Z8 at hg;obtain ⟨nm,ps⟩:=y;simp only at hr b1;simp (maxDischargeDepth:=12) only [go_sem,reduceEqDiff,reduceAdd,g1,g2,g6,g5,hg,hr,hk,length_map,b1,hw];exact ⟨hn,rfl,ho,t,rfl,hA⟩
  · rintro T Hc M ⟨rfl,g1,g2,g6,hn,hg,ho,t,g5,hA⟩;have e:wNm r w r.machs.length=(r.within w).map (·.name):=by unfold wNm;rw [take_length];rfl
    rw [e] at g5 hA;unfold Z8 at hg;simp (maxDischargeDepth:=12) only [go_sem,reduceEqDiff,reduceAdd,reduceCtorEq,g2,g6,g5,hg,length_map,Nat.lt_irrefl];refine ⟨t,rfl, ?_,ho⟩;rcases hA with h | ⟨j,h1,h2,h3,h4,h5⟩
    · exact .inl h
    · exact .inr ⟨j,h1,h2,by omega,h4,h5⟩)
 exact ⟨t,H2,h1,h2⟩
theorem Li (hP:P 28=none) (hl:ZH r) (w:Nm):∃ t H2,(∀ lo K,VO (Z9 (NC.withPrims P) (R (NC.withPrims P)) lo 28 [.agg (Z8 r),.str w] H) K=K (.ps t (Z0 ((r.within w).map (·.name)))) H2)/\ZB H.n H2 t (Z0 ((r.within w).map (·.name))) 1 9/\Old H.n H H2:=by
 obtain ⟨t,H2,h1,h2,h3⟩:=ZcH (P:=P) (H:=H) hl w;exact ⟨t,H2,fun lo K=>by rw [en28 hP,h1];rfl,h2,h3⟩
theorem ZcI (hP:P 28=none) (hl:ZH r) (w:Nm):∃ (f:Heap->Tok) (g:Heap->Heap),(∀ H lo K,VO (Z9 (NC.withPrims P) (R (NC.withPrims P)) lo 28 [.agg (Z8 r),.str w] H) K=K (.ps (f H) (Z0 ((r.within w).map (·.name)))) (g H))/\(∀ H i,i < H.n->(g H).get i=H.get i) /\ ∀ H,H.n<=(g H).n:=by
 have h:=fun H=>Li (P:=P) hP (H:=H) hl w
 refine ⟨fun H=>(h H).choose,fun H=>(h H).choose_spec.choose,fun H lo K=>(h H).choose_spec.choose_spec.1 lo K,fun H i hi=>(h H).choose_spec.choose_spec.2.2.2 i hi,fun H=>(h H).choose_spec.choose_spec.2.2.1⟩
attribute [local go_sem ↓ 4000] L7 L8 L9
def Lj:PF:=fun _=>none
theorem ZcJ:PrimsOk NC Lj:=ZK
theorem c29 (r:Reg) (y:Pos) (hp:ZH r):∀ lo H,Za NC lo 29 [.agg (Z8 r),.agg y.row] H (.ps .unk (Z0 (Xf r y))) H:=by
 refine Cn ZcJ Tryz.func29 rfl rfl ?_;obtain ⟨mt,H2,hM,hA,ho⟩:=Li (P:=Lj) rfl (H:=(Heap.empty.push (.cells (Z8 r) 34)).push (.cells y.row 76)) hp y.name;have hwl:((r.within y.name).map (·.name)).length≤1000000:=by
  rw [length_map];exact Nat.le_trans (length_filter_le _ _) hp.2.2.2.2
 have g1:H2.get 1=.cells y.row 76:=(ho.2 1 (by simp)).trans (by rw [Heap.get_push];exact if_pos rfl);have hn2:2≤H2.n:=ho.1;simp only [JY,Bp] at hA;clear ho;unfold Xf;generalize ((r.within y.name).map (·.name))=W at *;obtain ⟨nm,tr,fa,tb,rt,pr,op,cl,pe,sp⟩:=y;simp only [Pos.Pos.row,Z8] at g1 hM ⊢;have step:∀ (b:Bool) (w:Nm) (t:Tok) (l:List Nm) (H:Heap),l.length≤1000005→ZB 2 H t (Z0 l) 1 9→2≤H.n → ∃ t' H',Xx 0 H 1 9 (.ps t (Z0 l)) [[.str w]]=some (.ps t' (Z0 (l++[w])),H')∧ZB 2 H' t' (Z0 (l++[w])) 1 9∧2≤H'.n∧(∀ i c u,i < H.n→H.get i=.cells c u→H'.get i=.cells c u):=fun b w t l H hl hA hn=>by
  obtain ⟨t',H',h1,h2,h3,h4⟩:=Kj (lo:=0) hA hn (zero_le _) (by unfold Z2;omega) w;exact ⟨t',H',h1,h2,by omega,h4⟩
 obtain ⟨t1,K1,a1,b1,l1,o1⟩:=step true Uf mt W H2 (by omega) hA hn2;have g2:=o1 1 _ _ (by omega) g1;obtain ⟨t2,K2,a2,b2,l2,o2⟩:=step true KG mt W H2 (by omega) hA hn2;have g3:=o2 1 _ _ (by omega) g1;obtain ⟨t3,K3,a3,b3,l3,o3⟩:=step true J5 mt W H2 (by omega) hA hn2;obtain ⟨t4,K4,a4,b4,l4,o4⟩:=step true KG t1 _ K1 (by simp;omega) b1 l1;have g4:=o4 1 _ _ (by omega) g2;obtain ⟨t5,K5,a5,b5,l5,o5⟩:=step true J5 t1 _ K1 (by simp;omega) b1 l1;obtain ⟨t6,K6,a6,b6,l6,o6⟩:=step true J5 t2 _ K2 (by simp;omega) b2 l2;obtain ⟨t7,K7,a7,b7,l7,o7⟩:=step true J5 t4 _ K4 (by simp;omega) b4 l4;by_cases q:0 < pe
 · have q':=eq_true q;rw [if_pos q];cases op<;>cases pr<;>simp (maxDischargeDepth:=12) only [go_sem,reduceEqDiff,reduceAdd,reduceMul,reduceLeDiff,reduceCtorEq,hM,g1,q',Zu,a1,a4,a5,a7,g2,g4,if_true,if_false,false_eq_true,append_nil]<;>try (first | rfl | (simp only [append_assoc,nil_append,cons_append]<;>rfl))
 · have q':=eq_false q;rw [if_neg q];cases op<;>cases pr<;>simp (maxDischargeDepth:=12) only [go_sem,reduceEqDiff,reduceAdd,reduceMul,reduceLeDiff,reduceCtorEq,hM,g1,q',Zu,a2,a3,a6,g3,if_true,if_false,false_eq_true,append_nil]<;>try (first | rfl | (simp only [append_assoc,nil_append,cons_append]<;>rfl))
def p29:List AV->Option AV:=ZG (α:=(Reg) × (Pos)) (fun x=>[.agg (Z8 x.1),.agg x.2.row]) (fun x=>ZH x.1) (fun x=>.ps .unk (Z0 (Xf x.1 x.2)))
theorem pok29:Pok p29 29:=by
 intro args v h;obtain ⟨x,rfl,hp,rfl⟩:=ZL h;exact c29 x.1 x.2 hp
theorem pe29 (r:Reg) (y:Pos) (hp:ZH r):p29 [.agg (Z8 r),.agg y.row]=some (.ps .unk (Z0 (Xf r y))):=ZN (by intro x y h;(simp only [List.cons.injEq,AV.agg.injEq,Pos.Pos.row_inj,KR,and_true] at h;first | simpa only [Prod.ext_iff] using h | simpa only [Prod.ext_iff,and_assoc] using h)) (r,y) hp
attribute [go_sem] pe29
end Go.Sim

namespace Go.Sim
theorem c25 (l:List Ev) (s:Nm) (hp:l.length<=1000/\(∀ z ∈ l,EvS z)):∀ lo H,Za NC lo 25 [.ps .unk (l.map Pos.Ev.row),.str s] H (.tup [.ps .unk (Z0 (QP l s).1),i64 (QP l s).2]) H:=fun lo H=>by
 obtain ⟨w,H2,h1,h2⟩:=r25 l s hp (H:=.empty);have:=G8 Ck (f:=25) (args:=[.ps .unk (l.map Pos.Ev.row),.str s]) h1 rfl (by rw [h2];rfl) lo H;rw [h2] at this;exact (Qj Gn).1 this
def p25:List AV->Option AV:=ZG (α:=(List Ev) × (Nm)) (fun x=>[.ps .unk (x.1.map Pos.Ev.row),.str x.2]) (fun x=>x.1.length<=1000/\(∀ z ∈ x.1,EvS z)) (fun x=>.tup [.ps .unk (Z0 (QP x.1 x.2).1),i64 (QP x.1 x.2).2])
theorem pok25:Pok p25 25:=by
 intro args v h;obtain ⟨x,rfl,hp,rfl⟩:=ZL h;exact c25 x.1 x.2 hp
theorem pe25 (l:List Ev) (s:Nm) (hp:l.length<=1000/\(∀ z ∈ l,EvS z)):p25 [.ps .unk (l.map Pos.Ev.row),.str s]=some (.tup [.ps .unk (Z0 (QP l s).1),.int .i64 (QP l s).2]):=ZN (by intro x y h;(simp only [List.cons.injEq,AV.agg.injEq,AV.str.injEq,AV.int.injEq,AV.ps.injEq,AV.bool.injEq,Pos.Ev.row_inj,KH,CI,true_and,and_true] at h;first | simpa only [Prod.ext_iff] using h | simpa only [Prod.ext_iff,and_assoc] using h)) (l,s) hp
attribute [go_sem] pe25
theorem c26 (l:List Ev) (s:Nm) (hp:l.length<=1000/\(∀ z ∈ l,EvS z)):∀ lo H,Za NC lo 26 [.ps .unk (l.map Pos.Ev.row),.str s] H (.tup [.bool (QO l s).1,i64 (QO l s).2]) H:=fun lo H=>by
 obtain ⟨w,H2,h1,h2⟩:=r26 l s hp (H:=.empty);have:=G8 Ck (f:=26) (args:=[.ps .unk (l.map Pos.Ev.row),.str s]) h1 rfl (by rw [h2];rfl) lo H;rw [h2] at this;exact (Qj Gn).1 this
def p26:List AV->Option AV:=ZG (α:=(List Ev) × (Nm)) (fun x=>[.ps .unk (x.1.map Pos.Ev.row),.str x.2]) (fun x=>x.1.length<=1000/\(∀ z ∈ x.1,EvS z)) (fun x=>.tup [.bool (QO x.1 x.2).1,i64 (QO x.1 x.2).2])
theorem pok26:Pok p26 26:=by
 intro args v h;obtain ⟨x,rfl,hp,rfl⟩:=ZL h;exact c26 x.1 x.2 hp
theorem pe26 (l:List Ev) (s:Nm) (hp:l.length<=1000/\(∀ z ∈ l,EvS z)):p26 [.ps .unk (l.map Pos.Ev.row),.str s]=some (.tup [.bool (QO l s).1,.int .i64 (QO l s).2]):=ZN (by intro x y h;(simp only [List.cons.injEq,AV.agg.injEq,AV.str.injEq,AV.int.injEq,AV.ps.injEq,AV.bool.injEq,Pos.Ev.row_inj,CI,true_and,and_true] at h;first | simpa only [Prod.ext_iff] using h | simpa only [Prod.ext_iff,and_assoc] using h)) (l,s) hp
attribute [go_sem] pe26
theorem c27 (l:List Ev) (s:Nm) (hp:l.length<=1000/\(∀ z ∈ l,EvS z)):∀ lo H,Za NC lo 27 [.ps .unk (l.map Pos.Ev.row),.str s] H (.tup [.agg [i64 (XM l s).1.1,i64 (XM l s).1.2],i64 (XM l s).2]) H:=fun lo H=>by
 obtain ⟨w,H2,h1,h2⟩:=r27 l s hp (H:=.empty);have:=G8 Ck (f:=27) (args:=[.ps .unk (l.map Pos.Ev.row),.str s]) h1 rfl (by rw [h2];rfl) lo H;rw [h2] at this;exact (Qj Gn).1 this
def p27:List AV->Option AV:=ZG (α:=(List Ev) × (Nm)) (fun x=>[.ps .unk (x.1.map Pos.Ev.row),.str x.2]) (fun x=>x.1.length<=1000/\(∀ z ∈ x.1,EvS z)) (fun x=>.tup [.agg [i64 (XM x.1 x.2).1.1,i64 (XM x.1 x.2).1.2],i64 (XM x.1 x.2).2])
theorem pok27:Pok p27 27:=by
 intro args v h;obtain ⟨x,rfl,hp,rfl⟩:=ZL h;exact c27 x.1 x.2 hp
theorem pe27 (l:List Ev) (s:Nm) (hp:l.length<=1000/\(∀ z ∈ l,EvS z)):p27 [.ps .unk (l.map Pos.Ev.row),.str s]=some (.tup [.agg [.int .i64 (XM l s).1.1,.int .i64 (XM l s).1.2],.int .i64 (XM l s).2]):=ZN (by intro x y h;(simp only [List.cons.injEq,AV.agg.injEq,AV.str.injEq,AV.int.injEq,AV.ps.injEq,AV.bool.injEq,Pos.Ev.row_inj,CI,true_and,and_true] at h;first | simpa only [Prod.ext_iff] using h | simpa only [Prod.ext_iff,and_assoc] using h)) (l,s) hp
attribute [go_sem] pe27
theorem ZcK (a b:Bool):Y5 NC.P 100 4 (.bool a) (.bool b)=some (a == b):=by kernel_rfl
theorem ZcL:Qa NC.P 100 4=true:=by kernel_rfl
theorem ZcM:Qa NC.P 100 73=true:=by kernel_rfl
theorem ZcN (a b:Int):YC NC.P 73 [(0,.int .i64 a),(1,.int .i64 b)]=some (.agg [.int .i64 a,.int .i64 b]):=by kernel_rfl
attribute [go_sem] ZcK ZcL ZcM ZcN
theorem ZcO {s:Nm}:(r.poss? s=none/\atL (ZO r 112) s = -1) \/ ∃ (i:Nat) (y:Pos),r.poss? s=some y/\atL (ZO r 112) s=(i:Int)/\r.poss[i]? = some y/\i < r.poss.length:=XX (fun z:Pos=>z.name) s r.poss
def QF:PF:=Zo 30 p30 (Zo 29 p29 (Zo 18 p18 (Zo 19 p19 (Zo 20 p20 (Zo 17 p17 (Zo 27 p27 (Zo 26 p26 (Zo 25 p25 (Zo 15 p15 (Zo 14 p14 (fun _=>none)))))))))))
theorem ZcP:PrimsOk NC QF:=Yn (Yn (Yn (Yn (Yn (Yn (Yn (Yn (Pa (Pa (Pa (ZK) pok14) pok15) pok25) (by kernel_rfl) (by kernel_rfl) pok26) (by kernel_rfl) (by kernel_rfl) pok27) (by kernel_rfl) (by kernel_rfl) pok17) (by kernel_rfl) (by kernel_rfl) Gx) (by kernel_rfl) (by kernel_rfl) pok19) (by kernel_rfl) (by kernel_rfl) pok18) (by kernel_rfl) (by kernel_rfl) pok29) (by kernel_rfl) (by kernel_rfl) pok30
theorem ZcQ:En QF 14 p14:=ZA (by rfl) (by kernel_rfl)
theorem ZcR:En QF 15 p15:=ZA (by rfl) (by kernel_rfl)
theorem ZcS:En QF 25 p25:=ZA (by rfl) (by kernel_rfl)
theorem ZcT:En QF 26 p26:=ZA (by rfl) (by kernel_rfl)
theorem ZcU:En QF 27 p27:=ZA (by rfl) (by kernel_rfl)
theorem ZcV:En QF 17 p17:=ZA (by rfl) (by kernel_rfl)
theorem ZcW:En QF 20 p20:=ZA (by rfl) (by kernel_rfl)
theorem ZcX:En QF 19 p19:=ZA (by rfl) (by kernel_rfl)
theorem ZcY:En QF 18 p18:=ZA (by rfl) (by kernel_rfl)
theorem ZcZ:En QF 29 p29:=ZA (by rfl) (by kernel_rfl)
theorem Zd0:En QF 30 p30:=ZA (by rfl) (by kernel_rfl)
attribute [go_sem ↓] ZcQ ZcR ZcS ZcT ZcU ZcV ZcW ZcX ZcY ZcZ Zd0
theorem c5 (l:List Ev) (s:Nm):∀ lo H,Za NC lo 5 [.ps .unk (l.map Pos.Ev.row),.str s] H (.bool true) H:=by
 refine Cn ZcP Tryz.func5 rfl rfl ?_;have hS:=pe14 l 24 (by decide);cases hsh:Jy l 24 with
 | false =>
   rw [hsh] at hS;simp (maxDischargeDepth:=12) only [go_sem,reduceIte,reduceEqDiff,reduceAdd,reduceMul,reduceSub,reduceLeDiff,reduceLT,Nat.reduceBEq,reduceCtorEq,hS]
 | true =>
 rw [hsh] at hS;obtain ⟨hl,hev⟩:=ZcG hsh;by_cases hbig:(40:Int) < s.length
 . simp (maxDischargeDepth:=12) only [go_sem,reduceIte,reduceEqDiff,reduceAdd,reduceMul,reduceSub,reduceLeDiff,reduceLT,Nat.reduceBEq,reduceCtorEq,hS,hbig]
 have hB:=pe25 l s ⟨by omega,hev⟩;have hY:=pe26 l s ⟨by omega,hev⟩;have hI:=pe27 l s ⟨by omega,hev⟩;have hR:=pe17 l (by omega);have hJ:=Ue Z7 (l:=l) (n:=0) (Vk Z7);have hmm:=CK hJ;unfold J9 at hR;rw [if_neg (by omega)] at hR;unfold QP at hB;unfold QO at hY;unfold XM at hI;generalize ZE Z7 Pos.zJn 0 l=q at *;have d0:((0:Int)=0)=True:=eq_true rfl;have dA:∀ a:Int,(a=a)=True:=fun a=>eq_true rfl
 have hSE:p30 [.ps .unk [],.ps .unk []]=some (.bool true):=(pe30 [] [] (zero_le _)).trans (by rw [decide_eq_true rfl]);have wz:ZC .i64 (Int.add 0 0)=0:=by kernel_rfl
 have bb:∀ b:Bool,(b == b)=true:=fun b=>by cases b<;>rfl
 by_cases hz:q.2.2=0
 case neg =>
  rw [if_pos hz] at hB hY hI;rw [if_neg hz] at hR;have hA:=Vy ZS 112 s ⟨by unfold ZH;decide,by unfold QD;decide⟩;have hA1:atL (ZO ZS 112) s = -1:=rfl;rw [hA1] at hA;have hF:=pe18 [q.2.2,10] (by simp;unfold Z2;omega);rw [CY,if_pos hz] at hF;have hints:Z3 [q.2.2,10]=[[.int .i64 q.2.2],[.int .i64 10]]:=rfl;rw [hints] at hF;have d:(q.2.2=0)=False:=eq_false hz;have hW:Z5 (decide ((-1:Int) < 0)) 10=10:=rfl;have hst0:Z0 []=[]:=rfl;simp only [Z8,hst0] at hA hR hB hY hI;simp (maxDischargeDepth:=12) only [go_sem,reduceIte,reduceEqDiff,reduceAdd,reduceMul,reduceSub,reduceLeDiff,reduceLT,Nat.reduceBEq,reduceCtorEq,hS,hbig,hB,hY,hI,hR,hA,hW,hF,d,hSE,dA,wz,bb];try rfl
 rw [if_neg (fun h=>h hz)] at hB hY hI;rw [if_pos hz] at hR;obtain ⟨I,S⟩:=Gg Z7 hJ;have hA:=Vy q.1.reg 112 s ⟨Ux S,by unfold QD;decide⟩;rcases ZcO (r:=q.1.reg) (s:=s) with ⟨h1,h2⟩ | ⟨i,y,h1,h2,h3,h4⟩
 . rw [h1] at hB hY hI;rw [h2] at hA;have hF:=pe18 [0,10] (by simp;unfold Z2;omega);rw [CY,if_neg (by decide)] at hF;have hints:Z3 [0,10]=[[.int .i64 0],[.int .i64 10]]:=rfl;rw [hints] at hF;have d:((10:Int)=0)=False:=eq_false (by decide);have hW:Z5 (decide ((-1:Int) < 0)) 10=10:=rfl;have hst0:Z0 []=[]:=rfl;simp only [Z8,hst0] at hA hR hB hY hI;simp (maxDischargeDepth:=12) only [go_sem,reduceIte,reduceEqDiff,reduceAdd,reduceMul,reduceSub,reduceLeDiff,reduceLT,Nat.reduceBEq,reduceCtorEq,hS,hbig,hB,hY,hI,hR,hA,hW,hF,d,hSE,dA,wz,bb];try rfl
 rw [h1] at hB hY hI;rw [h2] at hA;have hF:=pe18 [0,0] (by simp;unfold Z2;omega);rw [CY,if_neg (by decide)] at hF;have hints:Z3 [0,0]=[[.int .i64 0],[.int .i64 0]]:=rfl;rw [hints] at hF;have hW:Z5 (decide ((i:Int) < 0)) 10=0:=by rw [decide_eq_false (by omega)];rfl
 have hrow:(q.1.reg.poss.map Pos.Pos.row)[i]? = some (Pos.Pos.row y):=Zy h3;obtain ⟨mf,mg,hM,hO,hN⟩:=ZcI (P:=QF) rfl (Ux S) s;have hn:y.name=s:=by simpa using find?_some h1
 have hH:Xn q.1.reg s y=Xf q.1.reg y:=by
  subst hn;unfold Xn Xf;simp only [append_assoc];rfl
 have hBr:=pe29 q.1.reg y (Ux S);simp only at hB hY hI;rw [hH] at hB hY;have hll:(Xf q.1.reg y).length<=Z2:=by
  have hle:(q.1.reg.within y.name).length<=q.1.reg.machs.length:=length_filter_le _ _;unfold Xf;simp only [length_append,length_map];have n1:∀ (c:Prop) [Decidable c] (z:Nm),(if c then [z] else []).length<=1:=fun c _ z=>by split<;>simp
  have a1:=n1 (0 < y.pers) Uf;have a2:=n1 (y.opn=true) KG;have a3:=n1 (y.prot=true) J5;unfold Z2;omega
 have hSW:=pe30 (Xf q.1.reg y) (Xf q.1.reg y) hll;rw [decide_eq_true rfl] at hSW;have hml:(Z0 ((q.1.reg.within s).map (·.name))).length=(q.1.reg.within s).length:=by rw [Zv,length_map]
 have hmw:(q.1.reg.within s).length=(q.1.reg.within s).length:=rfl;generalize (q.1.reg.within s).length=ml at *;generalize Z0 ((q.1.reg.within s).map (·.name))=ms at *;have hsl:=Zv (Xf q.1.reg y);have he:(Xf q.1.reg y).isEmpty=decide ((Xf q.1.reg y).length=0):=by cases Xf q.1.reg y<;>rfl
 generalize Xf q.1.reg y=HL at *;have hi:=eq_true h4;have w23:Z5 true 23=23:=rfl;have w0:Z5 false 23=0:=rfl;have d23:((23:Int)=0)=False:=eq_false (by decide);clear hmm hJ h1 h2 h3 hn I S;obtain ⟨nm,tr,fa,tb,rt,pr,op,cl,pe,sp⟩:=y;have hst0:Z0 []=[]:=rfl;simp only [Pos.Pos.row,Z8] at hrow hBr hB hY hI hA hR hM;cases rt with
 | true =>
   rw [if_pos rfl] at hB hY;simp only [hst0] at hB;simp (maxDischargeDepth:=12) only [go_sem,reduceIte,reduceEqDiff,reduceAdd,reduceMul,reduceSub,reduceLeDiff,reduceLT,Nat.reduceBEq,reduceCtorEq,hS,hbig,hB,hY,hI,hR,hA,hW,hF,d0,hSE,dA,wz,bb,hrow,hi,hM,hO,hN,hml,w23,d23];try rfl
 | false =>
   rw [if_neg (by simp)] at hB hY;simp only [he] at hY;by_cases c1:HL.length=0
   . have q1:(((HL.length:Nat):Int)=0)=True:=eq_true (by omega);by_cases c2:0 < cl
     . have q2:=eq_true c2;rw [decide_eq_true c1,decide_eq_true c2] at hY;simp only [Bool.and_self] at hY;simp (maxDischargeDepth:=12) only [go_sem,reduceIte,reduceEqDiff,reduceAdd,reduceMul,reduceSub,reduceLeDiff,reduceLT,Nat.reduceBEq,reduceCtorEq,hS,hbig,hB,hY,hI,hR,hA,hW,hF,d0,hSE,dA,wz,bb,hrow,hi,hM,hO,hN,hml,w0,hBr,hsl,hSW,q1,q2];try rfl
     . have q2:=eq_false c2;rw [decide_eq_true c1,decide_eq_false c2] at hY;simp only [Bool.and_false] at hY;simp (maxDischargeDepth:=12) only [go_sem,reduceIte,reduceEqDiff,reduceAdd,reduceMul,reduceSub,reduceLeDiff,reduceLT,Nat.reduceBEq,reduceCtorEq,hS,hbig,hB,hY,hI,hR,hA,hW,hF,d0,hSE,dA,wz,bb,hrow,hi,hM,hO,hN,hml,w0,hBr,hsl,hSW,q1,q2];try rfl
   . have q1:(((HL.length:Nat):Int)=0)=False:=eq_false (by omega);rw [decide_eq_false c1] at hY;simp only [Bool.false_and] at hY;simp (maxDischargeDepth:=12) only [go_sem,reduceIte,reduceEqDiff,reduceAdd,reduceMul,reduceSub,reduceLeDiff,reduceLT,Nat.reduceBEq,reduceCtorEq,hS,hbig,hB,hY,hI,hR,hA,hW,hF,d0,hSE,dA,wz,bb,hrow,hi,hM,hO,hN,hml,w0,hBr,hsl,hSW,q1];try rfl
end Go.Sim
