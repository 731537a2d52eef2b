/-
The parts NetB12, NetB13, NetB14, NetB15, NetA6, NetB16, NetLocal, NetTk0, NetTk, NetTk2, NetTk3, NetWalk, NetTk4, NetWP, NetWL, NetWR, NetWU, NetWS, NetWT, NetWV, NetWM, NetWN, NetP88, NetB17 of one proof, joined: each begins with a remark that says what it shows.
-/
import Derived.Test.YtepaopekeidlmaaGreatDoorT15
set_option linter.unusedSimpArgs false
set_option linter.unusedVariables false
open Nat (reduceEqDiff reduceAdd reduceMul reduceSub reduceLeDiff reduceLT)

/-
Texts: one line's words, by the reference.
-/
namespace Go.Sim
open Go Go.Proofs
set_option maxRecDepth 100000
set_option maxHeartbeats 64000000
structure Room (n:Net):Prop where
 ok:n.Ok
 lines:n.lines.length+1≤maxRows
 sws:n.sws.length+1≤maxRows
 sts:n.sts.length+1≤maxRows
 ps:∀ l ∈ n.lines,l.ps.length+1≤maxRows
structure S173 (n:Net) (H:Heap) (p:Nat) (lv:AV) (L:List LT) (t2 t3:Tok):Prop where
 b1:H.get 1=.cells [.ps .nil [],.ps .nil [],.ps .nil []] 26
 bp:H.get p=.cells [lv,.ps t2 (n.sws.map Sw.row),.ps t3 (n.sts.map Stc.row)] 26
 p2:2≤p
 n5:5≤H.n
 pn:p < H.n
 lv:LV 56 5 H lv L
 ls:L.map Prod.snd=n.lines
 last:LastE 97 5 H L
 a2:AppE 5 H t2 (n.sws.map Sw.row) 5 191
 a3:AppE 5 H t3 (n.sts.map Stc.row) 5 193
theorem deep_res {H:Heap} {lv:AV} {L:List LT} {te:TypeId} {b:Nat} (h:LV te b H lv L) (t2 t3:Tok) (r2 r3:List (List AV)) (k:Int) (o:Bool) :
 deep 4 H (.tup [.agg [lv,.ps t2 r2,.ps t3 r3],.int .i64 k,.bool o])=some (.tup [.agg [.ps .unk ((L.map Prod.snd).map Ln.row),.ps .unk r2,.ps .unk r3],.int .i64 k,.bool o]):=by
 have e:=deep_lv h 0
 have e2:deep 3 H (.agg [lv,.ps t2 r2,.ps t3 r3])=some (.agg [.ps .unk ((L.map Prod.snd).map Ln.row),.ps .unk r2,.ps .unk r3]):=by
  show (match deepC (deep 2 H) [lv,.ps t2 r2,.ps t3 r3] with
   | some l=>some (AV.agg l)
   | none=>none)=_
  unfold deepC
  rw [e]
  rfl
 show (match deepC (deep 3 H) [.agg [lv,.ps t2 r2,.ps t3 r3],.int .i64 k,.bool o] with
  | some l=>some (AV.tup l)
  | none=>none)=_
 unfold deepC
 rw [e2]
 rfl
theorem drop_snd {α:Type} {A:List α} {a b:α} {k:Nat} (h:A.length=k):(A++[a,b]).drop (k+1)=[b]:=by
 have e:A++[a,b]=(A++[a])++[b]:=by simp
 rw [e];exact List.drop_left' (by simp [h])
theorem drop_all2 {α:Type} {A:List α} {a b:α} {k:Nat} (h:A.length=k):(A++[a,b]).drop (k+1+1)=[]:=List.drop_eq_nil_of_le (by simp [h])
theorem take_snd {α:Type} {A:List α} {a b:α} {k:Nat} (h:A.length=k):(A++[a,b]).take (k+1)=A++[a]:=by
 have e:A++[a,b]=(A++[a])++[b]:=by simp
 rw [e];exact List.take_left' (by simp [h])
theorem natOf_3 (lim:Nat) (k:IntKind):natOf lim (.int k 3)=if 3 < lim then some 3 else none:=rfl
theorem natOf_4 (lim:Nat) (k:IntKind):natOf lim (.int k 4)=if 4 < lim then some 4 else none:=rfl
theorem natOf_5 (lim:Nat) (k:IntKind):natOf lim (.int k 5)=if 5 < lim then some 5 else none:=rfl
theorem natOf_2t (lim:Nat) (k:IntKind):natOf lim (.int k 2)=if 2 < lim then some 2 else none:=rfl
theorem w173 (n:Net) (hr:Room n) (ws:List Wd) (hne:ws ≠ []) (hwl:ws.length≤maxRows) (hww:∀ w ∈ ws,w.length≤maxRows) :
 ∃ v H',R WR (.call 0 173 [.agg n.cells,.ps .unk (ws.map strRow)] .empty)=some (.ofVal v H')∧deep 4 H' v=some (.tup [.agg (parsedF n ws).1.cells,.int .i64 (parsedF n ws).2.1,.bool (parsedF n ws).2.2]):=by
 refine R_of_body (C:=WR) (f:=173) (lo:=0) (args:=[.agg n.cells,.ps .unk (ws.map strRow)]) (H:=.empty) (fn:=Tryz.f173) (Q:=fun v H'=>deep 4 H' v=some (.tup [.agg (parsedF n ws).1.cells,.int .i64 (parsedF n ws).2.1,.bool (parsedF n ws).2.2])) (by kernel_rfl) Tryz.func173 rfl rfl ?_
 obtain ⟨v0,H0,q1,q2,q3,lv,L,t2,t3,rfl,q4,q5,q6,q7,q8⟩:∃ v H',R WR (.call 2 222 [.agg n.cells] ((Heap.empty.push (.cells n.cells 26)).push (.cells [.ps .nil [],.ps .nil [],.ps .nil []] 26)))=some (.ofVal v H')∧5≤H'.n∧(∀ i,i < 2→H'.get i=((Heap.empty.push (.cells n.cells 26)).push (.cells [.ps .nil [],.ps .nil [],.ps .nil []] 26)).get i) ∧ ∃ (lv:AV) (L:List LT) (t2 t3:Tok),v=.agg [lv,.ps t2 (n.sws.map Sw.row),.ps t3 (n.sts.map Stc.row)]∧LV 56 5 H' lv L∧L.map Prod.snd=n.lines∧LastE 97 5 H' L∧AppE 5 H' t2 (n.sws.map Sw.row) 5 191∧AppE 5 H' t3 (n.sts.map Stc.row) 5 193:=by
  obtain ⟨v,H',h1,h2,h3,h4⟩:=r222 n hr.ok ((Heap.empty.push (.cells n.cells 26)).push (.cells [.ps .nil [],.ps .nil [],.ps .nil []] 26))
  exact ⟨v,H',h1,h2,h3,h4.ex⟩
 have g1:H0.get 1=.cells [.ps .nil [],.ps .nil [],.ps .nil []] 26:=q3 1 (by decide)
 have st:S173 n ((H0.push (.cells [.ps .nil [],.ps .nil [],.ps .nil []] 26)).set H0.n (.cells [lv,.ps t2 (n.sws.map Sw.row),.ps t3 (n.sts.map Stc.row)] 26)) H0.n lv L t2 t3:=by
  have e:∀ i,i < H0.n→((H0.push (.cells [.ps .nil [],.ps .nil [],.ps .nil []] 26)).set H0.n (.cells [lv,.ps t2 (n.sws.map Sw.row),.ps t3 (n.sts.map Stc.row)] 26)).get i=H0.get i:=fun i hi=>by rw [Heap.get_set,if_neg (by omega),Heap.get_push,if_neg (by omega)]
  exact ⟨by rw [e 1 (by omega)];exact g1,by rw [Heap.get_set,if_pos rfl],by omega,by simp;omega,by simp,q4.keep (by simp) fun i _ hi _ _=>e i hi,q5,fun t l hl=>(q6 t l hl).keep (by simp) fun i hi _ _=>e i hi,q7.keep (by simp) fun i hi _ _=>e i hi,q8.keep (by simp) fun i hi _ _=>e i hi⟩
 rw [W_assocB]
 refine W_cutB (fun T H M=>M=[]∧getT T 1=.ps .unk (ws.map strRow)∧getT T 4=.ptr 1 0 ∧ ∃ p,getT T 7=.ptr p 0∧S173 n H p lv L t2 t3) ?_ ?_
 · simp only [Net.cells] at q1
   have hlv:(∃ id k,lv=.rs id 0 k 2 none)∨lv=.ps .nil []:=by
    rcases q4 with ⟨_,h⟩ | ⟨_,id,h,_⟩
    · exact .inr h
    · exact .inl ⟨_,_,h⟩
   rcases hlv with ⟨id,k,rfl⟩ | rfl
   · simp only [go_sem,reduceIte,reduceEqDiff,reduceAdd,reduceMul,reduceSub,reduceLeDiff,reduceLT,Nat.reduceBEq,reduceCtorEq,Net.cells,wr_en222,q1,ofVal_v,ofVal_H]
     exact ⟨_,rfl,st⟩
   · simp only [go_sem,reduceIte,reduceEqDiff,reduceAdd,reduceMul,reduceSub,reduceLeDiff,reduceLT,Nat.reduceBEq,reduceCtorEq,Net.cells,wr_en222,q1,ofVal_v,ofVal_H]
     exact ⟨_,rfl,st⟩
 clear st g1 q1 q2 q3 q4 q6 q7 q8
 rintro T H M ⟨rfl,g1,g4,p,g7,S⟩
 obtain ⟨w0,r,rfl⟩:∃ w0 r,ws=w0::r:=by
  cases ws with
  | nil=>exact absurd rfl hne
  | cons a b=>exact ⟨a,b,rfl⟩
 have e223:onPure p223 [.ps .unk ((w0::r).map strRow)]=some (.bool (filledB (w0::r))):=onPure_eq (pe223 (w0::r) hwl) rfl rfl
 have e224:∀ w ∈ w0::r,onPure p224 [.str w]=some (.tup [i64 (intF w).1,.bool (intF w).2]):=fun w hw=>onPure_eq (pe224 w (hww w hw)) rfl rfl
 have hb1:=S.b1
 have hbp:=S.bp
 have hLl:L.length=n.lines.length:=by have:=congrArg List.length S.ls;simpa using this
 have hlv:(∃ id,lv=.rs id 0 L.length 2 none)∨(lv=.ps .nil []∧L=[]):=by
  rcases S.lv with ⟨h0,h⟩ | ⟨_,id,h,_⟩
  · exact .inr ⟨h,h0⟩
  · exact .inl ⟨_,h⟩
 have hres:∀ (k:Int) (o:Bool),deep 4 (H.set 1 (.cells [lv,.ps t2 (n.sws.map Sw.row),.ps t3 (n.sts.map Stc.row)] 26)) (.tup [.agg [lv,.ps t2 (n.sws.map Sw.row),.ps t3 (n.sts.map Stc.row)],.int .i64 k,.bool o])=some (.tup [.agg n.cells,.int .i64 k,.bool o]):=fun k o=>by
  have h:=S.lv.keep (H':=H.set 1 (.cells [lv,.ps t2 (n.sws.map Sw.row),.ps t3 (n.sts.map Stc.row)] 26)) (by simp) fun i _ _ hi _=>by rw [Heap.get_set,if_neg (by omega)]
  rw [deep_res h,S.ls];rfl
 have p1:(p=1)=False:=by simp only [eq_iff_iff,iff_false];have:=S.p2;omega
 have p1':(1=p)=False:=by simp only [eq_iff_iff,iff_false];have:=S.p2;omega
 simp only [List.map_cons,strRow] at e223 g1
 cases hf:filledB (w0::r) with
 | false =>
   have e:parsedF n (w0::r)=(n,0,false):=by unfold parsedF;rw [if_pos hf]
   rw [e]
   rw [hf] at e223
   rcases hlv with ⟨id,rfl⟩ | ⟨rfl,_⟩
   · simp only [go_sem,reduceIte,reduceEqDiff,reduceAdd,reduceMul,reduceSub,reduceLeDiff,reduceLT,Nat.reduceBEq,reduceCtorEq,g1,g4,g7,hb1,hbp,p1,p1',wr_en223,e223]
     exact hres 0 false
   · simp only [go_sem,reduceIte,reduceEqDiff,reduceAdd,reduceMul,reduceSub,reduceLeDiff,reduceLT,Nat.reduceBEq,reduceCtorEq,g1,g4,g7,hb1,hbp,p1,p1',wr_en223,e223]
     exact hres 0 false
 | true =>
 rw [hf] at e223
 refine W_cutB (fun T H' M=>M=[]∧H=H'∧getT T 1=.ps .unk ((w0::r).map strRow)∧getT T 4=.ptr 1 0∧getT T 7=.ptr p 0) ?_ ?_
 · simp only [go_sem,reduceIte,reduceEqDiff,reduceAdd,reduceMul,reduceSub,reduceLeDiff,reduceLT,Nat.reduceBEq,reduceCtorEq,strRow,g1,g4,g7,wr_en223,e223]
 clear g1 g4 g7
 rintro T H' M ⟨rfl,rfl,g1,g4,g7⟩
 simp only [List.map_cons,strRow] at g1
 have hlen:∀ k:Nat,(((r.length+1:Nat):Int)=(k:Int))=((w0::r).length=k):=fun k=>by
  simp only [List.length_cons,eq_iff_iff];omega
 have l2:(((r.length+1:Nat):Int)=2)=((w0::r).length=2):=hlen 2
 have l4:(((r.length+1:Nat):Int)=4)=((w0::r).length=4):=hlen 4
 have l6:(((r.length+1:Nat):Int)=6)=((w0::r).length=6):=hlen 6
 have hw0:wAt (w0::r) 0=w0:=rfl
 have z0:(0 < r.length+1)=True:=by simp
 have lt00:((0:Int) < 0)=False:=by simp
 have d2:(((2:Nat):Int)=2)=True:=by simp
 have d4:(((4:Nat):Int)=4)=True:=by simp
 have d6:(((6:Nat):Int)=6)=True:=by simp
 have hpn:=S.pn
 have hp2:=S.p2
 have h5:5≤H.n:=S.n5
 by_cases c1:w0=sLine∧(w0::r).length=2
 · have e:parsedF n (w0::r)=(n.addLine (wAt (w0::r) 1),0,true):=by
    unfold parsedF
    rw [if_neg (by rw [hf];simp),if_pos (by rw [hw0];exact c1)]
   rw [e]
   obtain ⟨c1,c2⟩:=c1
   subst c1
   obtain ⟨a,rfl⟩:∃ a,r=[a]:=by
    match r,c2 with
    | [a],_=>exact ⟨a,rfl⟩
   have hbl:beqL sLine sLine=true:=beqL_self _
   have ea:wAt [sLine,a] 1=a:=rfl
   rw [ea]
   have hL1:LV 56 5 (H.push (.cells [.str a,.ps .nil []] 56)) lv L:=S.lv.keep (by simp) fun i cs hi _ _=>by rw [Heap.get_push,if_neg (by omega)]
   obtain ⟨id,H2,ha,hL2,hn2,hb2,hc2⟩:=appL (lo:=0) (.nil,⟨a,[]⟩) hL1 (by omega) (by simp;omega) (by rw [hLl];exact hr.lines)
   have hli:=lit22 a .nil [] H
   have hch:∀ a b:AV,chunks 2 1 [a,b]=some [[a,b]]:=fun _ _=>rfl
   simp only [List.map_nil] at ha
   simp only [Heap.n_push] at hn2
   have hpH:H2.get p=.cells [lv,.ps t2 (n.sws.map Sw.row),.ps t3 (n.sts.map Stc.row)] 26:=by
    rw [hc2 p (by simp;omega) (fun cs=>by rw [Heap.get_push,if_neg (by omega),hbp];intro h;cases h),Heap.get_push,if_neg (by omega),hbp]
   have h1H:H2.get 1=.cells [.ps .nil [],.ps .nil [],.ps .nil []] 26:=by
    rw [hc2 1 (by simp;omega) (fun cs=>by rw [Heap.get_push,if_neg (by omega),hb1];intro h;cases h),Heap.get_push,if_neg (by omega),hb1]
   simp only [go_sem,reduceIte,reduceEqDiff,reduceAdd,reduceMul,reduceSub,reduceLeDiff,reduceLT,Nat.reduceBEq,reduceCtorEq,strRow,g1,g4,g7,hb1,hbp,p1,p1',hbl,d2,hli,hch,ha,appO,hpH,h1H]
   have h3:=hL2.keep (H':=(H2.set p (.cells [.rs id 0 (L.length+1) 2 none,.ps t2 (n.sws.map Sw.row),.ps t3 (n.sts.map Stc.row)] 26)).set 1 (.cells [.rs id 0 (L.length+1) 2 none,.ps t2 (n.sws.map Sw.row),.ps t3 (n.sts.map Stc.row)] 26)) (by simp) fun i cs hi hbi hc=>by
    rw [Heap.get_set,if_neg (by omega),Heap.get_set,if_neg (fun he=>by rw [he,hpH] at hc;cases hc)]
   rw [deep_res h3,List.map_append,S.ls]
   rfl
 refine W_cutB (fun T H' M=>M=[]∧H=H'∧getT T 1=.ps .unk ((w0::r).map strRow)∧getT T 4=.ptr 1 0∧getT T 7=.ptr p 0) ?_ ?_
 · cases hB:beqL w0 sLine with
   | false=>simp only [go_sem,reduceIte,reduceEqDiff,reduceAdd,reduceMul,reduceSub,reduceLeDiff,reduceLT,Nat.reduceBEq,reduceCtorEq,strRow,g1,g4,g7,hB,z0]
   | true =>
     have c2:(((r.length+1:Nat):Int)=2)=False:=by
      rw [l2];simp only [eq_iff_iff,iff_false]
      exact fun h=>c1 ⟨(beqL_iff _ _).1 hB,h⟩
     simp only [go_sem,reduceIte,reduceEqDiff,reduceAdd,reduceMul,reduceSub,reduceLeDiff,reduceLT,Nat.reduceBEq,reduceCtorEq,strRow,g1,g4,g7,hB,c2,z0]
 clear g1 g4 g7
 rintro T H' M ⟨rfl,rfl,g1,g4,g7⟩
 simp only [List.map_cons,strRow] at g1
 by_cases c2:(w0=sPiece∧(w0::r).length=4)∧n.lines ≠ []
 · obtain ⟨⟨k1,k2⟩,k3⟩:=c2
   subst k1
   obtain ⟨a,b,c,rfl⟩:∃ a b c,r=[a,b,c]:=by
    match r,k2 with
    | [a,b,c],_=>exact ⟨a,b,c,rfl⟩
   have e:parsedF n [sPiece,a,b,c]=(n.addPiece ⟨(intF a).1,(intF b).1,decide (c=sDown)⟩,0,((intF a).2 && (intF b).2) && (decide (c=sUp) || decide (c=sDown))):=by
    unfold parsedF
    rw [if_neg (by rw [hf];simp),if_neg (by rw [hw0];exact c1),if_pos ⟨⟨rfl,rfl⟩,k3⟩]
    rfl
   rw [← beqL_dec c sUp,← beqL_dec c sDown] at e
   rw [e]
   have hL0:L ≠ []:=fun h=>k3 (by rw [← S.ls,h];rfl)
   obtain ⟨L0,t,l,rfl⟩:∃ L0 t l,L=L0++[(t,l)]:=⟨L.dropLast,(L.getLast hL0).1,(L.getLast hL0).2,(List.dropLast_concat_getLast hL0).symm⟩
   obtain ⟨id,rfl,i5,iH,hid⟩:∃ id,lv=.rs id 0 (L0.length+1) 2 none∧5≤id∧id < H.n∧H.get id=.row (lnCs L0++[.str l.name,.ps t (l.ps.map Pc.row)]) 2 56:=by
    rcases S.lv with ⟨h0,_⟩ | ⟨_,id,h,h1,h2,h3⟩
    · exact absurd h0 hL0
    · rw [lnCs_app] at h3
      exact ⟨id,by simpa using h,h1,h2,h3⟩
   have hroom:l.ps.length+1≤maxRows:=hr.ps l (by rw [← S.ls];simp)
   have ea:=e224 a (by simp)
   have eb:=e224 b (by simp)
   have hAp:=S.last t l (List.getLast?_concat ..)
   have hpc:[AV.int .i64 (intF a).1,AV.int .i64 (intF b).1,AV.bool (beqL c sDown)]=Pc.row ⟨(intF a).1,(intF b).1,beqL c sDown⟩:=rfl
   obtain ⟨t',H1,ha,hE,hn1,hb1',hc1⟩:=appE (lo:=0) (rx:=[[AV.int .i64 (intF a).1,AV.int .i64 (intF b).1,AV.bool (beqL c sDown)]]) hAp (Nat.zero_le _) (by omega) (by simpa using hroom) rfl rfl (by decide) (pc_all _)
   have hid1:H1.get id=.row (lnCs L0++[.str l.name,.ps t (l.ps.map Pc.row)]) 2 56:=by
    rw [hc1 id iH (by
     rw [hid];intro h
     have:=congrArg (fun x=>match x with
      | ABlk.row cs _ _=>cs.length
      | _=>0) h
     simp at this),hid]
   have hp1:H1.get p=.cells [.rs id 0 (L0.length+1) 2 none,.ps t2 (n.sws.map Sw.row),.ps t3 (n.sts.map Stc.row)] 26:=by
    rw [hc1 p hpn (by rw [hbp];intro h;cases h),hbp]
   have h11:H1.get 1=.cells [.ps .nil [],.ps .nil [],.ps .nil []] 26:=by
    rw [hc1 1 (by omega) (by rw [hb1];intro h;cases h),hb1]
   have hll:(lnCs L0).length=L0.length * 2:=lnCs_len L0
   have hbl1:beqL sPiece sLine=false:=by decide
   have hbl2:beqL sPiece sPiece=true:=beqL_self _
   have hpos:(0 < ((L0.length+1:Nat):Int))=True:=by simp only [eq_iff_iff,iff_true];omega
   have hwp:wrapq .i64 (Int.sub ((L0.length+1:Nat):Int) 1)=((L0.length:Nat):Int):=by
    have:=wrap_pred (k:=L0.length+1) (n:=L0.length+1) (by omega) (Nat.le_refl _) (by have:=hr.lines;rw [hLl.symm] at this;simp at this;omega)
    simpa using this
   have hlt:(L0.length < L0.length+1)=True:=by simp
   have f1:(L0.length * 2+1+1≤(lnCs L0++[AV.str l.name,AV.ps t (l.ps.map Pc.row)]).length)=True:=by
    simp only [List.length_append,hll,List.length_cons,List.length_nil,eq_iff_iff,iff_true];omega
   have f2:=drop_snd (a:=AV.str l.name) (b:=.ps t (l.ps.map Pc.row)) hll
   have f3:=drop_all2 (a:=AV.str l.name) (b:=.ps t (l.ps.map Pc.row)) hll
   have f4:=take_snd (a:=AV.str l.name) (b:=.ps t (l.ps.map Pc.row)) hll
   have hjp:∀ j,t=.tok j→(p=j)=False∧(j=p)=False:=fun j hj=>by
    have:j ≠ p:=fun he=>by
     rcases hAp with ⟨_,h | h⟩ | ⟨j',h,_,_,_,h4⟩
     · rw [hj] at h;cases h
     · rw [hj] at h;cases h
     · rw [hj] at h;cases h
       rw [he,hbp] at h4;cases h4
    simp only [eq_iff_iff,iff_false];omega
   have htk:t=.nil∨t=.exact ∨ ∃ j,t=.tok j:=by
    rcases hAp with ⟨_,h | h⟩ | ⟨j,h,_⟩
    · exact .inl h
    · exact .inr (.inl h)
    · exact .inr (.inr ⟨j,h⟩)
   have pid1:(p=id)=False:=by
    simp only [eq_iff_iff,iff_false];intro he;rw [he,hid] at hbp;cases hbp
   have pid2:(id=p)=False:=by
    simp only [eq_iff_iff,iff_false];intro he;rw [← he,hid] at hbp;cases hbp
   have pid3:(1=id)=False:=by simp only [eq_iff_iff,iff_false];omega
   have hacc:∀ K:Prop,okO (clashes (accS (some (AV.ps t (l.ps.map Pc.row)))) [1] [(8,Acc.rd id),(4,Acc.rd p),(1,Acc.rd p)]) K=K:=fun K=>by
    rcases htk with rfl | rfl | ⟨j,rfl⟩
    · rfl
    · rfl
    · obtain ⟨jp1,jp2⟩:=hjp j rfl
      simp only [go_sem,reduceIte,reduceEqDiff,reduceAdd,reduceMul,reduceSub,reduceLeDiff,reduceLT,Nat.reduceBEq,reduceCtorEq,jp1,jp2]
   simp only [go_sem,reduceIte,reduceEqDiff,reduceAdd,reduceMul,reduceSub,reduceLeDiff,reduceLT,Nat.reduceBEq,reduceCtorEq,strRow,g1,g4,g7,hb1,hbp,p1,p1',hbl1,hbl2,d4,hpos,hwp,hlt,wr_en224,ea,eb,natOf_2t,natOf_3,hid,appO,ha,hid1,hp1,h11,f1,f2,f3,f4,hacc,pid1,pid2,pid3]
   have hcs:lnCs L0++[AV.str l.name]++[AV.ps t' (l.ps.map Pc.row++[[AV.int .i64 (intF a).1,AV.int .i64 (intF b).1,AV.bool (beqL c sDown)]])]=lnCs (L0++[(t',⟨l.name,l.ps++[⟨(intF a).1,(intF b).1,beqL c sDown⟩]⟩)]):=by
    rw [lnCs_app];simp [lnCs,Pc.row,i64]
   have hfin:∀ (k:Int) (o:Bool),deep 4 ((H1.set id (.row (lnCs L0++[AV.str l.name]++[AV.ps t' (l.ps.map Pc.row++[[AV.int .i64 (intF a).1,AV.int .i64 (intF b).1,AV.bool (beqL c sDown)]])]) 2 56)).set 1 (.cells [.rs id 0 (L0.length+1) 2 none,.ps t2 (n.sws.map Sw.row),.ps t3 (n.sts.map Stc.row)] 26)) (.tup [.agg [.rs id 0 (L0.length+1) 2 none,.ps t2 (n.sws.map Sw.row),.ps t3 (n.sts.map Stc.row)],.int .i64 k,.bool o])=some (.tup [.agg (n.addPiece ⟨(intF a).1,(intF b).1,beqL c sDown⟩).cells,.int .i64 k,.bool o]):=fun k o=>by
    rw [hcs]
    have h3:LV 56 5 ((H1.set id (.row (lnCs (L0++[(t',⟨l.name,l.ps++[⟨(intF a).1,(intF b).1,beqL c sDown⟩]⟩)])) 2 56)).set 1 (.cells [.rs id 0 (L0.length+1) 2 none,.ps t2 (n.sws.map Sw.row),.ps t3 (n.sts.map Stc.row)] 26)) (.rs id 0 (L0.length+1) 2 none) (L0++[(t',⟨l.name,l.ps++[⟨(intF a).1,(intF b).1,beqL c sDown⟩]⟩)]) :=
     .inr ⟨by simp,id,by simp,i5,by simp;omega,by rw [Heap.get_set,if_neg (by omega),Heap.get_set,if_pos rfl]⟩
    rw [deep_res h3]
    have hls:=S.ls
    rw [List.map_append] at hls ⊢
    have:(n.addPiece ⟨(intF a).1,(intF b).1,beqL c sDown⟩).lines=L0.map Prod.snd++[⟨l.name,l.ps++[⟨(intF a).1,(intF b).1,beqL c sDown⟩]⟩]:=by
     show addPc _ n.lines=_
     rw [← hls]
     exact addPc_snoc _ _ _
    show _=some (AV.tup [.agg [.ps .unk ((n.addPiece ⟨(intF a).1,(intF b).1,beqL c sDown⟩).lines.map Ln.row),.ps .unk (n.sws.map Sw.row),.ps .unk (n.sts.map Stc.row)],.int .i64 k,.bool o])
    rw [this];rfl
   cases hA:(intF a).2<;>cases hB:(intF b).2<;>cases hU:beqL c sUp<;>cases hD:beqL c sDown
   all_goals
    rw [hD] at hfin
    simp only [go_sem,reduceIte,reduceEqDiff,reduceAdd,reduceMul,reduceSub,reduceLeDiff,reduceLT,Nat.reduceBEq,reduceCtorEq,strRow,hA,hB,hU,hD,g1,g4,g7,hb1,hbp,p1,p1',hbl1,hbl2,d4,hpos,hwp,hlt,wr_en224,ea,eb,natOf_2t,natOf_3,hid,appO,ha,hid1,hp1,h11,f1,f2,f3,f4,hacc,pid1,pid2,pid3]
    exact hfin 0 _
 refine W_cutB (fun T H' M=>M=[]∧H=H'∧getT T 1=.ps .unk ((w0::r).map strRow)∧getT T 4=.ptr 1 0∧getT T 7=.ptr p 0) ?_ ?_
 · cases hB:beqL w0 sPiece with
   | false=>simp only [go_sem,reduceIte,reduceEqDiff,reduceAdd,reduceMul,reduceSub,reduceLeDiff,reduceLT,Nat.reduceBEq,reduceCtorEq,strRow,g1,g4,g7,hB,z0]
   | true =>
     by_cases h4:(w0::r).length=4
     · have c4:(((r.length+1:Nat):Int)=4)=True:=by rw [l4];exact eq_true h4
       have hLe:n.lines=[]:=Classical.byContradiction fun h=>c2 ⟨⟨(beqL_iff _ _).1 hB,h4⟩,h⟩
       have hL0:L=[]:=by
        rw [hLe] at hLl
        exact List.length_eq_zero_iff.1 hLl
       rcases hlv with ⟨id,rfl⟩ | ⟨rfl,_⟩
       · simp only [go_sem,reduceIte,reduceEqDiff,reduceAdd,reduceMul,reduceSub,reduceLeDiff,reduceLT,Nat.reduceBEq,reduceCtorEq,strRow,g1,g4,g7,hB,z0,c4,hbp,hL0,lt00]
       · simp only [go_sem,reduceIte,reduceEqDiff,reduceAdd,reduceMul,reduceSub,reduceLeDiff,reduceLT,Nat.reduceBEq,reduceCtorEq,strRow,g1,g4,g7,hB,z0,c4,hbp,lt00]
     · have c4:(((r.length+1:Nat):Int)=4)=False:=by rw [l4];exact eq_false h4
       simp only [go_sem,reduceIte,reduceEqDiff,reduceAdd,reduceMul,reduceSub,reduceLeDiff,reduceLT,Nat.reduceBEq,reduceCtorEq,strRow,g1,g4,g7,hB,z0,c4]
 clear g1 g4 g7
 rintro T H' M ⟨rfl,rfl,g1,g4,g7⟩
 simp only [List.map_cons,strRow] at g1
 by_cases c3:w0=sSwitch∧(w0::r).length=6
 · obtain ⟨k1,k2⟩:=c3
   subst k1
   obtain ⟨a,b,c,d,f,rfl⟩:∃ a b c d f,r=[a,b,c,d,f]:=by
    match r,k2 with
    | [a,b,c,d,f],_=>exact ⟨a,b,c,d,f,rfl⟩
   have e:parsedF n [sSwitch,a,b,c,d,f]=(n.addSwitch ⟨a,b,(intF c).1,d,decide (f=sLast)⟩,1,(intF c).2 && (decide (f=sFirst) || decide (f=sLast))):=by
    unfold parsedF
    rw [if_neg (by rw [hf];simp),if_neg (by rw [hw0];exact c1),if_neg (by rw [hw0];exact c2),if_pos ⟨rfl,rfl⟩]
    rfl
   rw [← beqL_dec f sFirst,← beqL_dec f sLast] at e
   rw [e]
   have ea:=e224 c (by simp)
   have hbl1:beqL sSwitch sLine=false:=by decide
   have hbl2:beqL sSwitch sPiece=false:=by decide
   have hbl3:beqL sSwitch sSwitch=true:=beqL_self _
   obtain ⟨t',H1,ha,hE,hn1,hb1',hc1⟩:=appE (lo:=0) (rx:=[[AV.str a,AV.str b,AV.int .i64 (intF c).1,AV.str d,AV.bool (beqL f sLast)]]) S.a2 (Nat.zero_le _) (by omega) (by simpa using hr.sws) rfl rfl (by decide) (sw_all _)
   have hp1:H1.get p=.cells [lv,.ps t2 (n.sws.map Sw.row),.ps t3 (n.sts.map Stc.row)] 26:=by
    rw [hc1 p hpn (by rw [hbp];intro h;cases h),hbp]
   have h11:H1.get 1=.cells [.ps .nil [],.ps .nil [],.ps .nil []] 26:=by
    rw [hc1 1 (by omega) (by rw [hb1];intro h;cases h),hb1]
   have hrw:n.sws.map Sw.row++[[AV.str a,AV.str b,AV.int .i64 (intF c).1,AV.str d,AV.bool (beqL f sLast)]]=(n.addSwitch ⟨a,b,(intF c).1,d,beqL f sLast⟩).sws.map Sw.row:=by
    show _=(n.sws++[_]).map Sw.row
    rw [List.map_append];rfl
   rw [hrw] at ha
   have hfin:∀ (k:Int) (o:Bool),deep 4 ((H1.set p (.cells [lv,.ps t' ((n.addSwitch ⟨a,b,(intF c).1,d,beqL f sLast⟩).sws.map Sw.row),.ps t3 (n.sts.map Stc.row)] 26)).set 1 (.cells [lv,.ps t' ((n.addSwitch ⟨a,b,(intF c).1,d,beqL f sLast⟩).sws.map Sw.row),.ps t3 (n.sts.map Stc.row)] 26)) (.tup [.agg [lv,.ps t' ((n.addSwitch ⟨a,b,(intF c).1,d,beqL f sLast⟩).sws.map Sw.row),.ps t3 (n.sts.map Stc.row)],.int .i64 k,.bool o])=some (.tup [.agg (n.addSwitch ⟨a,b,(intF c).1,d,beqL f sLast⟩).cells,.int .i64 k,.bool o]):=fun k o=>by
    have h3:=S.lv.keep (H':=(H1.set p (.cells [lv,.ps t' ((n.addSwitch ⟨a,b,(intF c).1,d,beqL f sLast⟩).sws.map Sw.row),.ps t3 (n.sts.map Stc.row)] 26)).set 1 (.cells [lv,.ps t' ((n.addSwitch ⟨a,b,(intF c).1,d,beqL f sLast⟩).sws.map Sw.row),.ps t3 (n.sts.map Stc.row)] 26)) (by simp;omega) fun i cs hi hbi hc=>by
     rw [Heap.get_set,if_neg (by omega),Heap.get_set,if_neg (fun he=>by rw [he,hbp] at hc;cases hc),hc1 i hi (by rw [hc];intro h;cases h)]
    rw [deep_res h3,S.ls];rfl
   generalize (n.addSwitch ⟨a,b,(intF c).1,d,beqL f sLast⟩).sws.map Sw.row=R2 at ha hfin
   rcases hlv with ⟨id,rfl⟩ | ⟨rfl,_⟩
   all_goals
    cases hA:(intF c).2<;>cases hU:beqL f sFirst<;>cases hD:beqL f sLast
    all_goals
     rw [hD] at hfin ha
     rw [hA] at ea
     simp only [go_sem,reduceIte,reduceEqDiff,reduceAdd,reduceMul,reduceSub,reduceLeDiff,reduceLT,Nat.reduceBEq,reduceCtorEq,strRow,g1,g4,g7,hb1,hbp,p1,p1',hbl1,hbl2,hbl3,hU,hD,d6,wr_en224,ea,natOf_2t,natOf_3,natOf_4,natOf_5,appO,ha,hp1,h11]
     exact hfin 1 _
 refine W_cutB (fun T H' M=>M=[]∧H=H'∧getT T 1=.ps .unk ((w0::r).map strRow)∧getT T 4=.ptr 1 0∧getT T 7=.ptr p 0) ?_ ?_
 · cases hB:beqL w0 sSwitch with
   | false=>simp only [go_sem,reduceIte,reduceEqDiff,reduceAdd,reduceMul,reduceSub,reduceLeDiff,reduceLT,Nat.reduceBEq,reduceCtorEq,strRow,g1,g4,g7,hB,z0]
   | true =>
     have c6:(((r.length+1:Nat):Int)=6)=False:=by
      rw [l6];simp only [eq_iff_iff,iff_false]
      exact fun h=>c3 ⟨(beqL_iff _ _).1 hB,h⟩
     simp only [go_sem,reduceIte,reduceEqDiff,reduceAdd,reduceMul,reduceSub,reduceLeDiff,reduceLT,Nat.reduceBEq,reduceCtorEq,strRow,g1,g4,g7,hB,z0,c6]
 clear g1 g4 g7
 rintro T H' M ⟨rfl,rfl,g1,g4,g7⟩
 simp only [List.map_cons,strRow] at g1
 by_cases c4:w0=sStructure∧(w0::r).length=6
 · obtain ⟨k1,k2⟩:=c4
   subst k1
   obtain ⟨a,b,c,d,f,rfl⟩:∃ a b c d f,r=[a,b,c,d,f]:=by
    match r,k2 with
    | [a,b,c,d,f],_=>exact ⟨a,b,c,d,f,rfl⟩
   have e:parsedF n [sStructure,a,b,c,d,f]=(n.addStruct ⟨a,b,c,(intF d).1,(intF f).1⟩,2,(intF d).2 && (intF f).2):=by
    unfold parsedF
    rw [if_neg (by rw [hf];simp),if_neg (by rw [hw0];exact c1),if_neg (by rw [hw0];exact c2),if_neg (by rw [hw0];exact c3),if_pos ⟨rfl,rfl⟩]
    rfl
   rw [e]
   have ea:=e224 d (by simp)
   have eb:=e224 f (by simp)
   have hbl1:beqL sStructure sLine=false:=by decide
   have hbl2:beqL sStructure sPiece=false:=by decide
   have hbl3:beqL sStructure sSwitch=false:=by decide
   have hbl4:beqL sStructure sStructure=true:=beqL_self _
   obtain ⟨t',H1,ha,hE,hn1,hb1',hc1⟩:=appE (lo:=0) (rx:=[[AV.str a,AV.str b,AV.str c,AV.int .i64 (intF d).1,AV.int .i64 (intF f).1]]) S.a3 (Nat.zero_le _) (by omega) (by simpa using hr.sts) rfl rfl (by decide) (stc_all _)
   have hp1:H1.get p=.cells [lv,.ps t2 (n.sws.map Sw.row),.ps t3 (n.sts.map Stc.row)] 26:=by
    rw [hc1 p hpn (by rw [hbp];intro h;cases h),hbp]
   have h11:H1.get 1=.cells [.ps .nil [],.ps .nil [],.ps .nil []] 26:=by
    rw [hc1 1 (by omega) (by rw [hb1];intro h;cases h),hb1]
   have hrw:n.sts.map Stc.row++[[AV.str a,AV.str b,AV.str c,AV.int .i64 (intF d).1,AV.int .i64 (intF f).1]]=(n.addStruct ⟨a,b,c,(intF d).1,(intF f).1⟩).sts.map Stc.row:=by
    show _=(n.sts++[_]).map Stc.row
    rw [List.map_append];rfl
   rw [hrw] at ha
   have hfin:∀ (k:Int) (o:Bool),deep 4 ((H1.set p (.cells [lv,.ps t2 (n.sws.map Sw.row),.ps t' ((n.addStruct ⟨a,b,c,(intF d).1,(intF f).1⟩).sts.map Stc.row)] 26)).set 1 (.cells [lv,.ps t2 (n.sws.map Sw.row),.ps t' ((n.addStruct ⟨a,b,c,(intF d).1,(intF f).1⟩).sts.map Stc.row)] 26)) (.tup [.agg [lv,.ps t2 (n.sws.map Sw.row),.ps t' ((n.addStruct ⟨a,b,c,(intF d).1,(intF f).1⟩).sts.map Stc.row)],.int .i64 k,.bool o])=some (.tup [.agg (n.addStruct ⟨a,b,c,(intF d).1,(intF f).1⟩).cells,.int .i64 k,.bool o]):=fun k o=>by
    have h3:=S.lv.keep (H':=(H1.set p (.cells [lv,.ps t2 (n.sws.map Sw.row),.ps t' ((n.addStruct ⟨a,b,c,(intF d).1,(intF f).1⟩).sts.map Stc.row)] 26)).set 1 (.cells [lv,.ps t2 (n.sws.map Sw.row),.ps t' ((n.addStruct ⟨a,b,c,(intF d).1,(intF f).1⟩).sts.map Stc.row)] 26)) (by simp;omega) fun i cs hi hbi hc=>by
     rw [Heap.get_set,if_neg (by omega),Heap.get_set,if_neg (fun he=>by rw [he,hbp] at hc;cases hc),hc1 i hi (by rw [hc];intro h;cases h)]
    rw [deep_res h3,S.ls];rfl
   generalize (n.addStruct ⟨a,b,c,(intF d).1,(intF f).1⟩).sts.map Stc.row=R3 at ha hfin
   rcases hlv with ⟨id,rfl⟩ | ⟨rfl,_⟩
   all_goals
    cases hA:(intF d).2<;>cases hB:(intF f).2
    all_goals
     rw [hA] at ea
     rw [hB] at eb
     simp only [go_sem,reduceIte,reduceEqDiff,reduceAdd,reduceMul,reduceSub,reduceLeDiff,reduceLT,Nat.reduceBEq,reduceCtorEq,strRow,g1,g4,g7,hb1,hbp,p1,p1',hbl1,hbl2,hbl3,hbl4,d6,wr_en224,ea,eb,natOf_2t,natOf_3,natOf_4,natOf_5,appO,ha,hp1,h11]
     exact hfin 2 _
 refine W_cutB (fun T H' M=>M=[]∧H=H'∧getT T 1=.ps .unk ((w0::r).map strRow)∧getT T 4=.ptr 1 0∧getT T 7=.ptr p 0) ?_ ?_
 · cases hB:beqL w0 sStructure with
   | false=>simp only [go_sem,reduceIte,reduceEqDiff,reduceAdd,reduceMul,reduceSub,reduceLeDiff,reduceLT,Nat.reduceBEq,reduceCtorEq,strRow,g1,g4,g7,hB,z0]
   | true =>
     have c6:(((r.length+1:Nat):Int)=6)=False:=by
      rw [l6];simp only [eq_iff_iff,iff_false]
      exact fun h=>c4 ⟨(beqL_iff _ _).1 hB,h⟩
     simp only [go_sem,reduceIte,reduceEqDiff,reduceAdd,reduceMul,reduceSub,reduceLeDiff,reduceLT,Nat.reduceBEq,reduceCtorEq,strRow,g1,g4,g7,hB,z0,c6]
 clear g1 g4 g7
 rintro T H' M ⟨rfl,rfl,g1,g4,g7⟩
 simp only [List.map_cons,strRow] at g1
 have e:parsedF n (w0::r)=(n,0,false):=by
  unfold parsedF
  rw [if_neg (by rw [hf];simp),if_neg (by rw [hw0];exact c1),if_neg (by rw [hw0];exact c2),if_neg (by rw [hw0];exact c3),if_neg (by rw [hw0];exact c4)]
 rw [e]
 rcases hlv with ⟨id,rfl⟩ | ⟨rfl,_⟩
 · simp only [go_sem,reduceIte,reduceEqDiff,reduceAdd,reduceMul,reduceSub,reduceLeDiff,reduceLT,Nat.reduceBEq,reduceCtorEq,strRow,g1,g4,g7,hb1,hbp,p1,p1']
   exact hres 0 false
 · simp only [go_sem,reduceIte,reduceEqDiff,reduceAdd,reduceMul,reduceSub,reduceLeDiff,reduceLT,Nat.reduceBEq,reduceCtorEq,strRow,g1,g4,g7,hb1,hbp,p1,p1']
   exact hres 0 false
theorem c173 (n:Net) (hr:Room n) (ws:List Wd) (hne:ws ≠ []) (hwl:ws.length≤maxRows) (hww:∀ w ∈ ws,w.length≤maxRows) (lo:Nat) (H:Heap) :
 CallOk NC lo 173 [.agg n.cells,.ps .unk (ws.map strRow)] H (.tup [.agg (parsedF n ws).1.cells,.int .i64 (parsedF n ws).2.1,.bool (parsedF n ws).2.2]) H:=by
 obtain ⟨v,H',h1,h2⟩:=w173 n hr ws hne hwl hww
 exact view_ok (C:=NC) wr_sane rfl rfl h1 rfl h2 lo H
end Go.Sim

/-
Texts: how long what is read of a text may be.
-/
namespace Go.Sim
open Go Go.Proofs
set_option maxRecDepth 100000
set_option maxHeartbeats 16000000
structure Sz (n:Net) (i m:Nat):Prop where
 lines:n.lines.length≤i
 sws:n.sws.length≤i
 sts:n.sts.length≤i
 line:∀ l ∈ n.lines,l.name.length≤m∧l.ps.length≤i
 sw:∀ s ∈ n.sws,s.name.length≤m
 st:∀ s ∈ n.sts,s.name.length≤m∧s.kind.length≤m
theorem Sz.zero (m:Nat):Sz zNet 0 m:=⟨Nat.le_refl _,Nat.le_refl _,Nat.le_refl _,fun l h=>(by cases h),fun l h=>(by cases h),fun l h=>(by cases h)⟩
theorem Sz.more {n:Net} {i m:Nat} (h:Sz n i m):Sz n (i+1) m:=⟨by have:=h.lines;omega,by have:=h.sws;omega,by have:=h.sts;omega,fun l hl=>⟨(h.line l hl).1,by have:=(h.line l hl).2;omega⟩,h.sw,h.st⟩
theorem Sz.ok {n:Net} {i m:Nat} (h:Sz n i m) (hi:i≤maxRows) (hm:m≤maxRows):n.Ok:=⟨Nat.le_trans h.lines hi,fun l hl=>⟨Nat.le_trans (h.line l hl).1 hm,Nat.le_trans (h.line l hl).2 hi⟩,Nat.le_trans h.sws hi,fun s hs=>Nat.le_trans (h.sw s hs) hm,Nat.le_trans h.sts hi,fun s hs=>⟨Nat.le_trans (h.st s hs).1 hm,Nat.le_trans (h.st s hs).2 hm⟩⟩
theorem Sz.room {n:Net} {i m:Nat} (h:Sz n i m) (hi:i+1≤maxRows) (hm:m≤maxRows):Room n:=⟨h.ok (by omega) hm,by have:=h.lines;omega,by have:=h.sws;omega,by have:=h.sts;omega,fun l hl=>by have:=(h.line l hl).2;omega⟩
theorem addPc_mem {p:Pc} {ls:List Ln} {x:Ln} (h:x ∈ addPc p ls):x ∈ ls ∨ ∃ l ∈ ls,x=⟨l.name,l.ps++[p]⟩:=by
 by_cases h0:ls=[]
 · subst h0;cases h
 · obtain ⟨a,l,rfl⟩:∃ a l,ls=a++[l]:=⟨ls.dropLast,ls.getLast h0,(List.dropLast_concat_getLast h0).symm⟩
   rw [addPc_snoc] at h
   rcases List.mem_append.1 h with h | h
   · exact .inl (by simp [h])
   · exact .inr ⟨l,by simp,by simpa using h⟩
theorem wAt_len {w:List Wd} {m:Nat} (h:∀ x ∈ w,x.length≤m) (i:Nat):(wAt w i).length≤m:=by
 unfold wAt
 rw [List.getD_eq_getElem?_getD]
 cases hx:w[i]? with
 | none=>simp
 | some x=>exact h x (List.mem_of_getElem? hx)
theorem Sz.parsed {n:Net} {i m:Nat} (h:Sz n i m) {w:List Wd} (hw:∀ x ∈ w,x.length≤m):Sz (parsedF n w).1 (i+1) m:=by
 have h':=h.more
 have hl:=h.lines;have hs:=h.sws;have ht:=h.sts
 unfold parsedF
 split
 · exact h'
 split
 · refine ⟨by show (n.lines++[_]).length≤_;simp;omega,h'.sws,h'.sts,fun l hl => ?_,h'.sw,h'.st⟩
   rcases List.mem_append.1 (show l ∈ n.lines++[_] from hl) with hl | hl
   · exact h'.line l hl
   · obtain rfl:=List.mem_singleton.1 hl
     exact ⟨wAt_len hw 1,by simp⟩
 split
 · refine ⟨by show (addPc _ n.lines).length≤_;rw [addPc_length];omega,h'.sws,h'.sts,fun l hl => ?_,h'.sw,h'.st⟩
   rcases addPc_mem (show l ∈ addPc _ n.lines from hl) with hl | ⟨x,hx,rfl⟩
   · exact h'.line l hl
   · exact ⟨(h.line x hx).1,by have:=(h.line x hx).2;simp;omega⟩
 split
 · refine ⟨h'.lines,by show (n.sws++[_]).length≤_;simp;omega,h'.sts,h'.line,fun s hs => ?_,h'.st⟩
   rcases List.mem_append.1 (show s ∈ n.sws++[_] from hs) with hs | hs
   · exact h'.sw s hs
   · obtain rfl:=List.mem_singleton.1 hs
     exact wAt_len hw 1
 split
 · refine ⟨h'.lines,h'.sws,by show (n.sts++[_]).length≤_;simp;omega,h'.line,h'.sw,fun s hs => ?_⟩
   rcases List.mem_append.1 (show s ∈ n.sts++[_] from hs) with hs | hs
   · exact h'.st s hs
   · obtain rfl:=List.mem_singleton.1 hs
     exact ⟨wAt_len hw 1,wAt_len hw 2⟩
 · exact h'
theorem splitA_mem {c:Nat}:∀ (s cur:List Nat),∀ w ∈ splitA c cur s,w.length≤cur.length+s.length
 | [],cur,w,h=>by
   have:w=cur:=by simpa [splitA] using h
   rw [this];simp
 | x::r,cur,w,h=>by
   rw [splitA_cons] at h
   split at h
   · rcases List.mem_cons.1 h with rfl | h
     · simp
     · have:=splitA_mem r [] w h
       simp at this ⊢;omega
   · have:=splitA_mem r (cur++[x]) w h
     simp at this ⊢;omega
theorem splitL_mem {c:Nat} {s w:List Nat} (h:w ∈ splitL c s):w.length≤s.length:=by
 have:=splitA_mem s [] w h
 simpa using this
theorem splitL_le (c:Nat) (s:List Nat):(splitL c s).length≤s.length+1:=by
 rw [splitL_len];have:=cntC_le c s;omega
theorem splitL_nz (c:Nat) (s:List Nat):splitL c s ≠ []:=fun e=>by have:=splitL_len c s;rw [e] at this;simp at this
noncomputable def p173:List AV→Option AV:=primOf (α:=Net × List Wd) (fun x=>[.agg x.1.cells,.ps .unk (x.2.map strRow)]) (fun x=>(Room x.1∧x.2 ≠ []∧x.2.length≤maxRows ∧ ∀ w ∈ x.2,w.length≤maxRows)) (fun x=>.tup [.agg (parsedF x.1 x.2).1.cells,.int .i64 (parsedF x.1 x.2).2.1,.bool (parsedF x.1 x.2).2.2])
theorem pok173:∀ args v,p173 args=some v → ∀ lo H,CallOk NC lo 173 args H v H:=by
 intro args v h
 obtain ⟨x,rfl,hp,rfl⟩:=primOf_inv h
 clear h
 revert x
 intro x hp;exact c173 x.1 hp.1 x.2 hp.2.1 hp.2.2.1 hp.2.2.2
theorem pe173 (x:Net × List Wd) (hp:(fun x=>(Room x.1∧x.2 ≠ []∧x.2.length≤maxRows ∧ ∀ w ∈ x.2,w.length≤maxRows)) x):p173 ((fun x=>[.agg x.1.cells,.ps .unk (x.2.map strRow)]) x)=some ((fun x=>.tup [.agg (parsedF x.1 x.2).1.cells,.int .i64 (parsedF x.1 x.2).2.1,.bool (parsedF x.1 x.2).2.2]) x):=primOf_enc (by intro x y h;(simp only [List.cons.injEq,AV.agg.injEq,AV.ps.injEq,Net.cells_iff,strRows_iff,true_and,and_true] at h;exact Prod.ext h.1 h.2)) x hp
end Go.Sim

/-
Texts: Parse, by the reference: its table.
-/
namespace Go.Sim
open Go Go.Proofs
set_option maxRecDepth 100000
set_option maxHeartbeats 32000000
theorem walk_sane2 {good:FuncId→Bool} {ra lit:FuncId→TypeId→Bool} {mode:FuncId→Mode} {plans:FuncId→Nat→List OpI} {P V:FuncId→Option (List AV→Option AV)} (hP:∀ f p args v,P f=some p→p args=some v → ∀ lo H,CallOk NC lo f args H v H) (hV:∀ f p args v,V f=some p→p args=some v → ∀ lo H,CallOk NC lo f args H v H)
 (hg:∀ f,good f=true → ∃ fn c,NC.P.funcs[f]? = some fn∧fn.body=some c∧(fn.name == "runtime.NumGoroutine")=false∧codeOk (walkC good ra lit mode plans P V) f fn.ntmps c=true):Sane (walkC good ra lit mode plans P V) where
 depth:=saneNC.depth
 orders:=saneNC.orders
 good:=hg
 memo:=fun f args v h=>by cases h
 prim:=fun f p args v hp h lo H=>by
  have hp:(P f).map onPure=some p:=hp
  cases hq:P f with
  | none=>rw [hq] at hp;cases hp
  | some q =>
    rw [hq] at hp
    have hp:onPure q=p:=by simpa using hp
    subst hp
    unfold onPure at h
    split at h
    · rename_i h1
      split at h
      · rename_i u hu
        split at h
        · rename_i h2
          simp at h;subst h
          exact other_ok (C:=NC) (C2:=walkC good ra lit mode plans P V) rfl rfl (hP f q args u hq hu 0 .empty) h1 h2 lo H
        · cases h
      · cases h
    · cases h
 hprim:=fun f p lo args H v H' hp h _=>by
  have hp:(V f).map onView=some p:=hp
  cases hq:V f with
  | none=>rw [hq] at hp;cases hp
  | some q =>
    rw [hq] at hp
    have hp:onView q=p:=by simpa using hp
    subst hp
    unfold onView at h
    split at h
    · rename_i a ha
      split at h
      · rename_i u hu
        split at h
        · rename_i h2
          simp at h
          obtain ⟨rfl,rfl⟩:=h
          exact ahead_ok (C:=NC) (C2:=walkC good ra lit mode plans P V) rfl rfl (hV f q a u hq hu 0 .empty) h2 lo ha
        · cases h
      · cases h
    · cases h
noncomputable def PP90:FuncId→Option (List AV→Option AV):=fun f=>cond (Nat.beq f 22) (some p22) (cond (Nat.beq f 93) (some p93) (cond (Nat.beq f 173) (some p173) none))
theorem prims90:∀ f p args v,PP90 f=some p→p args=some v → ∀ lo H,CallOk NC lo f args H v H:=by
 intro f p args v h
 unfold PP90 at h
 cases h1:Nat.beq f 22 with
 | true =>
   rw [h1] at h;cases h
   rw [Nat.eq_of_beq_eq_true h1];exact pok22 args v
 | false =>
   rw [h1] at h
   cases h2:Nat.beq f 93 with
   | true =>
     rw [h2] at h;cases h
     rw [Nat.eq_of_beq_eq_true h2];exact pok93 args v
   | false =>
     rw [h2] at h
     cases h3:Nat.beq f 173 with
     | true =>
       rw [h3] at h;cases h
       rw [Nat.eq_of_beq_eq_true h3];exact pok173 args v
     | false=>rw [h3] at h;cases h
noncomputable def W90:Cfg:=walkC (fun f=>Nat.beq f 90) (fun _ _=>false) (fun _ _=>false) NC.mode (fun f id=>cond (Nat.beq f 90 && Nat.beq id 9) ([⟨.load,0,0,[]⟩,⟨.data,0,0,[]⟩,⟨.data,0,0,[]⟩,⟨.data,0,6,[]⟩,⟨.load,0,14,[]⟩,⟨.read,0,30,[]⟩,⟨.read,0,63,[]⟩,⟨.data,0,127,[]⟩,⟨.data,0,255,[]⟩,⟨.data,0,255,[]⟩,⟨.data,0,255,[]⟩,⟨.fresh,0,0,[]⟩,⟨.writeAt,1,2559,[]⟩,⟨.data,2,7167,[]⟩,⟨.data,2,16383,[]⟩]) (NC.plans f id)) PP90 (fun _=>none)
theorem w90_sane:Sane W90:=walk_sane2 prims90 (fun f p args v h=>by cases h) (by
 intro f hf
 have hf:Nat.beq f 90=true:=hf
 have:=Nat.eq_of_beq_eq_true hf;subst this
 exact ⟨_,_,Tryz.func90,rfl,by kernel_rfl,by kernel_rfl⟩)
theorem w90P:W90.P=NC.P:=rfl
theorem w90F (f:FuncId) (t:TypeId):W90.frz f t=false:=Eq.trans rfl rfl
theorem w90p:W90.plans 90 9=[⟨.load,0,0,[]⟩,⟨.data,0,0,[]⟩,⟨.data,0,0,[]⟩,⟨.data,0,6,[]⟩,⟨.load,0,14,[]⟩,⟨.read,0,30,[]⟩,⟨.read,0,63,[]⟩,⟨.data,0,127,[]⟩,⟨.data,0,255,[]⟩,⟨.data,0,255,[]⟩,⟨.data,0,255,[]⟩,⟨.fresh,0,0,[]⟩,⟨.writeAt,1,2559,[]⟩,⟨.data,2,7167,[]⟩,⟨.data,2,16383,[]⟩]:=by kernel_rfl
attribute [go_sem] w90P w90F w90p
theorem w90_22 {rec:Rec} {lo:Nat} {args:List AV} {H:Heap} {K:AV→Heap→Prop}:VO (aenter W90 rec lo 22 args H) K=AO (onPure p22 args) fun v=>K v H:=enter_prim (by rfl) (by kernel_rfl)
theorem w90_93 {rec:Rec} {lo:Nat} {args:List AV} {H:Heap} {K:AV→Heap→Prop}:VO (aenter W90 rec lo 93 args H) K=AO (onPure p93 args) fun v=>K v H:=enter_prim (by rfl) (by kernel_rfl)
theorem w90_173 {rec:Rec} {lo:Nat} {args:List AV} {H:Heap} {K:AV→Heap→Prop}:VO (aenter W90 rec lo 173 args H) K=AO (onPure p173 args) fun v=>K v H:=enter_prim (by rfl) (by kernel_rfl)
attribute [go_sem ↓] w90_22 w90_93 w90_173
end Go.Sim

/-
Texts: Parse, by the reference: the walk.
-/
namespace Go.Sim
open Go Go.Proofs
set_option maxRecDepth 100000
set_option maxHeartbeats 32000000
theorem part_at {s:Wd} {k:Nat} (hk:k < (partS s).length):∃ l,(partS s)[k]? = some l∧(splitL 10 s)[k]? = some l∧l.length≤s.length∧(partS s).drop k=l::(partS s).drop (k+1):=by
 have h1:=split_snoc 10 s
 have hl:(partS s)[k]? = some (partS s)[k]:=List.getElem?_eq_getElem hk
 have h2:(splitL 10 s)[k]? = some (partS s)[k]:=by
  rw [h1]
  show (partS s++_)[k]? = _
  rw [List.getElem?_append_left hk,hl]
 exact ⟨_,hl,h2,splitL_mem (List.mem_of_getElem? h2),(List.drop_eq_getElem_cons hk)⟩
theorem last_at (s:Wd):(splitL 10 s)[(partS s).length]? = some (lastW (splitL 10 s)):=by
 have h1:=split_snoc 10 s
 conv=>lhs;rw [h1]
 show (partS s++[_])[(partS s).length]? = _
 rw [List.getElem?_append_right (Nat.le_refl _)];simp
theorem w90run (s : Wd) (hs : s.length + 1 ≤ maxRows) : ∃ v H', R W90 (.call 0 90 [.str s] .empty) = some (.ofVal v H') ∧ deep 4 H' v = some (.tup [.agg (parseF s).1.cells, .int .i64 (parseF s).2.1, .int .i64 (parseF s).2.2]) := by
 refine R_of_body (C := W90) (f := 90) (lo := 0) (args := [.str s]) (H := .empty) (fn := Tryz.f90) (Q := fun v H' => deep 4 H' v = some (.tup [.agg (parseF s).1.cells, .int .i64 (parseF s).2.1, .int .i64 (parseF s).2.2])) (by kernel_rfl) Tryz.func90 rfl rfl ?_
 have hzz : ∀ (H : Heap) (a b : Int), deep 4 H (.tup [.agg [.ps .nil [], .ps .nil [], .ps .nil []], .int .i64 a, .int .i64 b]) = some (.tup [.agg zNet.cells, .int .i64 a, .int .i64 b]) := fun _ _ _ => rfl
 by_cases hl : (4096 : Int) < s.length
 · have e : parseF s = (zNet, 0, 26) := by unfold parseF; rw [if_pos hl]
   rw [e]
   have hl' := eq_true hl
   simp only [go_sem, reduceIte, reduceEqDiff, reduceAdd, reduceMul, reduceSub, reduceLeDiff, reduceLT, Nat.reduceBEq, reduceCtorEq, hl']
   rfl
 have hl' := eq_false hl
 have hplen := partS_len s
 have hple : (partS s).length ≤ s.length := by have := splitL_le 10 s; omega
 have e93 : onPure p93 [.str s, .int .u8 10] = some (.ps .unk ((splitL 10 s).map strRow)) := onPure_eq (e93_10 s hs) rfl rfl
 have hN : wrapq .i64 (Int.sub (((partS s).length + 1 : Nat) : Int) 1) = (((partS s).length : Nat) : Int) := by
  have := wrap_pred (k := (partS s).length + 1) (n := (partS s).length + 1) (by omega) (Nat.le_refl _) (by omega)
  simpa using this
 have hpf : ∀ i, (goG zNet 0 0 (partS s)).2.2 = some i → parseF s = (zNet, (i : Int), 25) := fun i h => by
  unfold parseF; rw [if_neg hl, h]
 simp only [go_sem, reduceIte, reduceEqDiff, reduceAdd, reduceMul, reduceSub, reduceLeDiff, reduceLT, Nat.reduceBEq, reduceCtorEq, hl', e93]
 refine W_for (fun k T H M => M = [] ∧ getT T 2 = .ptr 0 0 ∧ getT T 5 = .ps .unk ((splitL 10 s).map strRow) ∧ getT T 6 = .ptr 1 0 ∧ getT T 8 = i64 k ∧ ∃ (n : Net) (k1 : Int) (ta tb tc : Tok), getT T 7 = .int .i64 k1 ∧ ((∀ (m : Nat) (r : List (List AV)), AV.under m (.ps ta r) = true) ∧ (∀ (m : Nat) (r : List (List AV)), AV.under m (.ps tb r) = true) ∧ ∀ (m : Nat) (r : List (List AV)), AV.under m (.ps tc r) = true) ∧ Sz n k s.length ∧ goG zNet 0 0 (partS s) = goG n k1 k ((partS s).drop k) ∧ 1 < H.n ∧ H.get 0 = .cells [.ps .nil [], .ps .nil [], .ps .nil []] 26 ∧ H.get 1 = .cells [.ps ta (n.lines.map Ln.row), .ps tb (n.sws.map Sw.row), .ps tc (n.sts.map Stc.row)] 26) (partS s).length ?_ ?_ ?_
 · simp only [go_sem, reduceIte, reduceEqDiff, reduceAdd, reduceMul, reduceSub, reduceLeDiff, reduceLT, Nat.reduceBEq, reduceCtorEq]
   exact ⟨zNet, 0, .nil, .nil, .nil, rfl, ⟨fun _ _ => rfl, fun _ _ => rfl, fun _ _ => rfl⟩, Sz.zero _, rfl, rfl⟩
 · rintro k T H M hk ⟨rfl, g2, g5, g6, g8, n, k1, ta, tb, tc, g7, ⟨u1, u2, u3⟩, hsz, hgo, hH, h0, h1⟩
   obtain ⟨l, hp1, hp2, hll, hdr⟩ := part_at hk
   have hr := map_at (f := strRow) hp2
   have hw := wrap_succ hk (by omega : (partS s).length ≤ maxRows)
   have ew : onPure p93 [.str l, .int .u8 32] = some (.ps .unk ((splitL 32 l).map strRow)) := onPure_eq (e93_32 l (by omega)) rfl rfl
   have hwm : ∀ x ∈ splitL 32 l, x.length ≤ s.length := fun x hx => Nat.le_trans (splitL_mem hx) hll
   have hroom : Room n := hsz.room (by omega) (by omega)
   have ep : onPure p173 [.agg n.cells, .ps .unk ((splitL 32 l).map strRow)] = some (.tup [.agg (parsedF n (splitL 32 l)).1.cells, .int .i64 (parsedF n (splitL 32 l)).2.1, .bool (parsedF n (splitL 32 l)).2.2]) := onPure_eq (pe173 (n, splitL 32 l) ⟨hroom, splitL_nz _ _, by show (splitL 32 l).length ≤ maxRows; have := splitL_le 32 l; omega, fun w hw => Nat.le_trans (hwm w hw) (by omega)⟩) rfl rfl
   have hsz' := hsz.parsed hwm
   have hline := parsedF_line n (splitL 32 l)
   rw [hdr, goG_cons, hline] at hgo
   generalize parsedF n (splitL 32 l) = X at ep hsz' hgo hline
   obtain ⟨n', k', o⟩ := X
   simp only at ep hsz' hgo
   simp only [Net.cells] at ep
   have hkN : ((k : Int) < (((partS s).length : Nat) : Int)) = True := by simp only [eq_iff_iff, iff_true]; omega
   have hk2 : k < (partS s).length + 1 := by omega
   have z0 : (0 = H.n) = False := by simp only [eq_iff_iff, iff_false]; omega
   have z1 : (1 = H.n) = False := by simp only [eq_iff_iff, iff_false]; omega
   simp only [strRow] at hr
   cases o with
   | false =>
     simp only [Bool.false_eq_true, if_false] at hgo
     rw [hpf k (by rw [hgo])]
     simp only [go_sem, reduceIte, reduceEqDiff, reduceAdd, reduceMul, reduceSub, reduceLeDiff, reduceLT, Nat.reduceBEq, reduceCtorEq, g2, g5, g6, g7, g8, h0, h1, hH, z0, z1, hplen, hN, hkN, hk2, hr, hw, ew, ep, u1, u2, u3]
     rfl
   | true =>
     simp only [if_true] at hgo
     by_cases hkk : k' < k1
     · rw [if_pos hkk] at hgo
       rw [hpf k (by rw [hgo])]
       have hkt := eq_true hkk
       simp only [go_sem, reduceIte, reduceEqDiff, reduceAdd, reduceMul, reduceSub, reduceLeDiff, reduceLT, Nat.reduceBEq, reduceCtorEq, g2, g5, g6, g7, g8, h0, h1, hH, z0, z1, hplen, hN, hkN, hk2, hr, hw, ew, ep, u1, u2, u3, hkt]
       rfl
     · rw [if_neg hkk] at hgo
       have hkt := eq_false hkk
       simp only [go_sem, reduceIte, reduceEqDiff, reduceAdd, reduceMul, reduceSub, reduceLeDiff, reduceLT, Nat.reduceBEq, reduceCtorEq, g2, g5, g6, g7, g8, h0, h1, hH, z0, z1, hplen, hN, hkN, hk2, hr, hw, ew, ep, u1, u2, u3, hkt]
       exact ⟨n', k', .unk, .unk, .unk, rfl, ⟨fun _ _ => rfl, fun _ _ => rfl, fun _ _ => rfl⟩, hsz', hgo, rfl⟩
 · rintro T H M ⟨rfl, g2, g5, g6, g8, n, k1, ta, tb, tc, g7, ⟨u1, u2, u3⟩, hsz, hgo, hH, h0, h1⟩
   rw [List.drop_length] at hgo
   have hgo : goG zNet 0 0 (partS s) = (n, k1, none) := hgo
   have hok : n.Ok := hsz.ok (by omega) (by omega)
   have hlast := map_at (f := strRow) (last_at s)
   have e22 : onPure p22 [.agg n.cells] = some (i64 (netR n)) := onPure_eq (pe22 n ⟨hok.fits, hok.sws, hok.sts⟩) rfl rfl
   have hlt : (((partS s).length : Int) < (((partS s).length : Nat) : Int)) = False := by simp
   have hk2 : (partS s).length < (partS s).length + 1 := by omega
   have e0 : parseF s = if lastW (splitL 10 s) ≠ [] then (zNet, (((partS s).length : Nat) : Int), 25) else if netP n = 0 then (n, 0, 0) else (zNet, (((partS s).length : Nat) : Int), netP n) := by
    unfold parseF; rw [if_neg hl, hgo]
   rw [e0, net_same]
   simp only [strRow] at hlast
   simp only [Net.cells, i64] at e22
   cases hB : beqL (lastW (splitL 10 s)) [] with
   | false =>
     rw [if_pos (by intro h; rw [h] at hB; cases hB)]
     simp only [go_sem, reduceIte, reduceEqDiff, reduceAdd, reduceMul, reduceSub, reduceLeDiff, reduceLT, Nat.reduceBEq, reduceCtorEq, g2, g5, g6, g7, g8, h0, h1, hH, hplen, hN, hlt, Nat.lt_irrefl, hk2, hlast, hB]
     rfl
   | true =>
     rw [if_neg (by rw [(beqL_iff _ _).1 hB]; simp)]
     by_cases hz : netR n = 0
     · rw [if_pos hz]
       rw [hz] at e22
       simp only [go_sem, reduceIte, reduceEqDiff, reduceAdd, reduceMul, reduceSub, reduceLeDiff, reduceLT, Nat.reduceBEq, reduceCtorEq, g2, g5, g6, g7, g8, h0, h1, hH, hplen, hN, hlt, Nat.lt_irrefl, hk2, hlast, hB, e22]
       rfl
     · rw [if_neg hz]
       have hz' := eq_false hz
       simp only [go_sem, reduceIte, reduceEqDiff, reduceAdd, reduceMul, reduceSub, reduceLeDiff, reduceLT, Nat.reduceBEq, reduceCtorEq, g2, g5, g6, g7, g8, h0, h1, hH, hplen, hN, hlt, Nat.lt_irrefl, hk2, hlast, hB, e22, hz']
       rfl
theorem c90 (s:Wd) (hs:s.length+1≤maxRows) (lo:Nat) (H:Heap):CallOk NC lo 90 [.str s] H (.tup [.agg (parseF s).1.cells,.int .i64 (parseF s).2.1,.int .i64 (parseF s).2.2]) H:=by
 obtain ⟨v,H',h1,h2⟩:=w90run s hs
 exact view_ok (C:=NC) w90_sane rfl rfl h1 rfl h2 lo H
end Go.Sim

/-
Texts: how long what is printed may be.
-/
namespace Go.Sim
open Go Go.Proofs
theorem name_len {s:Wd} (h:nameB s=true):s.length≤24:=by
 cases s with
 | nil=>simp
 | cons c r =>
   unfold nameB at h
   simp only [Bool.and_eq_true,decide_eq_true_eq] at h
   exact h.1.1
theorem itoa_len {x:Int} (h:numOk x):(itoaL x).length≤24:=by
 obtain ⟨n,rfl⟩:∃ n:Nat,x=(n:Int):=⟨x.toNat,by have:=h.1;omega⟩
 rw [itoaL_nat]
 have hn:n < 10 ^ 9:=by have:=h.2;omega
 have h9:(itoaN 20 n).length≤9:=(itoaN_ok 19 n (Nat.lt_of_lt_of_le hn (by decide))).len 9 (by decide) hn
 omega
theorem join_len (c:Nat) {m:Nat}:∀ ws:List Wd,(∀ w ∈ ws,w.length≤m)→(joinC c ws).length≤ws.length * (m+1)
 | [],_=>by simp [joinC]
 | [w],h=>by
   have:=h w (by simp)
   show w.length≤_
   simp;omega
 | w::v::r,h=>by
   have h1:=h w (by simp)
   have ih:=join_len c (v::r) fun x hx=>h x (by simp [hx])
   show (w++c::joinC c (v::r)).length≤_
   simp only [List.length_append,List.length_cons] at ih ⊢
   rw [Nat.add_mul,Nat.one_mul]
   omega
theorem tx_len {n:Net} (h:PrOk n):∀ l ∈ txLines n,l.length≤150:=by
 have six:∀ ws:List Wd,ws.length≤6→(∀ w ∈ ws,w.length≤24)→(joinC 32 ws).length≤150:=fun ws h1 h2=>by
  have:=join_len 32 ws h2
  have h3:ws.length * (24+1)≤6 * 25:=Nat.mul_le_mul_right 25 h1
  omega
 intro l hl
 unfold txLines at hl
 rcases List.mem_append.1 hl with hl | hl
 · rcases List.mem_append.1 hl with hl | hl
   · obtain ⟨x,hx,hm⟩:=List.mem_flatMap.1 hl
     obtain ⟨h1,h2⟩:=h.line x hx
     rcases List.mem_cons.1 hm with rfl | hm
     · refine six _ (by simp) fun w hw => ?_
       simp only [List.mem_cons,List.mem_nil_iff,or_false] at hw
       rcases hw with rfl | rfl
       · decide
       · exact name_len h1
     · obtain ⟨p,hp,rfl⟩:=List.mem_map.1 hm
       refine six _ (by simp) fun w hw => ?_
       simp only [List.mem_cons,List.mem_nil_iff,or_false] at hw
       rcases hw with rfl | rfl | rfl | rfl
       · decide
       · exact itoa_len (h2 p hp).1
       · exact itoa_len (h2 p hp).2
       · split<;>decide
   · obtain ⟨s,hs,rfl⟩:=List.mem_map.1 hl
     obtain ⟨h1,h2,h3,h4⟩:=h.sw s hs
     refine six _ (by simp) fun w hw => ?_
     simp only [List.mem_cons,List.mem_nil_iff,or_false] at hw
     rcases hw with rfl | rfl | rfl | rfl | rfl | rfl
     · decide
     · exact name_len h1
     · exact name_len h2
     · exact itoa_len h3
     · exact name_len h4
     · split<;>decide
 · obtain ⟨s,hs,rfl⟩:=List.mem_map.1 hl
   obtain ⟨h1,h2,h3,h4,h5⟩:=h.st s hs
   refine six _ (by simp) fun w hw => ?_
   simp only [List.mem_cons,List.mem_nil_iff,or_false] at hw
   rcases hw with rfl | rfl | rfl | rfl | rfl | rfl
   · decide
   · exact name_len h1
   · exact name_len h2
   · exact name_len h3
   · exact itoa_len h4
   · exact itoa_len h5
theorem tx_flat {L:List Wd} (h:∀ l ∈ L,l.length≤150):(L.flatMap fun l=>l++[10]).length≤L.length * 151:=by
 induction L with
 | nil=>simp
 | cons a r ih =>
   have h1:=h a (by simp)
   have h2:=ih fun x hx=>h x (by simp [hx])
   rw [List.flatMap_cons,List.length_append,List.length_append,List.length_cons,List.length_cons,Nat.add_mul]
   simp only [List.length_nil]
   omega
theorem sum_le {l:List Ln} {k:Nat} (h:∀ x ∈ l,x.ps.length≤k):(l.map fun x=>x.ps.length).sum≤l.length * k:=by
 induction l with
 | nil=>simp
 | cons a r ih =>
   have h1:=h a (by simp)
   have h2:=ih fun x hx=>h x (by simp [hx])
   rw [List.map_cons,List.sum_cons,List.length_cons,Nat.add_mul]
   omega
theorem print_len {n:Net} (hs:shortN n=true) (hz:netP n=0):(printF n).length≤maxRows:=by
 have h1:=tx_flat (tx_len (prOk hz))
 have h2:=txLines_length n
 unfold shortN at hs
 simp only [Bool.and_eq_true,Bool.not_eq_true',Bool.or_eq_false_iff,decide_eq_false_iff_not,List.all_eq_true] at hs
 obtain ⟨⟨⟨⟨⟨s1,s2⟩,s3⟩,s4⟩,s5⟩,s6⟩:=hs
 have hp:∀ x ∈ n.lines,x.ps.length≤1000:=fun x hx=>by
  have:=s4 x hx
  unfold shortLn at this
  simp only [Bool.and_eq_true,Bool.not_eq_true',decide_eq_false_iff_not] at this
  omega
 have h3:=sum_le hp
 have h4:n.lines.length≤9:=by omega
 have h5:n.lines.length * 1000≤9 * 1000:=Nat.mul_le_mul_right 1000 h4
 have h6:(txLines n).length≤9100:=by omega
 have h7:(txLines n).length * 151≤9100 * 151:=Nat.mul_le_mul_right 151 h6
 show ((txLines n).flatMap fun l=>l++[10]).length≤maxRows
 unfold maxRows;omega
end Go.Sim

/-
Texts: Print and Parse as they are known to the laws.
-/
namespace Go.Sim
open Go Go.Proofs
set_option maxRecDepth 100000
set_option maxHeartbeats 16000000
theorem strs1_inj (x y:List Nat) (h:[AV.str x]=[AV.str y]):x=y:=by simpa using h
noncomputable def p87:List AV→Option AV:=primOf (α:=Net) (fun x=>[.agg x.cells]) (fun x=>(x.Ok∧(netP x=0→(printF x).length≤maxRows))) (fun x=>.tup [.str (if netP x=0 then printF x else []),i64 (netP x)])
theorem pok87:∀ args v,p87 args=some v → ∀ lo H,CallOk NC lo 87 args H v H:=by
 intro args v h
 obtain ⟨x,rfl,hp,rfl⟩:=primOf_inv h
 clear h
 revert x
 intro x hp;exact c87 x hp.1 hp.2
theorem pe87 (x:Net) (hp:(fun x=>(x.Ok∧(netP x=0→(printF x).length≤maxRows))) x):p87 ((fun x=>[.agg x.cells]) x)=some ((fun x=>.tup [.str (if netP x=0 then printF x else []),i64 (netP x)]) x):=primOf_enc (by intro x y h;exact cells1_inj x y h) x hp
noncomputable def p89:List AV→Option AV:=primOf (α:=Net) (fun x=>[.agg x.cells]) (fun x=>(x.Ok∧PrOk x∧(printF x).length≤maxRows)) (fun x=>.str (printF x))
theorem pok89:∀ args v,p89 args=some v → ∀ lo H,CallOk NC lo 89 args H v H:=by
 intro args v h
 obtain ⟨x,rfl,hp,rfl⟩:=primOf_inv h
 clear h
 revert x
 intro x hp;exact c89 x hp.1 hp.2.1 hp.2.2
theorem pe89 (x:Net) (hp:(fun x=>(x.Ok∧PrOk x∧(printF x).length≤maxRows)) x):p89 ((fun x=>[.agg x.cells]) x)=some ((fun x=>.str (printF x)) x):=primOf_enc (by intro x y h;exact cells1_inj x y h) x hp
noncomputable def p90:List AV→Option AV:=primOf (α:=List Nat) (fun x=>[.str x]) (fun x=>x.length+1≤maxRows) (fun x=>.tup [.agg (parseF x).1.cells,.int .i64 (parseF x).2.1,.int .i64 (parseF x).2.2])
theorem pok90:∀ args v,p90 args=some v → ∀ lo H,CallOk NC lo 90 args H v H:=by
 intro args v h
 obtain ⟨x,rfl,hp,rfl⟩:=primOf_inv h
 clear h
 revert x
 intro x hp;exact c90 x hp
theorem pe90 (x:List Nat) (hp:(fun x=>x.length+1≤maxRows) x):p90 ((fun x=>[.str x]) x)=some ((fun x=>.tup [.agg (parseF x).1.cells,.int .i64 (parseF x).2.1,.int .i64 (parseF x).2.2]) x):=primOf_enc (by intro x y h;exact strs1_inj x y h) x hp
/-! ### What is parsed is small -/
theorem goG_sz:∀ (ls:List Wd) (n:Net) (k:Int) (i j m:Nat),Sz n j m→(∀ l ∈ ls,l.length≤m)→Sz (goG n k i ls).1 (j+ls.length) m
 | [],n,k,i,j,m,h,_=>h
 | l::r,n,k,i,j,m,h,hm=>by
   have grow:∀ d,Sz n (j+d) m:=fun d=>by
    induction d with
    | zero=>exact h
    | succ d ih=>exact ih.more
   have hw:∀ x ∈ splitL 32 l,x.length≤m:=fun x hx=>Nat.le_trans (splitL_mem hx) (hm l (by simp))
   have hp:=h.parsed hw
   have hl:=parsedF_line n (splitL 32 l)
   rw [goG_cons]
   cases hx:lineF n (splitL 32 l) with
   | none=>exact grow _
   | some y =>
     obtain ⟨n',k'⟩:=y
     rw [hx] at hl
     split at hl
     · have e:=Option.some.inj hl
       have e1:n'=(parsedF n (splitL 32 l)).1:=congrArg Prod.fst e
       simp only
       split
       · exact grow _
       · have:=goG_sz r n' k' (i+1) (j+1) m (by rw [e1];exact hp) fun x hx=>hm x (by simp [hx])
         have e2:j+(l::r).length=j+1+r.length:=by rw [List.length_cons];omega
         rw [e2];exact this
     · cases hl
theorem parse_ok (s:Wd):(parseF s).1.Ok:=by
 have z:zNet.Ok:=(Sz.zero 0).ok (by unfold maxRows;omega) (by unfold maxRows;omega)
 unfold parseF
 split
 · exact z
 · rename_i hl
   split
   · exact z
   · split
     · exact z
     · split
       · have h1:=goG_sz (partS s) zNet 0 0 0 s.length (Sz.zero _) fun l hl=>by
          have:l ∈ splitL 10 s:=by
           rw [split_snoc 10 s];exact List.mem_append_left _ hl
          exact splitL_mem this
         have h2:=partS_len s
         have h3:=splitL_le 10 s
         exact h1.ok (by unfold maxRows;omega) (by unfold maxRows;omega)
       · exact z
end Go.Sim

/-
A contract over one block, for a heap of many.
-/
namespace Go.Sim
open Go Go.Proofs
variable {C C2:Cfg}
theorem BRel.lift {g g2:Gh} {n n2:Nat} {w:World} {l l2:Loc} {cs:List AV} {e:TypeId} (hp:∀ c ∈ cs,c.pure=true) (hl:l=l2) (hk:∀ b o v,g.K b o=some v→g2.K b o=some v) (h:BRel C g n w l (.cells cs e)):BRel C2 g2 n2 w l2 (.cells cs e):=by
 subst hl
 obtain ⟨⟨⟨c,e',fz,h1,h2,h3⟩,h4⟩,h5⟩:=h
 exact ⟨⟨⟨c,e',fz,h1,fun i a ha=>by
  obtain ⟨v,hv,hr⟩:=h2 i a ha
  exact ⟨v,hv,(hr.pure (hp a (List.mem_of_getElem? ha))).any hk⟩,h3⟩,h4⟩,h5⟩
theorem local_ok (hP : C2.P = C.P) (hG : C2.glob = C.glob) {f : FuncId} {e : TypeId} {cs cs' rest : List AV} {v : AV}
    {H1 : Heap} (h : CallOk C 0 f (.ptr 0 0 :: rest) (Heap.empty.push (.cells cs e)) v H1) (hn1 : 0 < H1.n) (hg1 : H1.get 0 = .cells cs' e)
    (hcs : ∀ c ∈ cs, c.pure = true) (hcs' : ∀ c ∈ cs', c.pure = true) (hr : ∀ a ∈ rest, a.pure = true) (hv : v.scal = true)
    {lo id : Nat} {H : Heap} (hlo : lo ≤ id) (hid : id < H.n) (hb : H.get id = .cells cs e) : CallOk C2 lo f (.ptr id 0 :: rest) H v (H.set id (.cells cs' e)) := by
  refine ⟨hP ▸ h.1, fun g w cargs hR ha => ?_⟩
  have hl0 : (H.get id).live = true := by rw [hb]; rfl
  have hRb := hR.blk id hid
  rw [hb] at hRb
  have own0 : ∀ b, Own ⟨fun _ => g.L id, g.K⟩ (Heap.empty.push (.cells cs e)) b → b = (g.L id).b := fun b ⟨_, _, _, h⟩ => h.symm
  have ownH : ∀ b, b = (g.L id).b → Own g H b := fun b hb' => ⟨id, hid, hl0, hb'.symm⟩
  have hR0 : Rel C ⟨fun _ => g.L id, g.K⟩ (Heap.empty.push (.cells cs e)) w :=
    { blk := fun i hi => by
        have : i = 0 := by simp [Heap.n_push, empty_n] at hi; exact hi
        subst this
        have hg0 : (Heap.empty.push (ABlk.cells cs e)).get 0 = .cells cs e := by rw [Heap.get_push, if_pos (by rw [empty_n])]
        rw [hg0]
        exact BRel.lift (C := C2) (C2 := C) (g := g) (g2 := ⟨fun _ => g.L id, g.K⟩) (l := g.L id) (l2 := g.L id) hcs rfl (fun _ _ _ h => h) hRb
      out := fun i hi => by
        simp only [Heap.n_push, empty_n] at hi
        rw [Heap.get_push, if_neg (by simp [empty_n]; omega)]; rfl
      lt := fun i _ _ => hR.lt id hid hl0
      inj := fun i j hi hj _ _ hne => by
        simp only [Heap.n_push, empty_n] at hi hj
        omega
      know := hR.know
      apart := fun i _ _ o v hk => hR.apart id hid hl0 o v hk
      glob := fun x cs0 hx => by
        obtain ⟨vals, h1, h2⟩ := hR.glob x cs0 (by rw [hG]; exact hx)
        exact ⟨vals, h1.mono (Nat.le_refl _) ⟨fun _ hi => absurd hi (Nat.not_lt_zero _), fun _ _ _ h => h⟩, h2⟩
      gsz := fun x cs0 hx => by
        obtain ⟨h1, h2⟩ := hR.gsz x cs0 (by rw [hG]; exact hx)
        exact ⟨h1, fun ho => h2 (ownH _ (own0 _ ho))⟩ }
  have ha0 : VRels ⟨fun _ => g.L id, g.K⟩ (Heap.empty.push (.cells cs e)).n (.ptr 0 0 :: rest) cargs := by
    refine ⟨ha.1, fun i a u h1 h2 => ?_⟩
    cases i with
    | zero =>
      have e1 : a = .ptr 0 0 := by simpa using h1.symm
      subst e1
      have hv0 := ha.2 0 (.ptr id 0) u rfl h2
      cases hv0 with
      | ptr hlt => exact .ptr (g := ⟨fun _ => g.L id, g.K⟩) (id := 0) (by simp [Heap.n_push, empty_n])
    | succ i =>
      have hv0 := ha.2 (i + 1) a u h1 h2
      exact (hv0.pure (hr a (List.mem_of_getElem? h1))).any fun _ _ _ h => h
  rw [hP]
  refine (h.2 _ w cargs hR0 ha0).mono fun e' w' hpost => ?_
  obtain ⟨cv, rfl, g', r1, r2, r3⟩ := hpost.returned
  have hL0 : g'.L 0 = g.L id := r2.le.L 0 (by simp [Heap.n_push, empty_n])
  have hle : Gh.le H.n g ⟨g.L, g'.K⟩ := ⟨fun _ _ => rfl, r2.le.K⟩
  have hno : ∀ j, j < H.n → j ≠ id → (H.get j).live = true → ¬ Own ⟨fun _ => g.L id, g.K⟩ (Heap.empty.push (.cells cs e)) (g.L j).b := fun j hj hne hl ho => hR.inj j id hj hid hl hl0 hne (own0 _ ho)
  have live' : ∀ j, ((H.set id (.cells cs' e)).get j).live = true → (H.get j).live = true := fun j hl => by
    by_cases hj : j = id
    · rw [hj]; exact hl0
    · rw [Heap.get_set, if_neg hj] at hl; exact hl
  have hE : Ext lo g H w ⟨g.L, g'.K⟩ (H.set id (.cells cs' e)) w' := by
    refine ⟨hle, by simp, fun i hi hil => by rw [Heap.get_set, if_neg (by omega)], fun b ⟨j, hj, hl, hb'⟩ => .inl ⟨j, by simpa using hj, live' j hl, hb'⟩, fun b o u hk => ?_, fun b hlt hnb => r2.frame b hlt fun ho => hnb (ownH _ (own0 _ ho)), r2.size, r2.os, r2.output, r2.tape⟩
    rcases r2.newK b o u hk with h | h | h
    · exact .inl h
    · exact .inr (.inl (ownH _ (own0 _ h)))
    · exact .inr (.inr h)
  refine ⟨⟨g.L, g'.K⟩, ⟨fun j hj => ?_, fun j hj => ?_, fun j hj hl => ?_, fun i j hi hj hli hlj hne => ?_, r1.know, fun j hj hl o u hk => ?_, fun x cs0 hx => ?_, hR.gsz_ext hE⟩, hE, ?_⟩
  · simp only [Heap.n_set] at hj ⊢
    by_cases hji : j = id
    · subst hji
      rw [Heap.get_set, if_pos rfl]
      have hb0 := r1.blk 0 hn1
      rw [hg1] at hb0
      exact BRel.lift (C := C) (C2 := C2) (g := g') (g2 := ⟨g.L, g'.K⟩) hcs' hL0 (fun _ _ _ h => h) hb0
    · rw [Heap.get_set, if_neg hji]
      cases hl : (H.get j).live with
      | true => exact (hR.blk j hj).mono (Nat.le_refl _) hle (r2.frame _ (hR.lt j hj hl) (hno j hj hji hl))
      | false => rw [dead_of hl]; trivial
  · simp only [Heap.n_set] at hj
    rw [Heap.get_set, if_neg (by omega)]; exact hR.out j hj
  · exact Nat.lt_of_lt_of_le (hR.lt j (by simpa using hj) (live' j hl)) r2.size
  · exact hR.inj i j (by simpa using hi) (by simpa using hj) (live' i hli) (live' j hlj) hne
  · have hj' : j < H.n := by simpa using hj
    by_cases hji : j = id
    · subst hji
      have := r1.apart 0 hn1 (by rw [hg1]; rfl) o u
      rw [hL0] at this
      exact this hk
    · rcases r2.newK _ o u hk with h1 | h1 | h1
      · exact hR.apart j hj' (live' j hl) o u h1
      · exact absurd h1 (hno j hj' hji (live' j hl))
      · have := hR.lt j hj' (live' j hl)
        simp only [] at h1
        omega
  · obtain ⟨vals, h1, h2⟩ := hR.glob x cs0 hx
    exact ⟨vals, h1.mono (Nat.le_refl _) (hle.mono (Nat.zero_le _)), fun i u hi => hle.K _ _ _ (h2 i u hi)⟩
  · cases r3 <;> first | exact .bool _ | exact .int _ _ | (rename_i hs; exact .str hs) | (simp [AV.scal] at hv)
end Go.Sim

/-
Texts: the taker's block, and functions that turn it.
-/
namespace Go.Sim
open Go Go.Proofs
set_option maxRecDepth 100000
def TkC (t:Tok) (x:Tk):List AV:=[.ps t (x.ws.map strRow),.bool x.wrong]
def TkT (t:Tok) (x:Tk):Prop:=t=.unk∨(t=.nil∧x.ws=[])
theorem tkC_pure {t:Tok} {x:Tk} (h:TkT t x):∀ c ∈ TkC t x,c.pure=true:=by
 intro c hc
 simp only [TkC,List.mem_cons,List.mem_nil_iff,or_false] at hc
 rcases hc with rfl | rfl
 · rcases h with rfl | ⟨rfl,_⟩<;>rfl
 · rfl
theorem tkC_inj {t t':Tok} {x x':Tk} (h:TkC t x=TkC t' x'):t=t'∧x=x':=by
 unfold TkC at h
 simp only [List.cons.injEq,AV.ps.injEq,AV.bool.injEq,and_true] at h
 obtain ⟨⟨h1,h2⟩,h3⟩:=h
 obtain ⟨ws,b⟩:=x
 obtain ⟨ws',b'⟩:=x'
 simp only at h2 h3
 have:ws=ws':=by
  have:=List.map_inj_right (f:=strRow) (fun a b h=>strRow_inj a b h) |>.1 h2
  exact this
 subst this;subst h3
 exact ⟨h1,rfl⟩
def wordT (x:Tk):Tok:=match x.ws with
 | []=>.nil
 | w::_=>if w=[] then .nil else .unk
theorem wordT_ok (x:Tk):TkT (wordT x) x.word.2:=by
 obtain ⟨ws,b⟩:=x
 unfold wordT Tk.word
 cases ws with
 | nil=>exact .inr ⟨rfl,rfl⟩
 | cons w r =>
   by_cases hw:w=[]
   · simp only [hw,if_true];exact .inr ⟨rfl,rfl⟩
   · simp only [hw,if_false];exact .inl rfl
open Classical in
noncomputable def hTk (F:List AV→Tk→Option (AV × Tok × Tk)) (lo:Nat) (args:List AV) (H:Heap):Option (AV × Heap):=match args with
 | .ptr id 0::rest=>if h:∃ y:Tok × Tk,H.get id=.cells (TkC y.1 y.2) 291∧TkT y.1 y.2∧lo≤id∧id < H.n then (match F rest (Classical.choose h).2 with
  | some (v,t',x')=>some (v,H.set id (.cells (TkC t' x') 291))
  | none=>none) else none
 | _=>none
theorem hTk_eq {F:List AV→Tk→Option (AV × Tok × Tk)} {lo id:Nat} {rest:List AV} {H:Heap} {t t':Tok} {x x':Tk} {v:AV} (hg:H.get id=.cells (TkC t x) 291) (ht:TkT t x) (hlo:lo≤id) (hid:id < H.n) (hF:F rest x=some (v,t',x')) :
 hTk F lo (.ptr id 0::rest) H=some (v,H.set id (.cells (TkC t' x') 291)):=by
 have hex:∃ y:Tok × Tk,H.get id=.cells (TkC y.1 y.2) 291∧TkT y.1 y.2∧lo≤id∧id < H.n:=⟨(t,x),hg,ht,hlo,hid⟩
 unfold hTk
 simp only
 rw [dif_pos hex]
 have hs:=Classical.choose_spec hex
 have e:(Classical.choose hex).2=x:=by
  have h1:=hg.symm.trans hs.1
  exact (tkC_inj (ABlk.cells.inj h1).1).2.symm
 rw [e,hF]
theorem hTk_inv {F:List AV→Tk→Option (AV × Tok × Tk)} {lo:Nat} {args:List AV} {H H':Heap} {v:AV} (h:hTk F lo args H=some (v,H')) :
 ∃ id rest t x t' x',args=.ptr id 0::rest∧H.get id=.cells (TkC t x) 291∧TkT t x∧lo≤id∧id < H.n∧F rest x=some (v,t',x')∧H'=H.set id (.cells (TkC t' x') 291):=by
 unfold hTk at h
 split at h
 · rename_i id rest
   split at h
   · rename_i hex
     have hs:=Classical.choose_spec hex
     split at h
     · rename_i v' t' x' hF
       simp at h
       obtain ⟨rfl,rfl⟩:=h
       exact ⟨id,rest,_,_,t',x',rfl,hs.1,hs.2.1,hs.2.2.1,hs.2.2.2,hF,rfl⟩
     · cases h
   · cases h
 · cases h
theorem hTk_at {F:List AV→Tk→Option (AV × Tok × Tk)} {lo:Nat} {args:List AV} {H H':Heap} {v:AV} (h:hTk F lo args H=some (v,H')):∀ id,id < H.n→(∀ off r,args ≠ .ptr id off::r)→H'.get id=H.get id:=by
 obtain ⟨id,rest,t,x,t',x',rfl,_,_,_,_,_,rfl⟩:=hTk_inv h
 intro j hj hne
 rw [Heap.get_set,if_neg]
 intro he;subst he
 exact hne 0 rest rfl
theorem hTk_ok {C:Cfg} (hC:Sane C) (hCP:C.P=NC.P) (hCG:C.glob=NC.glob) {f:FuncId} {F:List AV→Tk→Option (AV × Tok × Tk)}
 (hF:∀ rest x v t' x',F rest x=some (v,t',x')→v.scal=true∧(∀ a ∈ rest,a.pure=true)∧TkT t' x' ∧ ∀ t,TkT t x → ∃ H1,R C (.call 0 f (.ptr 0 0::rest) (Heap.empty.push (.cells (TkC t x) 291)))=some (.ofVal v H1)∧0 < H1.n∧H1.get 0=.cells (TkC t' x') 291)
 (C2:Cfg) (hP:C2.P=NC.P) (hG:C2.glob=NC.glob) (lo:Nat) (args:List AV) (H:Heap) (v:AV) (H':Heap) (h:hTk F lo args H=some (v,H')):CallOk C2 lo f args H v H':=by
 obtain ⟨id,rest,t,x,t',x',rfl,h1,h2,h3,h4,h5,rfl⟩:=hTk_inv h
 obtain ⟨hv,hr,ht',hrun⟩:=hF rest x v t' x' h5
 obtain ⟨H1,r1,r2,r3⟩:=hrun t h2
 obtain ⟨k,hk⟩:=(R_iff C).1 r1
 have hc:CallOk C 0 f (.ptr 0 0::rest) (Heap.empty.push (.cells (TkC t x) 291)) v H1:=run_ok hC k _ _ hk (Nat.zero_le _)
 exact local_ok (C:=C) (hP.trans hCP.symm) (hG.trans hCG.symm) hc r2 r3 (tkC_pure h2) (tkC_pure ht') hr hv h3 h4 h1
end Go.Sim

/-
Texts: the words of a line, taken one after the other by the program: the runs.
-/
namespace Go.Sim
open Go Go.Proofs
set_option maxRecDepth 100000
set_option maxHeartbeats 16000000
variable {P:FuncId→Option (List AV→Option AV)}
theorem en167 {P:FuncId→Option (List AV→Option AV)} (hP:P 167=none) {lo:Nat} {args:List AV} {H:Heap} {K:AV→Heap→Prop}:VO (aenter (NC.withPrims P) (R (NC.withPrims P)) lo 167 args H) K=AO (R (NC.withPrims P) (.call lo 167 args H)) fun o=>K o.val o.s.H:=by
 refine enter_free rfl ?_ (by kernel_rfl) (by kernel_rfl) (by kernel_rfl)
 show (match NC.prim 167 with | some p=>some p | none=>P 167)=none
 rw [hP];kernel_rfl
theorem asl_tail (w:Wd) (r:List Wd):aslice NC.P 160 (.ps .unk ([AV.str w]::r.map strRow)) (some (.int .i64 1)) none none=some (.ps .unk (r.map strRow)):=by
 have e:NC.P.underlying 160=some (.slice 9):=by kernel_rfl
 have e2:szOf NC.P 9=some 1:=by kernel_rfl
 have e3:(([AV.str w]::r.map strRow).all fun x=>decide (x.length=1))=true:=rows_all (f:=strRow) strRow_len (w::r)
 unfold aslice
 rw [e]
 simp only
 rw [e2]
 simp only
 rw [e3]
 simp [asliceRows,boundOf,natOf,cutTok]
 exact List.take_of_length_le (by simp)
theorem r167 {t:Tok} {x:Tk} (ht:TkT t x) {lo id:Nat} {H:Heap} (hlo:lo≤id) (hid:id < H.n) (hg:H.get id=.cells (TkC t x) 291) :
 ∃ H1,R (NC.withPrims P) (.call lo 167 [.ptr id 0] H)=some (.ofVal (.str x.word.1) H1)∧H1.n=H.n∧H1.get id=.cells (TkC (wordT x) x.word.2) 291 ∧ ∀ j,j ≠ id→H1.get j=H.get j:=by
 have key:∃ v H1,R (NC.withPrims P) (.call lo 167 [.ptr id 0] H)=some (.ofVal v H1)∧v=.str x.word.1∧H1.n=H.n∧H1.get id=.cells (TkC (wordT x) x.word.2) 291 ∧ ∀ j,j ≠ id→H1.get j=H.get j:=by
  refine R_of_body (C:=NC.withPrims P) (f:=167) (lo:=lo) (args:=[.ptr id 0]) (H:=H) (fn:=Tryz.f167) (Q:=fun v H1=>v=.str x.word.1∧H1.n=H.n∧H1.get id=.cells (TkC (wordT x) x.word.2) 291 ∧ ∀ j,j ≠ id→H1.get j=H.get j) (by kernel_rfl) Tryz.func167 rfl rfl ?_
  have hlo':=eq_true hlo
  have hid':=eq_true hid
  obtain ⟨ws,b⟩:=x
  simp only [TkC] at hg
  cases ws with
  | nil =>
    rcases ht with rfl | ⟨rfl,_⟩
    · simp only [go_sem,reduceIte,reduceEqDiff,reduceAdd,reduceMul,reduceSub,reduceLeDiff,reduceLT,Nat.reduceBEq,reduceCtorEq,hg,hlo',hid']
      exact ⟨rfl,rfl,fun j hj=>by rw [if_neg hj,if_neg hj]⟩
    · simp only [go_sem,reduceIte,reduceEqDiff,reduceAdd,reduceMul,reduceSub,reduceLeDiff,reduceLT,Nat.reduceBEq,reduceCtorEq,hg,hlo',hid']
      exact ⟨rfl,rfl,fun j hj=>by rw [if_neg hj,if_neg hj]⟩
  | cons w r =>
    have ht:t=.unk:=by
     rcases ht with h | ⟨_,h⟩
     · exact h
     · cases h
    subst ht
    have z0:(0 < r.length+1)=True:=by simp
    have z1:(((r.length+1:Nat):Int)=0)=False:=by simp only [eq_iff_iff,iff_false];omega
    have z2:(1≤r.length+1)=True:=by simp
    simp only [List.map_cons,strRow] at hg
    cases hB:beqL w [] with
    | true =>
      have hw:=(beqL_iff _ _).1 hB
      subst hw
      simp only [go_sem,reduceIte,reduceEqDiff,reduceAdd,reduceMul,reduceSub,reduceLeDiff,reduceLT,Nat.reduceBEq,reduceCtorEq,strRow,hg,hlo',hid',z0,z1,z2,hB]
      exact ⟨rfl,rfl,fun j hj=>by rw [if_neg hj,if_neg hj]⟩
    | false =>
      have hw:w ≠ []:=fun h=>by rw [h] at hB;cases hB
      have hsl:=asl_tail w r
      have hT:wordT ⟨w::r,b⟩=.unk:=by unfold wordT;simp [hw]
      rw [hT,Tk.word_ok hw]
      simp only [go_sem,reduceIte,reduceEqDiff,reduceAdd,reduceMul,reduceSub,reduceLeDiff,reduceLT,Nat.reduceBEq,reduceCtorEq,strRow,hg,hlo',hid',z0,z1,z2,hB,hsl]
      exact ⟨rfl,fun j hj=>by rw [if_neg hj]⟩
 obtain ⟨v,H1,h1,rfl,h2,h3⟩:=key
 exact ⟨H1,h1,h2,h3⟩
end Go.Sim

/-
Texts: numbers and one of two words, taken by the program: the runs.
-/
namespace Go.Sim
open Go Go.Proofs
set_option maxRecDepth 100000
set_option maxHeartbeats 16000000
noncomputable def PPtk:FuncId→Option (List AV→Option AV):=addPrim 258 p258 (fun _=>none)
theorem primstk:PrimsOk NC PPtk:=primsOk_add (primsOk_none) (by kernel_rfl) (by kernel_rfl) pok258
theorem entk_258:En PPtk 258 p258:=enter_prim (by rfl) (by kernel_rfl)
attribute [go_sem ↓] entk_258
theorem word_mem {x:Tk} {m:Nat} (h:∀ w ∈ x.ws,w.length≤m):x.word.1.length≤m:=by
 obtain ⟨ws,b⟩:=x
 unfold Tk.word
 cases ws with
 | nil=>simp
 | cons w r =>
   simp only
   split
   · simp
   · exact h w (by simp)
theorem r218 {t:Tok} {x:Tk} (ht:TkT t x) (hw:∀ w ∈ x.ws,w.length≤maxRows) {lo id:Nat} {H:Heap} (hlo:lo≤id) (hid:id < H.n) (hg:H.get id=.cells (TkC t x) 291) :
 ∃ H1,R (NC.withPrims PPtk) (.call lo 218 [.ptr id 0] H)=some (.ofVal (.int .i64 x.num.1) H1)∧H1.n=H.n∧H1.get id=.cells (TkC (wordT x) x.num.2) 291 ∧ ∀ j,j ≠ id→H1.get j=H.get j:=by
 have key:∃ v H1,R (NC.withPrims PPtk) (.call lo 218 [.ptr id 0] H)=some (.ofVal v H1)∧v=.int .i64 x.num.1∧H1.n=H.n∧H1.get id=.cells (TkC (wordT x) x.num.2) 291 ∧ ∀ j,j ≠ id→H1.get j=H.get j:=by
  refine R_of_body (C:=NC.withPrims PPtk) (f:=218) (lo:=lo) (args:=[.ptr id 0]) (H:=H) (fn:=Tryz.f218) (Q:=fun v H1=>v=.int .i64 x.num.1∧H1.n=H.n∧H1.get id=.cells (TkC (wordT x) x.num.2) 291 ∧ ∀ j,j ≠ id→H1.get j=H.get j) (by kernel_rfl) Tryz.func218 rfl rfl ?_
  have hlo':=eq_true hlo
  have h167:PPtk 167=none:=rfl
  obtain ⟨H1,r1,r2,r3,r4⟩:=r167 (P:=PPtk) ht hlo hid hg
  have hid1:(id < H1.n)=True:=by rw [r2];exact eq_true hid
  have e258:=pe258 x.word.1 (word_mem hw)
  have e:x.num=((intP x.word.1).1,⟨x.word.2.ws,x.word.2.wrong || !(intP x.word.1).2⟩):=rfl
  rw [e]
  simp only [TkC] at r3 ⊢
  generalize intP x.word.1=y at e258 ⊢
  obtain ⟨n,o⟩:=y
  generalize x.word.2.wrong=b at r3 ⊢
  generalize (x.word.2.ws.map strRow)=rows at r3 ⊢
  generalize x.word.1=w at r1 e258
  simp only [i64] at e258
  cases b<;>cases o
  all_goals
   simp only [go_sem,reduceIte,reduceEqDiff,reduceAdd,reduceMul,reduceSub,reduceLeDiff,reduceLT,Nat.reduceBEq,reduceCtorEq,en167 h167,r1,e258,r3,hlo',hid1,r2]
   exact fun j hj=>by rw [if_neg hj];exact r4 j hj
 obtain ⟨v,H1,h1,rfl,h2,h3⟩:=key
 exact ⟨H1,h1,h2,h3⟩
end Go.Sim

/-
Texts: one of two words, taken by the program: the run; the three takers as functions over a block.
-/
namespace Go.Sim
open Go Go.Proofs
set_option maxRecDepth 100000
set_option maxHeartbeats 16000000
theorem r219 {t:Tok} {x:Tk} (a b:Wd) (ht:TkT t x) {lo id:Nat} {H:Heap} (hlo:lo≤id) (hid:id < H.n) (hg:H.get id=.cells (TkC t x) 291) :
 ∃ H1,R (NC.withPrims PPtk) (.call lo 219 [.ptr id 0,.agg [.str a,.str b]] H)=some (.ofVal (.bool (x.one a b).1) H1)∧H.n≤H1.n∧H1.get id=.cells (TkC (wordT x) (x.one a b).2) 291:=by
 have key:∃ v H1,R (NC.withPrims PPtk) (.call lo 219 [.ptr id 0,.agg [.str a,.str b]] H)=some (.ofVal v H1)∧v=.bool (x.one a b).1∧H.n≤H1.n∧H1.get id=.cells (TkC (wordT x) (x.one a b).2) 291:=by
  refine R_of_body (C:=NC.withPrims PPtk) (f:=219) (lo:=lo) (args:=[.ptr id 0,.agg [.str a,.str b]]) (H:=H) (fn:=Tryz.f219) (Q:=fun v H1=>v=.bool (x.one a b).1∧H.n≤H1.n∧H1.get id=.cells (TkC (wordT x) (x.one a b).2) 291) (by kernel_rfl) Tryz.func219 rfl rfl ?_
  have hlo':=eq_true hlo
  have h167:PPtk 167=none:=rfl
  obtain ⟨H1,r1,r2,r3,r4⟩:=r167 (P:=PPtk) (H:=H.push (.cells [.str a,.str b] 281)) ht hlo (by simp;omega) (by rw [Heap.get_push,if_neg (by omega)];exact hg)
  have hbx:H1.get H.n=.cells [.str a,.str b] 281:=by
   rw [r4 H.n (by omega),Heap.get_push,if_pos rfl]
  simp only [Heap.n_push] at r2
  have hid1:(id < H1.n)=True:=by rw [r2];simp only [eq_iff_iff,iff_true];omega
  have hne:(H.n=id)=False:=by simp only [eq_iff_iff,iff_false];omega
  have e:x.one a b=(beqL x.word.1 b,⟨x.word.2.ws,x.word.2.wrong || (!beqL x.word.1 a && !beqL x.word.1 b)⟩):=rfl
  rw [e]
  simp only [TkC] at r3 ⊢
  generalize x.word.2.wrong=o at r3 ⊢
  generalize (x.word.2.ws.map strRow)=rows at r3 ⊢
  generalize x.word.1=w at r1 ⊢
  cases o<;>cases hA:beqL w a<;>cases hB:beqL w b
  all_goals
   simp only [go_sem,reduceIte,reduceEqDiff,reduceAdd,reduceMul,reduceSub,reduceLeDiff,reduceLT,Nat.reduceBEq,reduceCtorEq,en167 h167,r1,r3,hbx,hlo',hid1,hne,hA,hB]
   first | done | (rw [r2];omega) | omega
 obtain ⟨v,H1,h1,rfl,h2,h3⟩:=key
 exact ⟨H1,h1,h2,h3⟩
end Go.Sim

/-
A table of one's own for a walk, with functions known by a contract that turn one block.
-/
namespace Go.Sim
open Go Go.Proofs
theorem acc_at1 {C:Cfg} (T:TT AV) (n:Nat) (d:Option Tmp) (x a:Operand) (ts:Array TypeId) (t:TypeId) (p:String) (af:Array Edge) (gd:Option (Nat × Bool)):accOf C T n .writeAt ⟨d,.call ⟨.value x,#[a],ts⟩,t,p,af,gd⟩=accS (evalO C T a):=by
 unfold accOf
 cases h:evalO C T a with
 | none=>simp [h,accS]
 | some v=>cases v with
   | ps t rows=>cases t<;>simp [h,accS]
   | _=>simp [h,accS]
noncomputable def walkW (good:FuncId→Bool) (ra lit:FuncId→TypeId→Bool) (mode:FuncId→Mode) (plans:FuncId→Nat→List OpI) (P V:FuncId→Option (List AV→Option AV)) (X:FuncId→Option (Nat→List AV→Heap→Option (AV × Heap))):Cfg :=
 { NC with good:=good,refApp:=ra,lit:=lit,plans:=plans,mode:=mode,memo:=fun _ _=>none,prim:=fun f=>(P f).map onPure,hprim:=fun f=>match X f with
  | some p=>some p
  | none=>(V f).map onView,twice:=fun _=>false,at1:=fun f=>(X f).isSome }
theorem walkW_sane {good:FuncId→Bool} {ra lit:FuncId→TypeId→Bool} {mode:FuncId→Mode} {plans:FuncId→Nat→List OpI} {P V:FuncId→Option (List AV→Option AV)} {X:FuncId→Option (Nat→List AV→Heap→Option (AV × Heap))}
 (hP:∀ f p args v,P f=some p→p args=some v → ∀ lo H,CallOk NC lo f args H v H) (hV:∀ f p args v,V f=some p→p args=some v → ∀ lo H,CallOk NC lo f args H v H)
 (hX:∀ (C2:Cfg),C2.P=NC.P→C2.glob=NC.glob → ∀ f p lo args H v H',X f=some p→p lo args H=some (v,H')→CallOk C2 lo f args H v H')
 (hA:∀ f p lo args H v H',X f=some p→p lo args H=some (v,H') → ∀ id,id < H.n→(∀ off r,args ≠ .ptr id off::r)→H'.get id=H.get id)
 (hg:∀ f,good f=true → ∃ fn c,NC.P.funcs[f]? = some fn∧fn.body=some c∧(fn.name == "runtime.NumGoroutine")=false∧codeOk (walkW good ra lit mode plans P V X) f fn.ntmps c=true):Sane (walkW good ra lit mode plans P V X) where
 depth:=saneNC.depth
 orders:=saneNC.orders
 good:=hg
 memo:=fun f args v h=>by cases h
 prim:=fun f p args v hp h lo H=>by
  have hp:(P f).map onPure=some p:=hp
  cases hq:P f with
  | none=>rw [hq] at hp;cases hp
  | some q =>
    rw [hq] at hp
    have hp:onPure q=p:=by simpa using hp
    subst hp
    unfold onPure at h
    split at h
    · rename_i h1
      split at h
      · rename_i u hu
        split at h
        · rename_i h2
          simp at h;subst h
          exact other_ok (C:=NC) (C2:=walkW good ra lit mode plans P V X) rfl rfl (hP f q args u hq hu 0 .empty) h1 h2 lo H
        · cases h
      · cases h
    · cases h
 hprim:=fun f p lo args H v H' hp h hl=>by
  have hp:(match X f with
   | some p=>some p
   | none=>(V f).map onView)=some p:=hp
  cases hx:X f with
  | some q =>
    rw [hx] at hp
    have hp:q=p:=by simpa using hp
    subst hp
    exact hX (walkW good ra lit mode plans P V X) rfl rfl f q lo args H v H' hx h
  | none =>
    rw [hx] at hp
    simp only at hp
    cases hq:V f with
    | none=>rw [hq] at hp;cases hp
    | some q =>
      rw [hq] at hp
      have hp:onView q=p:=by simpa using hp
      subst hp
      unfold onView at h
      split at h
      · rename_i a ha
        split at h
        · rename_i u hu
          split at h
          · rename_i h2
            simp at h
            obtain ⟨rfl,rfl⟩:=h
            exact ahead_ok (C:=NC) (C2:=walkW good ra lit mode plans P V X) rfl rfl (hV f q a u hq hu 0 .empty) h2 lo ha
          · cases h
        · cases h
      · cases h
 at1:=fun f p lo args H v H' h1 hp h=>by
  have h1:(X f).isSome=true:=h1
  have hp:(match X f with
   | some p=>some p
   | none=>(V f).map onView)=some p:=hp
  cases hx:X f with
  | none=>rw [hx] at h1;cases h1
  | some q =>
    rw [hx] at hp
    have hp:q=p:=by simpa using hp
    subst hp
    exact hA f q lo args H v H' hx h
end Go.Sim

/-
Texts: the three takers as functions over a block, for a table of walks.
-/
namespace Go.Sim
open Go Go.Proofs
set_option maxRecDepth 100000
def F167 (rest:List AV) (x:Tk):Option (AV × Tok × Tk):=match rest with
 | []=>some (.str x.word.1,wordT x,x.word.2)
 | _=>none
def F218 (rest:List AV) (x:Tk):Option (AV × Tok × Tk):=match rest with
 | []=>if x.ws.all (fun w=>decide (w.length≤maxRows)) then some (.int .i64 x.num.1,wordT x,x.num.2) else none
 | _=>none
def F219 (rest:List AV) (x:Tk):Option (AV × Tok × Tk):=match rest with
 | [.agg [.str a,.str b]]=>some (.bool (x.one a b).1,wordT x,(x.one a b).2)
 | _=>none
noncomputable abbrev TC:Cfg:=NC.withPrims PPtk
theorem tc_sane:Sane TC:=saneNC.withPrims primstk
theorem get_one (b:ABlk):(Heap.empty.push b).get 0=b:=by rw [Heap.get_push,if_pos (by rw [empty_n])]
theorem n_one (b:ABlk):0 < (Heap.empty.push b).n:=by rw [Heap.n_push,empty_n];decide
theorem ok167 (C2:Cfg) (hP:C2.P=NC.P) (hG:C2.glob=NC.glob) (lo:Nat) (args:List AV) (H:Heap) (v:AV) (H':Heap) (h:hTk F167 lo args H=some (v,H')):CallOk C2 lo 167 args H v H':=by
 refine hTk_ok (C:=TC) tc_sane rfl rfl (f:=167) (F:=F167) ?_ C2 hP hG lo args H v H' h
 clear h
 intro rest x v t' x' h
 unfold F167 at h
 split at h
 · simp at h
   obtain ⟨rfl,rfl,rfl⟩:=h
   refine ⟨rfl,fun a ha=>(by cases ha),wordT_ok x,fun t ht => ?_⟩
   obtain ⟨H1,h1,h2,h3,_⟩:=r167 (P:=PPtk) (lo:=0) (id:=0) ht (Nat.le_refl _) (n_one _) (get_one (.cells (TkC t x) 291))
   exact ⟨H1,h1,by rw [h2];exact n_one _,h3⟩
 · cases h
theorem ok218 (C2:Cfg) (hP:C2.P=NC.P) (hG:C2.glob=NC.glob) (lo:Nat) (args:List AV) (H:Heap) (v:AV) (H':Heap) (h:hTk F218 lo args H=some (v,H')):CallOk C2 lo 218 args H v H':=by
 refine hTk_ok (C:=TC) tc_sane rfl rfl (f:=218) (F:=F218) ?_ C2 hP hG lo args H v H' h
 clear h
 intro rest x v t' x' h
 unfold F218 at h
 split at h
 · split at h
   · rename_i hw
     simp at h
     obtain ⟨rfl,rfl,rfl⟩:=h
     refine ⟨rfl,fun a ha=>(by cases ha),wordT_ok x,fun t ht => ?_⟩
     obtain ⟨H1,h1,h2,h3,_⟩:=r218 (lo:=0) (id:=0) ht (fun w hm=>by simpa using (List.all_eq_true.1 hw) w hm) (Nat.le_refl _) (n_one _) (get_one (.cells (TkC t x) 291))
     exact ⟨H1,h1,by rw [h2];exact n_one _,h3⟩
   · cases h
 · cases h
theorem ok219 (C2:Cfg) (hP:C2.P=NC.P) (hG:C2.glob=NC.glob) (lo:Nat) (args:List AV) (H:Heap) (v:AV) (H':Heap) (h:hTk F219 lo args H=some (v,H')):CallOk C2 lo 219 args H v H':=by
 refine hTk_ok (C:=TC) tc_sane rfl rfl (f:=219) (F:=F219) ?_ C2 hP hG lo args H v H' h
 clear h
 intro rest x v t' x' h
 unfold F219 at h
 split at h
 · rename_i a b
   simp at h
   obtain ⟨rfl,rfl,rfl⟩:=h
   refine ⟨rfl,fun c hc=>(by
    have:c=.agg [.str a,.str b]:=by simpa using hc
    rw [this];rfl),wordT_ok x,fun t ht => ?_⟩
   obtain ⟨H1,h1,h2,h3⟩:=r219 (lo:=0) (id:=0) a b ht (Nat.le_refl _) (n_one _) (get_one (.cells (TkC t x) 291))
   exact ⟨H1,h1,Nat.lt_of_lt_of_le (n_one _) h2,h3⟩
 · cases h
end Go.Sim

/-
Texts: the table for the walk of Parse by the program.
-/
namespace Go.Sim
open Go Go.Proofs
set_option maxRecDepth 100000
set_option maxHeartbeats 16000000
/-! ### The forms of a line -/
def formsL:List (List AV):=[[.str sLine,.int .i64 0,.fn 216 [] []],[.str sPiece,.int .i64 0,.fn 217 [] []],[.str sSwitch,.int .i64 1,.fn 220 [] []],[.str sStructure,.int .i64 2,.fn 221 [] []]]
theorem c169:∀ lo H,CallOk NC lo 169 [] H (.ps .unk formsL) H:=by
 refine contract saneNC primsOk_none (fn:=Tryz.f169) (by kernel_rfl) Tryz.func169 rfl rfl (by rfl) (by rfl) ?_
 have hpf:∀ f:FuncId,(AV.fn f [] []).pure=true:=fun _=>rfl
 simp only [go_sem,reduceIte,reduceEqDiff,reduceAdd,reduceMul,reduceSub,reduceLeDiff,reduceLT,Nat.reduceBEq,reduceCtorEq,formsL,hpf]
 first | done | rfl
noncomputable def p169:List AV→Option AV:=fun l=>match l with
 | []=>some (.ps .unk formsL)
 | _=>none
theorem pok169:∀ args v,p169 args=some v → ∀ lo H,CallOk NC lo 169 args H v H:=by
 intro args v h
 cases args with
 | nil =>
   have e:v=.ps .unk formsL:=by simpa [p169] using h.symm
   subst e;exact c169
 | cons a r=>simp [p169] at h
/-! ### The table -/
noncomputable def PPw:FuncId→Option (List AV→Option AV):=fun f=>cond (Nat.beq f 165) (some p165) (cond (Nat.beq f 166) (some p166) (cond (Nat.beq f 169) (some p169) (cond (Nat.beq f 213) (some p213) none)))
theorem primsw:∀ f p args v,PPw f=some p→p args=some v → ∀ lo H,CallOk NC lo f args H v H:=by
 intro f p args v h
 unfold PPw at h
 cases h0:Nat.beq f 165 with
 | true =>
   rw [h0] at h;cases h
   rw [Nat.eq_of_beq_eq_true h0];exact pok165 args v
 | false =>
   rw [h0] at h
   cases h1:Nat.beq f 166 with
   | true =>
     rw [h1] at h;cases h
     rw [Nat.eq_of_beq_eq_true h1];exact pok166 args v
   | false =>
     rw [h1] at h
     cases h2:Nat.beq f 169 with
     | true =>
       rw [h2] at h;cases h
       rw [Nat.eq_of_beq_eq_true h2];exact pok169 args v
     | false =>
       rw [h2] at h
       cases h3:Nat.beq f 213 with
       | true =>
         rw [h3] at h;cases h
         rw [Nat.eq_of_beq_eq_true h3];exact pok213 args v
       | false =>
         rw [h3] at h
         cases h
noncomputable def VVw:FuncId→Option (List AV→Option AV):=fun f=>cond (Nat.beq f 29) (some p29) none
theorem viewsw:∀ f p args v,VVw f=some p→p args=some v → ∀ lo H,CallOk NC lo f args H v H:=by
 intro f p args v h
 unfold VVw at h
 cases h1:Nat.beq f 29 with
 | true =>
   rw [h1] at h;cases h
   rw [Nat.eq_of_beq_eq_true h1];exact pok29 args v
 | false=>rw [h1] at h;cases h
noncomputable def XXw:FuncId→Option (Nat→List AV→Heap→Option (AV × Heap)):=fun f=>cond (Nat.beq f 167) (some (hTk F167)) (cond (Nat.beq f 218) (some (hTk F218)) (cond (Nat.beq f 219) (some (hTk F219)) none))
theorem xxw {f:FuncId} {p:Nat→List AV→Heap→Option (AV × Heap)} (h:XXw f=some p):(f=167∧p=hTk F167)∨(f=218∧p=hTk F218)∨(f=219∧p=hTk F219):=by
 unfold XXw at h
 cases h1:Nat.beq f 167 with
 | true =>
   rw [h1] at h;cases h
   exact .inl ⟨Nat.eq_of_beq_eq_true h1,rfl⟩
 | false =>
   rw [h1] at h
   cases h2:Nat.beq f 218 with
   | true =>
     rw [h2] at h;cases h
     exact .inr (.inl ⟨Nat.eq_of_beq_eq_true h2,rfl⟩)
   | false =>
     rw [h2] at h
     cases h3:Nat.beq f 219 with
     | true =>
       rw [h3] at h;cases h
       exact .inr (.inr ⟨Nat.eq_of_beq_eq_true h3,rfl⟩)
     | false=>rw [h3] at h;cases h
theorem xw_ok:∀ (C2:Cfg),C2.P=NC.P→C2.glob=NC.glob → ∀ f p lo args H v H',XXw f=some p→p lo args H=some (v,H')→CallOk C2 lo f args H v H':=by
 intro C2 hP hG f p lo args H v H' hx h
 rcases xxw hx with ⟨rfl,rfl⟩ | ⟨rfl,rfl⟩ | ⟨rfl,rfl⟩
 · exact ok167 C2 hP hG lo args H v H' h
 · exact ok218 C2 hP hG lo args H v H' h
 · exact ok219 C2 hP hG lo args H v H' h
theorem xw_at:∀ f p lo args H v H',XXw f=some p→p lo args H=some (v,H') → ∀ id,id < H.n→(∀ off r,args ≠ .ptr id off::r)→H'.get id=H.get id:=by
 intro f p lo args H v H' hx h
 rcases xxw hx with ⟨rfl,rfl⟩ | ⟨rfl,rfl⟩ | ⟨rfl,rfl⟩
 · exact hTk_at h
 · exact hTk_at h
 · exact hTk_at h
def goodW (f:FuncId):Bool:=Nat.beq f 88 || Nat.beq f 164 || Nat.beq f 212 || Nat.beq f 168 || Nat.beq f 170 || Nat.beq f 216 || Nat.beq f 217 || Nat.beq f 220 || Nat.beq f 221
noncomputable def planW (f:FuncId) (id:Nat):List OpI:=cond (Nat.beq f 216 && Nat.beq id 0) ([⟨.data,0,0,[]⟩,⟨.data,0,0,[]⟩,⟨.data,0,2,[]⟩,⟨.data,0,6,[]⟩,⟨.load,0,14,[]⟩,⟨.data,0,0,[]⟩,⟨.writeAt,0,32,[4]⟩,⟨.data,1,96,[]⟩,⟨.fresh,1,224,[]⟩,⟨.writeAt,2,510,[]⟩,⟨.data,3,1023,[]⟩,⟨.data,3,2047,[]⟩,⟨.writeAt,3,4095,[]⟩]) (NC.plans f id)
noncomputable def modeW (f:FuncId):Mode:=cond (Nat.beq f 164) .fresh (NC.mode f)
noncomputable def WP:Cfg:=walkW goodW NC.refApp (fun f t=>Nat.beq f 216 && Nat.beq t 36) modeW planW PPw VVw XXw
theorem wp_sane:Sane WP:=walkW_sane primsw viewsw xw_ok xw_at (by
 intro f hf
 have hf:(Nat.beq f 88 || Nat.beq f 164 || Nat.beq f 212 || Nat.beq f 168 || Nat.beq f 170 || Nat.beq f 216 || Nat.beq f 217 || Nat.beq f 220 || Nat.beq f 221)=true:=hf
 simp only [Bool.or_eq_true] at hf
 rcases hf with (((((((hf | hf) | hf) | hf) | hf) | hf) | hf) | hf) | hf
 · have:=Nat.eq_of_beq_eq_true hf;subst this
   exact ⟨_,_,Tryz.func88,rfl,by kernel_rfl,by kernel_rfl⟩
 · have:=Nat.eq_of_beq_eq_true hf;subst this
   exact ⟨_,_,Tryz.func164,rfl,by kernel_rfl,by kernel_rfl⟩
 · have:=Nat.eq_of_beq_eq_true hf;subst this
   exact ⟨_,_,Tryz.func212,rfl,by kernel_rfl,by kernel_rfl⟩
 · have:=Nat.eq_of_beq_eq_true hf;subst this
   exact ⟨_,_,Tryz.func168,rfl,by kernel_rfl,by kernel_rfl⟩
 · have:=Nat.eq_of_beq_eq_true hf;subst this
   exact ⟨_,_,Tryz.func170,rfl,by kernel_rfl,by kernel_rfl⟩
 · have:=Nat.eq_of_beq_eq_true hf;subst this
   exact ⟨_,_,Tryz.func216,rfl,by kernel_rfl,by kernel_rfl⟩
 · have:=Nat.eq_of_beq_eq_true hf;subst this
   exact ⟨_,_,Tryz.func217,rfl,by kernel_rfl,by kernel_rfl⟩
 · have:=Nat.eq_of_beq_eq_true hf;subst this
   exact ⟨_,_,Tryz.func220,rfl,by kernel_rfl,by kernel_rfl⟩
 · have:=Nat.eq_of_beq_eq_true hf;subst this
   exact ⟨_,_,Tryz.func221,rfl,by kernel_rfl,by kernel_rfl⟩)
theorem wpP:WP.P=NC.P:=rfl
theorem wpF (f:FuncId) (t:TypeId):WP.frz f t=false:=Eq.trans rfl rfl
theorem wpp_88_11:WP.plans 88 11=[⟨.data,0,0,[]⟩,⟨.data,0,1,[]⟩,⟨.data,0,3,[]⟩,⟨.data,0,7,[]⟩,⟨.data,0,15,[]⟩,⟨.data,0,31,[]⟩,⟨.data,0,63,[]⟩,⟨.read,0,127,[]⟩,⟨.data,0,127,[]⟩,⟨.data,0,511,[]⟩,⟨.data,0,1023,[]⟩,⟨.load,0,2047,[]⟩,⟨.load,0,127,[]⟩,⟨.data,0,8191,[]⟩,⟨.data,0,16383,[]⟩]:=by kernel_rfl
theorem wpp_88_12:WP.plans 88 12=[⟨.data,0,0,[]⟩,⟨.load,0,0,[]⟩,⟨.writeAt,0,1,[1]⟩,⟨.writeAt,1,7,[]⟩,⟨.writeAt,2,15,[]⟩]:=by kernel_rfl
theorem wpp_88_16:WP.plans 88 16=[⟨.data,0,0,[]⟩,⟨.load,0,0,[]⟩,⟨.writeAt,0,1,[1]⟩,⟨.writeAt,1,7,[]⟩,⟨.writeAt,2,15,[]⟩]:=by kernel_rfl
theorem wpp_88_20:WP.plans 88 20=[⟨.data,0,0,[]⟩,⟨.load,0,0,[]⟩,⟨.data,0,0,[]⟩,⟨.writeAt,0,1,[1]⟩,⟨.writeAt,1,11,[]⟩,⟨.writeAt,2,31,[]⟩]:=by kernel_rfl
theorem wpp_212_4:WP.plans 212 4=[⟨.load,0,0,[]⟩,⟨.data,0,0,[]⟩,⟨.data,0,2,[]⟩,⟨.data,0,7,[]⟩,⟨.load,0,0,[]⟩,⟨.data,0,0,[]⟩,⟨.data,0,32,[]⟩,⟨.data,0,112,[]⟩,⟨.data,0,15,[]⟩,⟨.writeAt,0,511,[]⟩]:=by kernel_rfl
theorem wpp_216_0:WP.plans 216 0=[⟨.data,0,0,[]⟩,⟨.data,0,0,[]⟩,⟨.data,0,2,[]⟩,⟨.data,0,6,[]⟩,⟨.load,0,14,[]⟩,⟨.data,0,0,[]⟩,⟨.writeAt,0,32,[4]⟩,⟨.data,1,96,[]⟩,⟨.fresh,1,224,[]⟩,⟨.writeAt,2,510,[]⟩,⟨.data,3,1023,[]⟩,⟨.data,3,2047,[]⟩,⟨.writeAt,3,4095,[]⟩]:=by kernel_rfl
theorem wpp_217_6:WP.plans 217 6=[⟨.data,0,0,[]⟩,⟨.data,0,1,[]⟩,⟨.data,0,3,[]⟩,⟨.load,0,7,[]⟩,⟨.data,0,0,[]⟩,⟨.data,0,16,[]⟩,⟨.data,0,48,[]⟩,⟨.load,0,112,[]⟩,⟨.read,0,240,[]⟩,⟨.data,0,496,[]⟩,⟨.data,0,1023,[]⟩,⟨.data,0,2047,[]⟩]:=by kernel_rfl
theorem wpp_217_7:WP.plans 217 7=[⟨.data,0,0,[]⟩,⟨.data,0,0,[]⟩,⟨.data,0,2,[]⟩,⟨.data,0,6,[]⟩,⟨.load,0,14,[]⟩,⟨.load,0,0,[]⟩,⟨.data,0,32,[]⟩,⟨.writeAt,0,126,[]⟩,⟨.data,1,255,[]⟩,⟨.data,1,511,[]⟩,⟨.writeAt,1,1023,[]⟩]:=by kernel_rfl
theorem wpp_220_5:WP.plans 220 5=[⟨.data,0,0,[]⟩,⟨.data,0,0,[]⟩,⟨.data,0,2,[]⟩,⟨.data,0,6,[]⟩,⟨.load,0,14,[]⟩,⟨.load,0,0,[]⟩,⟨.data,0,32,[]⟩,⟨.writeAt,0,126,[]⟩,⟨.data,1,255,[]⟩,⟨.data,1,511,[]⟩,⟨.writeAt,1,1023,[]⟩]:=by kernel_rfl
theorem wpp_221_5:WP.plans 221 5=[⟨.data,0,0,[]⟩,⟨.data,0,0,[]⟩,⟨.data,0,2,[]⟩,⟨.data,0,6,[]⟩,⟨.load,0,14,[]⟩,⟨.load,0,0,[]⟩,⟨.data,0,32,[]⟩,⟨.writeAt,0,126,[]⟩,⟨.data,1,255,[]⟩,⟨.data,1,511,[]⟩,⟨.writeAt,1,1023,[]⟩]:=by kernel_rfl
theorem wra_216_36:WP.refApp 216 36=true:=by kernel_rfl
theorem wli_216_36:WP.lit 216 36=true:=by kernel_rfl
theorem wra_217_194:WP.refApp 217 194=false:=by kernel_rfl
theorem wli_217_194:WP.lit 217 194=false:=by kernel_rfl
theorem wra_220_37:WP.refApp 220 37=false:=by kernel_rfl
theorem wli_220_37:WP.lit 220 37=false:=by kernel_rfl
theorem wra_221_38:WP.refApp 221 38=false:=by kernel_rfl
theorem wli_221_38:WP.lit 221 38=false:=by kernel_rfl
theorem wli_88_40:WP.lit 88 40=false:=by kernel_rfl
attribute [go_sem] wpP wpF wpp_88_11 wpp_88_12 wpp_88_16 wpp_88_20 wpp_212_4 wpp_216_0 wpp_217_6 wpp_217_7 wpp_220_5 wpp_221_5 wra_216_36 wli_216_36 wra_217_194 wli_217_194 wra_220_37 wli_220_37 wra_221_38 wli_221_38 wli_88_40
theorem wp_165 {rec:Rec} {lo:Nat} {args:List AV} {H:Heap} {K:AV→Heap→Prop}:VO (aenter WP rec lo 165 args H) K=AO (onPure p165 args) fun v=>K v H:=enter_prim (by rfl) (by kernel_rfl)
theorem wp_166 {rec:Rec} {lo:Nat} {args:List AV} {H:Heap} {K:AV→Heap→Prop}:VO (aenter WP rec lo 166 args H) K=AO (onPure p166 args) fun v=>K v H:=enter_prim (by rfl) (by kernel_rfl)
theorem wp_169 {rec:Rec} {lo:Nat} {args:List AV} {H:Heap} {K:AV→Heap→Prop}:VO (aenter WP rec lo 169 args H) K=AO (onPure p169 args) fun v=>K v H:=enter_prim (by rfl) (by kernel_rfl)
theorem wp_213 {rec:Rec} {lo:Nat} {args:List AV} {H:Heap} {K:AV→Heap→Prop}:VO (aenter WP rec lo 213 args H) K=AO (onPure p213 args) fun v=>K v H:=enter_prim (by rfl) (by kernel_rfl)
theorem enter_h {C:Cfg} {f:FuncId} {p:Nat→List AV→Heap→Option (AV × Heap)} (hm:∀ args,C.memo f args=none) (hp:C.prim f=none) (hh:C.hprim f=some p) {rec:Rec} {lo:Nat} {args:List AV} {H:Heap} {K:AV→Heap→Prop}:VO (aenter C rec lo f args H) K=VO (p lo args H) K:=by
 unfold aenter
 simp only [hm,hp,hh]
theorem wp_167 {rec:Rec} {lo:Nat} {args:List AV} {H:Heap} {K:AV→Heap→Prop}:VO (aenter WP rec lo 167 args H) K=VO (hTk F167 lo args H) K:=enter_h (fun _=>rfl) (by kernel_rfl) (by kernel_rfl)
theorem wp_218 {rec:Rec} {lo:Nat} {args:List AV} {H:Heap} {K:AV→Heap→Prop}:VO (aenter WP rec lo 218 args H) K=VO (hTk F218 lo args H) K:=enter_h (fun _=>rfl) (by kernel_rfl) (by kernel_rfl)
theorem wp_219 {rec:Rec} {lo:Nat} {args:List AV} {H:Heap} {K:AV→Heap→Prop}:VO (aenter WP rec lo 219 args H) K=VO (hTk F219 lo args H) K:=enter_h (fun _=>rfl) (by kernel_rfl) (by kernel_rfl)
theorem wp_29 {rec:Rec} {lo:Nat} {args:List AV} {H:Heap} {K:AV→Heap→Prop}:VO (aenter WP rec lo 29 args H) K=VO (onView p29 lo args H) K:=enter_h (fun _=>rfl) (by kernel_rfl) (by kernel_rfl)
theorem wp_164 {lo:Nat} {args:List AV} {H:Heap} {K:AV→Heap→Prop}:VO (aenter WP (R WP) lo 164 args H) K=AO (R WP (.call H.n 164 args H)) fun o=>K o.val o.s.H:=enter_fresh rfl (by kernel_rfl) (by kernel_rfl) (by kernel_rfl) (by kernel_rfl)
theorem wp_168 {lo:Nat} {args:List AV} {H:Heap} {K:AV→Heap→Prop}:VO (aenter WP (R WP) lo 168 args H) K=AO (R WP (.call H.n 168 args H)) fun o=>o.val.strip.pure=true∧K o.val.strip H:=enter_pure rfl (by kernel_rfl) (by kernel_rfl) (by kernel_rfl) (by kernel_rfl)
theorem wp_170 {lo:Nat} {args:List AV} {H:Heap} {K:AV→Heap→Prop}:VO (aenter WP (R WP) lo 170 args H) K=AO (R WP (.call H.n 170 args H)) fun o=>o.val.strip.pure=true∧K o.val.strip H:=enter_pure rfl (by kernel_rfl) (by kernel_rfl) (by kernel_rfl) (by kernel_rfl)
theorem wp_216 {lo:Nat} {args:List AV} {H:Heap} {K:AV→Heap→Prop}:VO (aenter WP (R WP) lo 216 args H) K=AO (R WP (.call lo 216 args H)) fun o=>K o.val o.s.H:=enter_free rfl (by kernel_rfl) (by kernel_rfl) (by kernel_rfl) (by kernel_rfl)
theorem wp_217 {lo:Nat} {args:List AV} {H:Heap} {K:AV→Heap→Prop}:VO (aenter WP (R WP) lo 217 args H) K=AO (R WP (.call lo 217 args H)) fun o=>K o.val o.s.H:=enter_free rfl (by kernel_rfl) (by kernel_rfl) (by kernel_rfl) (by kernel_rfl)
theorem wp_220 {lo:Nat} {args:List AV} {H:Heap} {K:AV→Heap→Prop}:VO (aenter WP (R WP) lo 220 args H) K=AO (R WP (.call lo 220 args H)) fun o=>K o.val o.s.H:=enter_free rfl (by kernel_rfl) (by kernel_rfl) (by kernel_rfl) (by kernel_rfl)
theorem wp_221 {lo:Nat} {args:List AV} {H:Heap} {K:AV→Heap→Prop}:VO (aenter WP (R WP) lo 221 args H) K=AO (R WP (.call lo 221 args H)) fun o=>K o.val o.s.H:=enter_free rfl (by kernel_rfl) (by kernel_rfl) (by kernel_rfl) (by kernel_rfl)
attribute [go_sem ↓] wp_165 wp_166 wp_169 wp_213 wp_167 wp_218 wp_219 wp_29 wp_164 wp_168 wp_170 wp_216 wp_217 wp_220 wp_221 op_buildLit
theorem wglob0 {T:TT AV}:evalO WP T (.global 0)=some (.pptr [.str sUp,.str sDown]):=by kernel_rfl
theorem wglob1 {T:TT AV}:evalO WP T (.global 1)=some (.pptr [.str sFirst,.str sLast]):=by kernel_rfl
attribute [go_sem] wglob0 wglob1 acc_at1 accS_ptr
end Go.Sim

/-
Texts: the lines of a text as strings.Lines tells them; a step of Parse: the plain law.
-/
namespace Go.Sim
open Go Go.Proofs
def remS (s:Wd) (k:Nat):Wd:=((partS s).drop k).flatMap (fun l=>l++[10])++lastW (splitL 10 s)
theorem remS_zero (s:Wd):remS s 0=s:=(text_lines s).symm
theorem remS_end (s:Wd):remS s (partS s).length=lastW (splitL 10 s):=by
 unfold remS;rw [List.drop_length];rfl
theorem split_no {c:Nat} {s w:List Nat} (h:w ∈ splitL c s):c ∉ w:=splitL_pieces s [] (by simp) w h
theorem last_mem (s:Wd):lastW (splitL 10 s) ∈ splitL 10 s:=by
 have h:=split_snoc 10 s
 rw [h]
 have e:lastW ((splitL 10 s).dropLast++[lastW (splitL 10 s)])=lastW (splitL 10 s):=by rw [← h]
 rw [e];simp
theorem part_mem {s l:Wd} {k:Nat} (h:(partS s)[k]? = some l):l ∈ splitL 10 s:=by
 have h1:=List.mem_of_getElem? h
 rw [split_snoc 10 s]
 exact List.mem_append_left _ h1
theorem remS_succ {s l:Wd} {k:Nat} (h:(partS s)[k]? = some l):remS s k=l++10::remS s (k+1):=by
 obtain ⟨hk,he⟩:=List.getElem?_eq_some_iff.1 h
 unfold remS
 rw [List.drop_eq_getElem_cons hk,he,List.flatMap_cons]
 simp
theorem remS_len (s:Wd):∀ k,(remS s k).length≤s.length:=by
 intro k
 have h:(remS s 0).length=s.length:=by rw [remS_zero]
 rw [← h]
 unfold remS
 rw [List.drop_zero,List.length_append,List.length_append]
 have:(((partS s).drop k).flatMap fun l=>l++[10]).length≤((partS s).flatMap fun l=>l++[10]).length:=by
  conv=>rhs;rw [← List.take_append_drop k (partS s)]
  rw [List.flatMap_append,List.length_append];omega
 omega
theorem idxL_app {c:Nat}:∀ {l:List Nat} (r:List Nat),c ∉ l→idxL c (l++c::r)=(l.length:Int)
 | [],r,_=>by simp [idxL]
 | a::l,r,h=>by
   rw [List.mem_cons,not_or] at h
   have ih:=idxL_app (l:=l) r h.2
   show (if a=c then 0 else if idxL c (l++c::r) = -1 then -1 else idxL c (l++c::r)+1)=_
   rw [if_neg (Ne.symm h.1),ih,if_neg (by omega)]
   simp
theorem idxL_no {c:Nat} {l:List Nat} (h:c ∉ l):idxL c l = -1:=by
 rcases idxL_cases c l with ⟨h1,_⟩ | ⟨i,_,_,h3,_⟩
 · exact h1
 · exact absurd (List.mem_of_getElem? h3) h
theorem beqL_same (a:Wd):beqL a a=true:=by rw [beqL_dec];simp
theorem beqL_to {a b:Wd} (h:beqL a b=true):a=b:=by rw [beqL_dec] at h;simpa using h
/-! ### A step -/
theorem word_sub (x:Tk):∀ w ∈ x.word.2.ws,w ∈ x.ws:=by
 obtain ⟨ws,b⟩:=x
 intro w h
 unfold Tk.word at h
 cases ws with
 | nil=>cases h
 | cons a r =>
   simp only at h
   split at h
   · cases h
   · exact List.mem_cons_of_mem _ h
def idxK (h:Wd):Int:=match kindW h with
 | none=>-1
 | some q=>(q:Int)
theorem step_none {n:Net} {k:Int} {i:Nat} {l:Wd} {r:List Wd} (h:kindW (Tk.word ⟨splitL 32 l,false⟩).1=none):(goG n k i (l::r)).2.2=some i:=by
 rw [goG_cons,← lineT_eq]
 unfold lineT
 rw [h]
theorem step_low {n:Net} {k:Int} {i q:Nat} {l:Wd} {r:List Wd} (h:kindW (Tk.word ⟨splitL 32 l,false⟩).1=some q) (hk:kindOf q < k):(goG n k i (l::r)).2.2=some i:=by
 rw [goG_cons,← lineT_eq]
 unfold lineT
 rw [h]
 simp only
 cases hf:finT (readT n (Tk.word ⟨splitL 32 l,false⟩).2 q) (kindOf q) with
 | none=>rfl
 | some y =>
   obtain ⟨n',k'⟩:=y
   obtain ⟨_,_,h3⟩:=finT_iff.1 hf
   have:k'=kindOf q:=(congrArg Prod.snd h3).symm
   simp only
   rw [if_pos (by omega)]
theorem step_bad {n:Net} {k:Int} {i q:Nat} {l:Wd} {r:List Wd} (h:kindW (Tk.word ⟨splitL 32 l,false⟩).1=some q) (hb:(readT n (Tk.word ⟨splitL 32 l,false⟩).2 q).2.wrong=true∨(readT n (Tk.word ⟨splitL 32 l,false⟩).2 q).2.ws ≠ []):(goG n k i (l::r)).2.2=some i:=by
 rw [goG_cons,← lineT_eq]
 unfold lineT
 rw [h]
 simp only
 unfold finT
 rw [if_pos hb]
theorem step_good {n:Net} {k:Int} {i q:Nat} {l:Wd} {r:List Wd} (h:kindW (Tk.word ⟨splitL 32 l,false⟩).1=some q) (hk:¬ kindOf q < k) (h1:(readT n (Tk.word ⟨splitL 32 l,false⟩).2 q).2.wrong=false) (h2:(readT n (Tk.word ⟨splitL 32 l,false⟩).2 q).2.ws=[]) :
 goG n k i (l::r)=goG (readT n (Tk.word ⟨splitL 32 l,false⟩).2 q).1 (kindOf q) (i+1) r∧lineF n (splitL 32 l)=some ((readT n (Tk.word ⟨splitL 32 l,false⟩).2 q).1,kindOf q):=by
 have e:lineF n (splitL 32 l)=some ((readT n (Tk.word ⟨splitL 32 l,false⟩).2 q).1,kindOf q):=by
  rw [← lineT_eq]
  unfold lineT
  rw [h]
  simp only
  exact finT_iff.2 ⟨h1,h2,rfl⟩
 refine ⟨?_,e⟩
 rw [goG_cons,e]
 simp only
 rw [if_neg hk]
theorem kindW_lt {h:Wd} {q:Nat} (e:kindW h=some q):q < 4:=by
 unfold kindW at e
 split at e
 · cases e;decide
 split at e
 · cases e;decide
 split at e
 · cases e;decide
 split at e
 · cases e;decide
 cases e
/-! ### The first form with a head -/
def bW (h:Wd) (k:Nat):Bool:=if k=0 then beqL sLine h else if k=1 then beqL sPiece h else if k=2 then beqL sSwitch h else beqL sStructure h
theorem idxK_at {h:Wd} {k:Nat} (hk:k < 4) (h0:∀ i,i < k→bW h i=false) (h1:bW h k=true):idxK h=(k:Int):=by
 have hne:∀ i,bW h i=false → ¬ (h=(if i=0 then sLine else if i=1 then sPiece else if i=2 then sSwitch else sStructure)):=fun i hi he=>by
  subst he
  unfold bW at hi
  by_cases a:i=0
  · simp [a,beqL_same] at hi
  by_cases b:i=1
  · simp [b,beqL_same] at hi
  by_cases c:i=2
  · simp [c,beqL_same] at hi
  simp [a,b,c,beqL_same] at hi
 have hk':k=0∨k=1∨k=2∨k=3:=by omega
 unfold idxK kindW
 rcases hk' with rfl | rfl | rfl | rfl
 · have:h=sLine:=(beqL_to h1).symm
   rw [if_pos this]
 · have:h=sPiece:=(beqL_to h1).symm
   have a0:¬ h=sLine:=hne 0 (h0 0 (by decide))
   rw [if_neg a0,if_pos this]
 · have:h=sSwitch:=(beqL_to h1).symm
   have a0:¬ h=sLine:=hne 0 (h0 0 (by decide))
   have a1:¬ h=sPiece:=hne 1 (h0 1 (by decide))
   rw [if_neg a0,if_neg a1,if_pos this]
 · have:h=sStructure:=(beqL_to h1).symm
   have a0:¬ h=sLine:=hne 0 (h0 0 (by decide))
   have a1:¬ h=sPiece:=hne 1 (h0 1 (by decide))
   have a2:¬ h=sSwitch:=hne 2 (h0 2 (by decide))
   rw [if_neg a0,if_neg a1,if_neg a2,if_pos this]
theorem idxK_none {h:Wd} (h0:∀ i,i < 4→bW h i=false):idxK h = -1:=by
 have ne:∀ {a:Wd},beqL a h=false → ¬ h=a:=fun e he=>by rw [he,beqL_same] at e;cases e
 unfold idxK kindW
 rw [if_neg (ne (h0 0 (by decide))),if_neg (ne (h0 1 (by decide))),if_neg (ne (h0 2 (by decide))),if_neg (ne (h0 3 (by decide)))]
end Go.Sim

/-
Texts: a line read by the program: what it holds, and the first form.
-/
namespace Go.Sim
open Go Go.Proofs
set_option maxRecDepth 100000
set_option maxHeartbeats 16000000
/-! ### The network's block -/
structure NB (nb:Nat) (n:Net) (H:Heap) (lv:AV) (L:List LT) (t2 t3:Tok):Prop where
 bp:H.get nb=.cells [lv,.ps t2 (n.sws.map Sw.row),.ps t3 (n.sts.map Stc.row)] 40
 nbn:nb < H.n
 lv:LV 196 0 H lv L
 ls:L.map Prod.snd=n.lines
 last:LastE 200 0 H L
 a2:AppE 0 H t2 (n.sws.map Sw.row) 5 201
 a3:AppE 0 H t3 (n.sts.map Stc.row) 5 202
theorem NB.keep {nb:Nat} {n:Net} {H H':Heap} {lv:AV} {L:List LT} {t2 t3:Tok} (h:NB nb n H lv L t2 t3) (hn:H.n≤H'.n) (h0:H'.get nb=H.get nb) (hg:∀ i cs sz e,i < H.n→H.get i=.row cs sz e→H'.get i=H.get i):NB nb n H' lv L t2 t3 :=
 ⟨h0.trans h.bp,Nat.lt_of_lt_of_le h.nbn hn,h.lv.keep hn fun i cs hi _ hc=>hg i _ _ _ hi hc,h.ls,fun t l hl=>(h.last t l hl).keep hn fun i hi _ hc=>hg i _ _ _ hi hc,h.a2.keep hn fun i hi _ hc=>hg i _ _ _ hi hc,h.a3.keep hn fun i hi _ hc=>hg i _ _ _ hi hc⟩
structure PS (nb tb:Nat) (n:Net) (x:Tk) (H0 H:Heap):Prop where
 ex:∃ lv L t2 t3,NB nb n H lv L t2 t3
 tk:∃ t,TkT t x∧H.get tb=.cells (TkC t x) 291
 n:H0.n≤H.n
 fr:∀ j,j < H0.n→j ≠ nb→j ≠ tb→(∀ cs sz e,H0.get j ≠ .row cs sz e)→H.get j=H0.get j
theorem PS.take {nb tb:Nat} {n:Net} {x x':Tk} {t':Tok} {H0 H:Heap} (S:PS nb tb n x H0 H) (hne:nb ≠ tb) (ht:TkT t' x'):PS nb tb n x' H0 (H.set tb (.cells (TkC t' x') 291)):=by
 obtain ⟨lv,L,t2,t3,N⟩:=S.ex
 obtain ⟨t,_,hg⟩:=S.tk
 refine ⟨⟨lv,L,t2,t3,N.keep (by simp) (by rw [Heap.get_set,if_neg hne]) fun i cs sz e hi hc => ?_⟩,⟨t',ht,by rw [Heap.get_set,if_pos rfl]⟩,by simpa using S.n,fun j hj h1 h2 h3 => ?_⟩
 · rw [Heap.get_set,if_neg (fun he=>by rw [he,hg] at hc;cases hc)]
 · rw [Heap.get_set,if_neg h2];exact S.fr j hj h1 h2 h3
theorem PS.push {nb tb:Nat} {n:Net} {x:Tk} {H0 H:Heap} (S:PS nb tb n x H0 H) (htb:tb < H0.n) (b:ABlk):PS nb tb n x H0 (H.push b):=by
 obtain ⟨lv,L,t2,t3,N⟩:=S.ex
 obtain ⟨t,ht,hg⟩:=S.tk
 have hn:=S.n
 have h1:=N.nbn
 refine ⟨⟨lv,L,t2,t3,N.keep (by simp) (by rw [Heap.get_push,if_neg (by omega)]) fun i cs sz e hi hc => ?_⟩,⟨t,ht,by rw [Heap.get_push,if_neg (by omega)];exact hg⟩,by simp;omega,fun j hj h1 h2 h3 => ?_⟩
 · rw [Heap.get_push,if_neg (by omega)]
 · rw [Heap.get_push,if_neg (by omega)];exact S.fr j hj h1 h2 h3
theorem PS.setv {nb tb pb:Nat} {n:Net} {x:Tk} {H0 H:Heap} {b:ABlk} {cs0:List AV} {e0:TypeId} (S:PS nb tb n x H0 H) (h0:H0.n≤pb) (h1:nb ≠ pb) (h2:tb ≠ pb) (hc:H.get pb=.cells cs0 e0):PS nb tb n x H0 (H.set pb b):=by
 obtain ⟨lv,L,t2,t3,N⟩:=S.ex
 obtain ⟨t,ht,hg⟩:=S.tk
 refine ⟨⟨lv,L,t2,t3,N.keep (by simp) (by rw [Heap.get_set,if_neg h1]) fun i cs sz e hi hr => ?_⟩,⟨t,ht,by rw [Heap.get_set,if_neg h2];exact hg⟩,by simpa using S.n,fun j hj _ _ h3 => ?_⟩
 · rw [Heap.get_set,if_neg (fun he=>by rw [he,hc] at hr;cases hr)]
 · rw [Heap.get_set,if_neg (by omega)];exact S.fr j hj ‹_› ‹_› h3
theorem PS.box {nb tb:Nat} {n:Net} {x:Tk} {H:Heap} (S:PS nb tb n x H H) (htb:tb < H.n) (b c:ABlk) {cs0:List AV} {e0:TypeId} (hb:b=.cells cs0 e0) {x':Tk} {t':Tok} (hne:nb ≠ tb) (ht:TkT t' x'):PS nb tb n x' H (((H.set tb (.cells (TkC t' x') 291)).push b).set H.n c):=by
 obtain ⟨lv,L,t2,t3,N⟩:=S.ex
 have:=N.nbn
 have S1:=(S.take hne ht).push htb b
 exact S1.setv (Nat.le_refl _) (by omega) (by omega) (by rw [Heap.get_push,if_pos (by simp)];exact hb)
theorem lit36 (a:List Nat) (t:Tok) (rows:List (List AV)) (H:Heap):abuildLit NC.P H 36 1 [(0,.agg [.str a,.ps t rows])]=some (.rs H.n 0 1 2 (some 1),H.push (.cells [.str a,.ps t rows] 196)):=by
 have e1:elemOf NC.P 36=some 196:=by kernel_rfl
 have e2:szOf NC.P 196=some 2:=by kernel_rfl
 have e3:(zeroOf NC.P 196).isSome=true:=by kernel_rfl
 unfold abuildLit
 rw [e1]
 simp only
 rw [e2]
 simp only
 rw [e3]
 rfl
/-! ### A line's name -/
theorem r216 {nb tb:Nat} {n:Net} {x:Tk} {H:Heap} (hne:nb ≠ tb) (htb:tb < H.n) (hr:n.lines.length+1≤maxRows) (S:PS nb tb n x H H) :
 ∃ v H1,R WP (.call 0 216 [.ptr nb 0,.ptr tb 0] H)=some (.ofVal v H1)∧PS nb tb (readT n x 0).1 (readT n x 0).2 H H1:=by
 refine R_of_body (C:=WP) (f:=216) (lo:=0) (args:=[.ptr nb 0,.ptr tb 0]) (H:=H) (fn:=Tryz.f216) (Q:=fun _ H1=>PS nb tb (readT n x 0).1 (readT n x 0).2 H H1) (by kernel_rfl) Tryz.func216 rfl rfl ?_
 obtain ⟨lv,L,t2,t3,N⟩:=S.ex
 obtain ⟨t,ht,hg⟩:=S.tk
 have e:=hTk_eq (F:=F167) (lo:=0) (rest:=[]) (v:=.str x.word.1) (t':=wordT x) (x':=x.word.2) hg ht (Nat.zero_le _) htb rfl
 have S1:=S.take hne (wordT_ok x)
 have N1:NB nb n (H.set tb (.cells (TkC (wordT x) x.word.2) 291)) lv L t2 t3:=N.keep (by simp) (by rw [Heap.get_set,if_neg hne]) fun i cs sz e hi hc=>by rw [Heap.get_set,if_neg (fun he=>by rw [he,hg] at hc;cases hc)]
 have hLl:L.length=n.lines.length:=by have:=congrArg List.length N.ls;simpa using this
 have hbp:=N.bp
 have hnb:=N.nbn
 have e1:readT n x 0=(n.addLine x.word.1,x.word.2):=rfl
 rw [e1]
 have hg1:(H.set tb (.cells (TkC (wordT x) x.word.2) 291)).get tb=.cells (TkC (wordT x) x.word.2) 291:=by rw [Heap.get_set,if_pos rfl]
 have hn1:(H.set tb (.cells (TkC (wordT x) x.word.2) 291)).n=H.n:=by simp
 have ho1:∀ j,j ≠ tb→(H.set tb (.cells (TkC (wordT x) x.word.2) 291)).get j=H.get j:=fun j hj=>by rw [Heap.get_set,if_neg hj]
 generalize (H.set tb (.cells (TkC (wordT x) x.word.2) 291))=H1 at *
 have hL1:LV 196 0 (H1.push (.cells [.str x.word.1,.ps .nil []] 196)) lv L:=N1.lv.keep (by simp) fun i cs hi _ _=>by rw [Heap.get_push,if_neg (by omega)]
 obtain ⟨id,H2,ha,hL2,hn2,hb2,hc2⟩:=appL (lo:=0) (.nil,⟨x.word.1,[]⟩) hL1 (Nat.zero_le _) (Nat.zero_le _) (by rw [hLl];exact hr)
 have hli:=lit36 x.word.1 .nil [] H1
 have hch:∀ a b:AV,chunks 2 1 [a,b]=some [[a,b]]:=fun _ _=>rfl
 simp only [List.map_nil] at ha
 simp only [Heap.n_push] at hn2
 have hpH:H2.get nb=.cells [lv,.ps t2 (n.sws.map Sw.row),.ps t3 (n.sts.map Stc.row)] 40:=by
  rw [hc2 nb (by simp;omega) (fun cs=>by rw [Heap.get_push,if_neg (by omega),ho1 nb hne,hbp];intro h;cases h),Heap.get_push,if_neg (by omega),ho1 nb hne,hbp]
 have htH:H2.get tb=.cells (TkC (wordT x) x.word.2) 291:=by
  rw [hc2 tb (by simp;omega) (fun cs=>by rw [Heap.get_push,if_neg (by omega),hg1];intro h;cases h),Heap.get_push,if_neg (by omega),hg1]
 have keep:∀ i,i < H.n→(∀ cs,H1.get i ≠ .row cs 2 196)→H2.get i=H1.get i:=fun i hi h=>by
  rw [hc2 i (by simp;omega) (fun cs=>by rw [Heap.get_push,if_neg (by omega)];exact h cs),Heap.get_push,if_neg (by omega)]
 have fin:PS nb tb (n.addLine x.word.1) x.word.2 H (H2.set nb (.cells [.rs id 0 (L.length+1) 2 none,.ps t2 (n.sws.map Sw.row),.ps t3 (n.sts.map Stc.row)] 40)):=by
  refine ⟨⟨_,L++[(.nil,⟨x.word.1,[]⟩)],t2,t3,⟨by rw [Heap.get_set,if_pos rfl];rfl,by simp;omega,hL2.keep (by simp) fun i cs hi _ hc => ?_, ?_,fun t l hl => ?_, ?_, ?_⟩⟩,⟨_,wordT_ok x,by rw [Heap.get_set,if_neg (Ne.symm hne)];exact htH⟩,by simp;omega,fun j hj h1 h2 h3 => ?_⟩
  · rw [Heap.get_set,if_neg (fun he=>by rw [he,hpH] at hc;cases hc)]
  · rw [List.map_append,N.ls];rfl
  · rw [List.getLast?_concat] at hl
    cases hl
    exact .inl ⟨rfl,.inl rfl⟩
  · exact N1.a2.keep (by simp;omega) fun i hi _ hc=>by rw [Heap.get_set,if_neg (fun he=>by rw [he,ho1 nb hne,hbp] at hc;cases hc),keep i (by omega) (fun cs=>by rw [hc];intro h;cases h)]
  · exact N1.a3.keep (by simp;omega) fun i hi _ hc=>by rw [Heap.get_set,if_neg (fun he=>by rw [he,ho1 nb hne,hbp] at hc;cases hc),keep i (by omega) (fun cs=>by rw [hc];intro h;cases h)]
  · rw [Heap.get_set,if_neg h1,keep j hj (fun cs=>by rw [ho1 j h2];exact h3 _ _ _),ho1 j h2]
 have n1:=eq_false hne
 have n2:=eq_false (Ne.symm hne)
 have hpH1:H1.get nb=.cells [lv,.ps t2 (n.sws.map Sw.row),.ps t3 (n.sts.map Stc.row)] 40:=by rw [ho1 nb hne];exact hbp
 have hlv:(∃ id,lv=.rs id 0 L.length 2 none)∨(lv=.ps .nil []∧L=[]):=by
  rcases N.lv with ⟨h0,h⟩ | ⟨_,id,h,_⟩
  · exact .inr ⟨h,h0⟩
  · exact .inl ⟨_,h⟩
 rcases hlv with ⟨id0,rfl⟩ | ⟨rfl,rfl⟩
 · simp only [go_sem,reduceIte,reduceEqDiff,reduceAdd,reduceMul,reduceSub,reduceLeDiff,reduceLT,Nat.reduceBEq,reduceCtorEq,hbp,e,n1,n2,hli,hch,ha,appO,hpH,hpH1,op_nil]
   exact fin
 · simp only [go_sem,reduceIte,reduceEqDiff,reduceAdd,reduceMul,reduceSub,reduceLeDiff,reduceLT,Nat.reduceBEq,reduceCtorEq,hbp,e,n1,n2,hli,hch,ha,appO,hpH,hpH1,op_nil]
   exact fin
end Go.Sim

/-
Texts: the first form with a head, and the lines of a text, by the program: the walks.
-/
namespace Go.Sim
open Go Go.Proofs
set_option maxRecDepth 100000
set_option maxHeartbeats 16000000
theorem r170 (w head:Wd) (k:Int) (f:FuncId) {lo hb:Nat} {H:Heap} (hg:H.get hb=.cells [.str head] 9) (hhb:hb < H.n) :
 ∃ v H',R WP (.call lo 170 [.agg [.str w,.int .i64 k,.fn f [] []],.ptr hb 0] H)=some (.ofVal v H')∧v=.bool (beqL w head):=by
 refine R_of_body (C:=WP) (f:=170) (lo:=lo) (args:=[.agg [.str w,.int .i64 k,.fn f [] []],.ptr hb 0]) (H:=H) (fn:=Tryz.f170) (Q:=fun v _=>v=.bool (beqL w head)) (by kernel_rfl) Tryz.func170 rfl rfl ?_
 have z:(hb=H.n)=False:=by simp only [eq_iff_iff,iff_false];omega
 have z2:(H.n=hb)=False:=by simp only [eq_iff_iff,iff_false];omega
 simp only [go_sem,reduceIte,reduceEqDiff,reduceAdd,reduceMul,reduceSub,reduceLeDiff,reduceLT,Nat.reduceBEq,reduceCtorEq,hg,z,z2]
 first | done | rfl
def fF (k:Nat):FuncId:=if k=0 then 216 else if k=1 then 217 else if k=2 then 220 else 221
theorem form_at (head:Wd) {k:Nat} (hk:k < 4):∃ w,formsL[k]? = some [.str w,.int .i64 (kindOf k),.fn (fF k) [] []]∧bW head k=beqL w head:=by
 have h:k=0∨k=1∨k=2∨k=3:=by omega
 rcases h with rfl | rfl | rfl | rfl<;>exact ⟨_,rfl,rfl⟩
theorem r168 (head:Wd) {lo hb:Nat} {H:Heap} (hg:H.get hb=.cells [.str head] 9) (hhb:hb < H.n) :
 ∃ v H',R WP (.call lo 168 [.ps .unk formsL,.fn 170 [] [.ptr hb 0]] H)=some (.ofVal v H')∧v=i64 (idxK head):=by
 refine R_of_body (C:=WP) (f:=168) (lo:=lo) (args:=[.ps .unk formsL,.fn 170 [] [.ptr hb 0]]) (H:=H) (fn:=Tryz.f168) (Q:=fun v _=>v=i64 (idxK head)) (by kernel_rfl) Tryz.func168 rfl rfl ?_
 have hfl:formsL.length=4:=rfl
 simp only [go_sem,reduceIte,reduceEqDiff,reduceAdd,reduceMul,reduceSub,reduceLeDiff,reduceLT,Nat.reduceBEq,reduceCtorEq,hfl]
 refine W_for (fun k T H' M=>M=[]∧H=H'∧getT T 0=.ps .unk formsL∧getT T 1=.fn 170 [] [.ptr hb 0]∧getT T 7=.int .i64 ((4:Nat):Int)∧getT T 8=i64 k ∧ ∀ i,i < k→bW head i=false) 4 ?_ ?_ ?_
 · simp only [go_sem,reduceIte,reduceEqDiff,reduceAdd,reduceMul,reduceSub,reduceLeDiff,reduceLT,Nat.reduceBEq,reduceCtorEq,hfl]
   exact fun i hi=>absurd hi (Nat.not_lt_zero _)
 · rintro k T H' M hk ⟨rfl,rfl,g0,g1,g7,g8,hI⟩
   obtain ⟨w,hx,hb'⟩:=form_at head hk
   obtain ⟨v,H1,e1,rfl⟩:=r170 w head (kindOf k) (fF k) (lo:=H.n) hg hhb
   have hw:=wrap_succ hk (by unfold maxRows;omega)
   cases hB:beqL w head with
   | false =>
     rw [hB] at e1
     simp only [go_sem,reduceIte,reduceEqDiff,reduceAdd,reduceMul,reduceSub,reduceLeDiff,reduceLT,Nat.reduceBEq,reduceCtorEq,g0,g1,g7,g8,hk,hfl,hx,e1,hw]
     first
      | (intro i hi
         by_cases h:i=k
         · rw [h,hb',hB]
         · exact hI i (by omega))
   | true =>
     rw [hB] at e1
     have hE:=idxK_at hk hI (hb'.trans hB)
     simp only [go_sem,reduceIte,reduceEqDiff,reduceAdd,reduceMul,reduceSub,reduceLeDiff,reduceLT,Nat.reduceBEq,reduceCtorEq,g0,g1,g7,g8,hk,hfl,hx,e1,hw,hE]
     done
 · rintro T H' M ⟨rfl,rfl,g0,g1,g7,g8,hI⟩
   have hE:=idxK_none hI
   simp only [go_sem,reduceIte,reduceEqDiff,reduceAdd,reduceMul,reduceSub,reduceLeDiff,reduceLT,Nat.reduceBEq,reduceCtorEq,g0,g1,g7,g8,hfl,hE,Nat.lt_irrefl]
   done
/-! ### The lines of a text -/
theorem lines_run {lo y c:Nat} {s:Wd} {H:Heap} (hs:s.length+1≤maxRows) (hlo:lo≤c) (J:Nat→Heap→Prop) (E:Heap→Prop) (hJ0:J 0 H) (h0:H.get c=.cells [.str s] 9)
 (hJs:∀ k H w,J k H→J k (H.set c (.cells [.str w] 9)))
 (hy:∀ k l H,(partS s)[k]? = some l→J k H→H.get c=.cells [.str (remS s (k+1))] 9 → ∃ v H',R WP (.yield lo y [.str (l++[10])] H)=some (.ofVal (.bool v) H')∧(if v then J (k+1) H'∧H'.get c=.cells [.str (remS s (k+1))] 9 else E H'))
 (hl:lastW (splitL 10 s) ≠ [] → ∀ H,J (partS s).length H → ∃ H',R WP (.yield lo y [.str (lastW (splitL 10 s))] H)=some (.ofVal (.bool false) H')∧E H') :
 ∃ v H',R WP (.call lo 212 [.yld y,.ptr c 0] H)=some (.ofVal v H')∧((J (partS s).length H'∧lastW (splitL 10 s)=[])∨E H'):=by
 refine R_of_body (C:=WP) (f:=212) (lo:=lo) (args:=[.yld y,.ptr c 0]) (H:=H) (fn:=Tryz.f212) (Q:=fun _ H'=>(J (partS s).length H'∧lastW (splitL 10 s)=[])∨E H') (by kernel_rfl) Tryz.func212 rfl rfl ?_
 have hlo':=eq_true hlo
 simp only [go_sem,reduceIte,reduceEqDiff,reduceAdd,reduceMul,reduceSub,reduceLeDiff,reduceLT,Nat.reduceBEq,reduceCtorEq]
 refine W_for (fun k T H' M=>M=[]∧getT T 0=.yld y∧getT T 1=.ptr c 0∧J k H'∧H'.get c=.cells [.str (remS s k)] 9) (partS s).length ?_ ?_ ?_
 · simp only [go_sem,reduceIte,reduceEqDiff,reduceAdd,reduceMul,reduceSub,reduceLeDiff,reduceLT,Nat.reduceBEq,reduceCtorEq,h0]
   first | exact ⟨hJ0,by rw [remS_zero]⟩ | (rw [remS_zero];exact hJ0)
 · rintro k T H' M hk ⟨rfl,g0,g1,hJ,hc⟩
   obtain ⟨l,hp⟩:∃ l,(partS s)[k]? = some l:=⟨_,List.getElem?_eq_getElem hk⟩
   have hrem:=remS_succ hp
   have hno:10 ∉ l:=split_no (part_mem hp)
   have hix:onPure p213 [.str (remS s k),.int .u8 10]=some (.int .i64 (l.length:Int)):=onPure_eq (by rw [e213,hrem,idxL_app _ hno]) rfl rfl
   have hlen:(remS s k).length=l.length+1+(remS s (k+1)).length:=by rw [hrem];simp;omega
   have hle:=remS_len s k
   have z0:((0:Int) < ((remS s k).length:Int))=True:=by simp only [eq_iff_iff,iff_true];omega
   have z1:((l.length:Int) < 0)=False:=by simp only [eq_iff_iff,iff_false];omega
   have hw:wrapq .i64 (Int.add (l.length:Int) 1)=((l.length+1:Nat):Int):=wrap_nat (n:=l.length+1) (by unfold maxRows at hs;omega)
   have s1:=asl_hi (s:=remS s k) (i:=l.length+1) (by omega)
   have s2:=asl_lo (s:=remS s k) (i:=l.length+1) (by omega)
   have u1:(remS s k).take (l.length+1)=l++[10]:=by
    rw [hrem]
    have:l++10::remS s (k+1)=(l++[10])++remS s (k+1):=by simp
    rw [this];exact List.take_left' (by simp)
   have u2:(remS s k).drop (l.length+1)=remS s (k+1):=by
    rw [hrem]
    have:l++10::remS s (k+1)=(l++[10])++remS s (k+1):=by simp
    rw [this];exact List.drop_left' (by simp)
   rw [u1] at s1
   rw [u2] at s2
   obtain ⟨v,H2,hr,hv⟩:=hy k l (H'.set c (.cells [.str (remS s (k+1))] 9)) hp (hJs k H' _ hJ) (by rw [Heap.get_set,if_pos rfl])
   cases v with
   | false =>
     simp only [go_sem,reduceIte,reduceEqDiff,reduceAdd,reduceMul,reduceSub,reduceLeDiff,reduceLT,Nat.reduceBEq,reduceCtorEq,g0,g1,hc,hix,z0,z1,hw,s1,s2,hr,hlo',kNone]
     exact .inr hv
   | true =>
     simp only [if_true] at hv
     simp only [go_sem,reduceIte,reduceEqDiff,reduceAdd,reduceMul,reduceSub,reduceLeDiff,reduceLT,Nat.reduceBEq,reduceCtorEq,g0,g1,hc,hix,z0,z1,hw,s1,s2,hr,hlo',kNone]
     exact hv
 · rintro T H' M ⟨rfl,g0,g1,hJ,hc⟩
   rw [remS_end] at hc
   cases hw:lastW (splitL 10 s) with
   | nil =>
     rw [hw] at hc
     have z0:((0:Int) < 0)=False:=by simp
     simp only [go_sem,reduceIte,reduceEqDiff,reduceAdd,reduceMul,reduceSub,reduceLeDiff,reduceLT,Nat.reduceBEq,reduceCtorEq,g0,g1,hc,z0]
     first | exact .inl hJ | exact .inl ⟨hJ,trivial⟩
   | cons a r =>
     rw [hw] at hc
     have hno:10 ∉ a::r:=by rw [← hw];exact split_no (last_mem s)
     have hix:onPure p213 [.str (a::r),.int .u8 10]=some (.int .i64 (-1)):=onPure_eq (by rw [e213,idxL_no hno]) rfl rfl
     have z0:((0:Int) < ((r.length+1:Nat):Int))=True:=by simp only [eq_iff_iff,iff_true];omega
     have z1:((-1:Int) < 0)=True:=by simp
     obtain ⟨H2,hr,hv⟩:=hl (by rw [hw];simp) (H'.set c (.cells [.str []] 9)) (hJs _ H' _ hJ)
     rw [hw] at hr
     simp only [go_sem,reduceIte,reduceEqDiff,reduceAdd,reduceMul,reduceSub,reduceLeDiff,reduceLT,Nat.reduceBEq,reduceCtorEq,g0,g1,hc,hix,z0,z1,hr,hlo',kNone]
     first | exact .inr hv | exact hv
theorem W_lines {fid:FuncId} {g:Operand} {params:Array Tmp} {pa:Tmp} (hpar:params.toList=[pa]) {assign body:Code} {T:TT AV} {H:Heap} {M:List Nat} {Q:AExit→TT AV→Heap→List Nat→Prop} {s:Wd} {c:Nat} (hs:s.length+1≤maxRows)
 (hg:evalO WP T g=some (.fn 212 [] [.ptr c 0])) (hc:c < H.n) (h0:H.get c=.cells [.str s] 9) (G:Nat→Heap→Prop) (F:AV→TT AV→Prop) (E:AExit→Heap→Prop)
 (hG0:∀ lp,G 0 ((H.push .defr).push (.loop lp))) (hGs:∀ k H' w,G k H'→G k (H'.set c (.cells [.str w] 9))) (hGl:∀ k H' b,(∀ cs sz e,b ≠ .row cs sz e)→G k H'→G k (H'.set (H.n+1) b))
 (hE:∀ e H' b,E e H'→E e (H'.set (H.n+1) b))
 (ha:∀ v H',W WP 0 fid true assign (setT T pa v) H' [] fun e T1 H1 M1=>e=.nrm∧H1=H'∧M1=[]∧F v T1)
 (round:∀ k l o Hk T1 lp,(o=true→(partS s)[k]? = some l∧Hk.get c=.cells [.str (remS s (k+1))] 9)→(o=false→k=(partS s).length∧l=lastW (splitL 10 s)∧l ≠ [])→G k Hk→Hk.get (H.n+1)=.loop lp→F (.str (if o then l++[10] else l)) T1 →
   W WP 0 fid true body T1 Hk [] fun e T3 H3 _=>H3.get (H.n+1)=.loop lp∧next e (o=true∧H3.get c=.cells [.str (remS s (k+1))] 9∧G (k+1) H3) (E e H3))
 (fin:lastW (splitL 10 s)=[] → ∀ H4,G (partS s).length H4→Q .nrm T H4 (H.n::M))
 (stop:∀ e H3,e ≠ .nrm→E e H3→Q e T H3 (H.n::M)) :
 W WP 0 fid false (.rangeFunc g params assign body) T H M Q:=by
 refine W_rangeFunc hg ?_
 let r0:ALoop:=⟨fid,T,params.toList,assign,body,.ready,none,H.n⟩
 let J:Nat→Heap→Prop:=fun k H'=>G k H'∧H'.get (H.n+1)=.loop r0
 let EE:Heap→Prop:=fun H'=>∃ e H3,e ≠ .nrm∧E e H3∧H'=H3.set (H.n+1) (.loop { r0 with state:=.done,pending:=some e })
 have nl:∀ lp cs sz e,ABlk.loop lp ≠ .row cs sz e:=fun lp cs sz e h=>by cases h
 have hyield:∀ k l o Hk,(o=true→(partS s)[k]? = some l∧Hk.get c=.cells [.str (remS s (k+1))] 9)→(o=false→k=(partS s).length∧l=lastW (splitL 10 s)∧l ≠ [])→J k Hk → ∃ v H',R WP (.yield 0 (H.n+1) [.str (if o then l++[10] else l)] Hk)=some (.ofVal (.bool v) H')∧(if v then o=true∧J (k+1) H'∧H'.get c=.cells [.str (remS s (k+1))] 9 else EE H'):=by
  rintro k l o Hk ho1 ho2 ⟨hG,h3⟩
  have hW:W WP 0 fid true assign (setParams params.toList [.str (if o then l++[10] else l)] T) Hk [] fun e T1 H1 M1=>e=.nrm∧H1.get (H.n+1)=.loop r0 ∧
   W WP 0 fid true body T1 (H1.set (H.n+1) (.loop { r0 with state:=.busy })) M1 fun e T2 H2 M2=>H2.get (H.n+1)=.loop { r0 with state:=.busy } ∧
     next e (if true then o=true∧J (k+1) (H2.set (H.n+1) (.loop { r0 with state:=.ready,pending:=none }))∧(H2.set (H.n+1) (.loop { r0 with state:=.ready,pending:=none })).get c=.cells [.str (remS s (k+1))] 9 else EE (H2.set (H.n+1) (.loop { r0 with state:=.ready,pending:=none })))
      (if false=true then o=true∧J (k+1) (H2.set (H.n+1) (.loop { r0 with state:=.done,pending:=some e }))∧(H2.set (H.n+1) (.loop { r0 with state:=.done,pending:=some e })).get c=.cells [.str (remS s (k+1))] 9 else EE (H2.set (H.n+1) (.loop { r0 with state:=.done,pending:=some e }))):=by
   rw [hpar]
   refine W_mono (ha _ Hk) ?_
   rintro e T1 H1 M1 ⟨he,rfl,rfl,hF⟩
   refine ⟨he,h3, ?_⟩
   have hrd:=round k l o (H1.set (H.n+1) (.loop { r0 with state:=.busy })) T1 { r0 with state:=.busy } (fun h=>⟨(ho1 h).1,by rw [Heap.get_set,if_neg (by omega)];exact (ho1 h).2⟩) ho2 (hGl k H1 _ (nl _) hG) (by rw [Heap.get_set,if_pos rfl]) hF
   refine W_mono hrd ?_
   rintro e T3 H3 M3 ⟨q1,q2⟩
   refine ⟨q1, ?_⟩
   cases e with
   | nrm=>exact ⟨q2.1,⟨hGl _ _ _ (nl _) q2.2.2,by rw [Heap.get_set,if_pos rfl]⟩,by rw [Heap.get_set,if_neg (by omega)];exact q2.2.1⟩
   | ext i=>exact ⟨_,_,by simp,q2,rfl⟩
   | gto i=>exact ⟨_,_,by simp,q2,rfl⟩
   | ret=>exact ⟨_,_,by simp,q2,rfl⟩
  obtain ⟨v,H',e1,e2⟩:=R_yield (C:=WP) (r0:=r0) h3 rfl (by show params.toList.length=1;rw [hpar];rfl) (Nat.zero_le _:0≤H.n+1) (Y:=fun v H'=>if v then o=true∧J (k+1) H'∧H'.get c=.cells [.str (remS s (k+1))] 9 else EE H') hW
  exact ⟨v,H',e1,e2⟩
 have hrun:∃ v H',R WP (.call 0 212 [.yld (H.n+1),.ptr c 0] ((H.push .defr).push (.loop r0)))=some (.ofVal v H')∧((J (partS s).length H'∧lastW (splitL 10 s)=[])∨EE H'):=by
  refine lines_run (lo:=0) (y:=H.n+1) (c:=c) (s:=s) (H:=(H.push .defr).push (.loop r0)) hs (Nat.zero_le _) J EE ⟨hG0 r0, ?_⟩ ?_ ?_ ?_ ?_
  · rw [Heap.get_push,if_pos (by simp)]
  · rw [Heap.get_push,if_neg (by simp;omega),Heap.get_push,if_neg (by omega)];exact h0
  · rintro k H' w ⟨h1,h2⟩
    exact ⟨hGs k H' w h1,by rw [Heap.get_set,if_neg (by omega)];exact h2⟩
  · intro k l H' hp hJ hc'
    obtain ⟨v,H2,e1,e2⟩:=hyield k l true H' (fun _=>⟨hp,hc'⟩) (fun h=>by cases h) hJ
    refine ⟨v,H2,e1, ?_⟩
    cases v with
    | true=>exact e2.2
    | false=>exact e2
  · intro hne H' hJ
    obtain ⟨v,H2,e1,e2⟩:=hyield (partS s).length (lastW (splitL 10 s)) false H' (fun h=>by cases h) (fun _=>⟨rfl,rfl,hne⟩) hJ
    cases v with
    | true=>exact absurd e2.1 (by simp)
    | false=>exact ⟨H2,e1,e2⟩
 obtain ⟨v,H',hr,hJ⟩:=hrun
 refine ⟨v,H',hr, ?_⟩
 rcases hJ with ⟨⟨h1,h2⟩,h3⟩ | ⟨e,H3,he,h1,rfl⟩
 · refine ⟨r0,h2,by simp [r0], ?_⟩
   exact fin h3 _ (hGl _ _ _ (fun _ _ _ h=>by cases h) h1)
 · refine ⟨_,by rw [Heap.get_set,if_pos rfl],by simp, ?_⟩
   have:(H3.set (H.n+1) (.loop { r0 with state:=.done,pending:=some e })).set (H.n+1) .dead=(H3.set (H.n+1) (.loop { r0 with state:=.done,pending:=some e })).set (H.n+1) .dead:=rfl
   exact stop e _ he (hE _ _ _ (hE _ _ _ h1))
end Go.Sim

/-
Texts: the readers of a line, by the program: the walks. (printed by mkWS.py)
-/
namespace Go.Sim
open Go Go.Proofs
set_option maxRecDepth 100000
set_option maxHeartbeats 16000000
theorem PS.step {nb tb pb:Nat} {n:Net} {x x':Tk} {t':Tok} {H0 H:Heap} {b:ABlk} {cs0:List AV} {e0:TypeId} (S:PS nb tb n x H0 H) (hb:H.get pb=.cells cs0 e0) (h0:H0.n≤pb) (h1:nb ≠ pb) (h2:tb ≠ pb) (hne:nb ≠ tb) (ht:TkT t' x'):PS nb tb n x' H0 ((H.set tb (.cells (TkC t' x') 291)).set pb b) :=
 (S.take hne ht).setv h0 h1 h2 (by rw [Heap.get_set,if_neg (Ne.symm h2)];exact hb)
theorem f218 {x:Tk} (h:∀ w ∈ x.ws,w.length≤maxRows):F218 [] x=some (.int .i64 x.num.1,wordT x,x.num.2):=by
 unfold F218
 rw [if_pos (by rw [List.all_eq_true];intro w hm;simpa using h w hm)]
theorem kWd {x:Tk} (h:∀ w ∈ x.ws,w.length≤maxRows):∀ w ∈ x.word.2.ws,w.length≤maxRows:=fun w hm=>h w (word_sub x w hm)
theorem r220 {nb tb:Nat} {n:Net} {x:Tk} {H:Heap} (hne:nb ≠ tb) (htb:tb < H.n) (hr:n.sws.length+1≤maxRows) (hw0:∀ w ∈ x.ws,w.length≤maxRows) (S:PS nb tb n x H H) :
 ∃ v H1,R WP (.call 0 220 [.ptr nb 0,.ptr tb 0] H)=some (.ofVal v H1)∧PS nb tb (readT n x 2).1 (readT n x 2).2 H H1:=by
 refine R_of_body (C:=WP) (f:=220) (lo:=0) (args:=[.ptr nb 0,.ptr tb 0]) (H:=H) (fn:=Tryz.f220) (Q:=fun _ H1=>PS nb tb (readT n x 2).1 (readT n x 2).2 H H1) (by kernel_rfl) Tryz.func220 rfl rfl ?_
 have hnb:nb < H.n:=by
  obtain ⟨_,_,_,_,N⟩:=S.ex
  exact N.nbn
 have p1:(H.n=tb)=False:=by simp only [eq_iff_iff,iff_false];omega
 have p2:(tb=H.n)=False:=by simp only [eq_iff_iff,iff_false];omega
 have p3:(H.n=nb)=False:=by simp only [eq_iff_iff,iff_false];omega
 have p4:(nb=H.n)=False:=by simp only [eq_iff_iff,iff_false];omega
 obtain ⟨t0,ht0,hg0⟩:=S.tk
 have e0:=hTk_eq (F:=F167) (lo:=0) (rest:=[]) (v:=.str x.word.1) (t':=wordT x) (x':=x.word.2) hg0 ht0 (Nat.zero_le _) (by omega) rfl
 refine W_cutB (fun T H' M=>M=[]∧getT T 0=.ptr nb 0∧getT T 1=.ptr tb 0∧getT T 4=.ptr H.n 0∧H'.get H.n=.cells [.str x.word.1,.str [],.int .i64 0,.str [],.bool false] 201∧H.n < H'.n∧PS nb tb n x.word.2 H H') ?_ ?_
 · simp only [go_sem,reduceIte,reduceEqDiff,reduceAdd,reduceMul,reduceSub,reduceLeDiff,reduceLT,Nat.reduceBEq,reduceCtorEq,e0,p1,p2]
   exact S.box htb _ _ rfl hne (wordT_ok x)
 skip
 rintro T H1 M ⟨rfl,g0,g1,g4,hb1,hn1,S1⟩
 have hw1:=kWd hw0
 obtain ⟨t1,ht1,hg1⟩:=S1.tk
 have e1:=hTk_eq (F:=F167) (lo:=0) (rest:=[]) (v:=.str x.word.2.word.1) (t':=wordT x.word.2) (x':=x.word.2.word.2) hg1 ht1 (Nat.zero_le _) (by omega) rfl
 refine W_cutB (fun T H' M=>M=[]∧getT T 0=.ptr nb 0∧getT T 1=.ptr tb 0∧getT T 4=.ptr H.n 0∧H'.get H.n=.cells [.str x.word.1,.str x.word.2.word.1,.int .i64 0,.str [],.bool false] 201∧H.n < H'.n∧PS nb tb n x.word.2.word.2 H H') ?_ ?_
 · have q:=eq_true hn1
   simp only [go_sem,reduceIte,reduceEqDiff,reduceAdd,reduceMul,reduceSub,reduceLeDiff,reduceLT,Nat.reduceBEq,reduceCtorEq,g0,g1,g4,e1,hb1,p1,p2,q]
   exact S1.step hb1 (Nat.le_refl _) (by omega) (by omega) hne (wordT_ok x.word.2)
 clear g0 g1 g4
 rintro T H2 M ⟨rfl,g0,g1,g4,hb2,hn2,S2⟩
 have hw2:=kWd hw1
 obtain ⟨t2,ht2,hg2⟩:=S2.tk
 have e2:=hTk_eq (F:=F218) (lo:=0) (rest:=[]) (v:=.int .i64 x.word.2.word.2.num.1) (t':=wordT x.word.2.word.2) (x':=x.word.2.word.2.num.2) hg2 ht2 (Nat.zero_le _) (by omega) (f218 hw2)
 refine W_cutB (fun T H' M=>M=[]∧getT T 0=.ptr nb 0∧getT T 1=.ptr tb 0∧getT T 4=.ptr H.n 0∧H'.get H.n=.cells [.str x.word.1,.str x.word.2.word.1,.int .i64 x.word.2.word.2.num.1,.str [],.bool false] 201∧H.n < H'.n∧PS nb tb n x.word.2.word.2.num.2 H H') ?_ ?_
 · have q:=eq_true hn2
   simp only [go_sem,reduceIte,reduceEqDiff,reduceAdd,reduceMul,reduceSub,reduceLeDiff,reduceLT,Nat.reduceBEq,reduceCtorEq,g0,g1,g4,e2,hb2,p1,p2,q]
   exact S2.step hb2 (Nat.le_refl _) (by omega) (by omega) hne (wordT_ok x.word.2.word.2)
 clear g0 g1 g4
 rintro T H3 M ⟨rfl,g0,g1,g4,hb3,hn3,S3⟩
 have hw3:=kWd hw2
 obtain ⟨t3,ht3,hg3⟩:=S3.tk
 have e3:=hTk_eq (F:=F167) (lo:=0) (rest:=[]) (v:=.str x.word.2.word.2.num.2.word.1) (t':=wordT x.word.2.word.2.num.2) (x':=x.word.2.word.2.num.2.word.2) hg3 ht3 (Nat.zero_le _) (by omega) rfl
 refine W_cutB (fun T H' M=>M=[]∧getT T 0=.ptr nb 0∧getT T 1=.ptr tb 0∧getT T 4=.ptr H.n 0∧H'.get H.n=.cells [.str x.word.1,.str x.word.2.word.1,.int .i64 x.word.2.word.2.num.1,.str x.word.2.word.2.num.2.word.1,.bool false] 201∧H.n < H'.n∧PS nb tb n x.word.2.word.2.num.2.word.2 H H') ?_ ?_
 · have q:=eq_true hn3
   simp only [go_sem,reduceIte,reduceEqDiff,reduceAdd,reduceMul,reduceSub,reduceLeDiff,reduceLT,Nat.reduceBEq,reduceCtorEq,g0,g1,g4,e3,hb3,p1,p2,q]
   exact S3.step hb3 (Nat.le_refl _) (by omega) (by omega) hne (wordT_ok x.word.2.word.2.num.2)
 clear g0 g1 g4
 rintro T H4 M ⟨rfl,g0,g1,g4,hb4,hn4,S4⟩
 have hw4:=kWd hw3
 obtain ⟨t4,ht4,hg4⟩:=S4.tk
 have e4:=hTk_eq (F:=F219) (lo:=0) (rest:=[.agg [.str sFirst,.str sLast]]) (v:=.bool (x.word.2.word.2.num.2.word.2.one sFirst sLast).1) (t':=wordT x.word.2.word.2.num.2.word.2) (x':=(x.word.2.word.2.num.2.word.2.one sFirst sLast).2) hg4 ht4 (Nat.zero_le _) (by omega) rfl
 refine W_cutB (fun T H' M=>M=[]∧getT T 0=.ptr nb 0∧getT T 1=.ptr tb 0∧getT T 4=.ptr H.n 0∧H'.get H.n=.cells [.str x.word.1,.str x.word.2.word.1,.int .i64 x.word.2.word.2.num.1,.str x.word.2.word.2.num.2.word.1,.bool (x.word.2.word.2.num.2.word.2.one sFirst sLast).1] 201∧H.n < H'.n∧PS nb tb n (x.word.2.word.2.num.2.word.2.one sFirst sLast).2 H H') ?_ ?_
 · have q:=eq_true hn4
   simp only [go_sem,reduceIte,reduceEqDiff,reduceAdd,reduceMul,reduceSub,reduceLeDiff,reduceLT,Nat.reduceBEq,reduceCtorEq,g0,g1,g4,e4,hb4,p1,p2,q,wglob0,wglob1]
   exact S4.step hb4 (Nat.le_refl _) (by omega) (by omega) hne (wordT_ok x.word.2.word.2.num.2.word.2)
 clear g0 g1 g4
 rintro T H5 M ⟨rfl,g0,g1,g4,hb5,hn5,S5⟩
 have hw5:=kWd hw4
 obtain ⟨lv,L,t2,t3,N⟩:=S5.ex
 obtain ⟨t,ht,hg⟩:=S5.tk
 have hbp:=N.bp
 have e1:readT n x 2=(n.addSwitch ⟨x.word.1,x.word.2.word.1,x.word.2.word.2.num.1,x.word.2.word.2.num.2.word.1,(x.word.2.word.2.num.2.word.2.one sFirst sLast).1⟩,(x.word.2.word.2.num.2.word.2.one sFirst sLast).2):=rfl
 rw [e1]
 obtain ⟨t',HB,ha,hE,hnB,_,hcB⟩:=appE (lo:=0) (rx:=[[AV.str x.word.1,AV.str x.word.2.word.1,AV.int .i64 x.word.2.word.2.num.1,AV.str x.word.2.word.2.num.2.word.1,AV.bool (x.word.2.word.2.num.2.word.2.one sFirst sLast).1]]) N.a2 (Nat.zero_le _) (Nat.zero_le _) (by simpa using hr) rfl rfl (by decide) (sw_all _)
 have hp1:HB.get nb=.cells [lv,.ps t2 (n.sws.map Sw.row),.ps t3 (n.sts.map Stc.row)] 40:=by rw [hcB nb N.nbn (by rw [hbp];intro h;cases h),hbp]
 have hrw:n.sws.map Sw.row++[[AV.str x.word.1,AV.str x.word.2.word.1,AV.int .i64 x.word.2.word.2.num.1,AV.str x.word.2.word.2.num.2.word.1,AV.bool (x.word.2.word.2.num.2.word.2.one sFirst sLast).1]]=(n.addSwitch ⟨x.word.1,x.word.2.word.1,x.word.2.word.2.num.1,x.word.2.word.2.num.2.word.1,(x.word.2.word.2.num.2.word.2.one sFirst sLast).1⟩).sws.map Sw.row:=by
  show _=(n.sws++[_]).map Sw.row
  rw [List.map_append];rfl
 rw [hrw] at ha hE
 have hSn:=S5.n
 have hNb:=N.nbn
 have fin:PS nb tb (n.addSwitch ⟨x.word.1,x.word.2.word.1,x.word.2.word.2.num.1,x.word.2.word.2.num.2.word.1,(x.word.2.word.2.num.2.word.2.one sFirst sLast).1⟩) (x.word.2.word.2.num.2.word.2.one sFirst sLast).2 H (HB.set nb (.cells [lv,.ps t' ((n.addSwitch ⟨x.word.1,x.word.2.word.1,x.word.2.word.2.num.1,x.word.2.word.2.num.2.word.1,(x.word.2.word.2.num.2.word.2.one sFirst sLast).1⟩).sws.map Sw.row),.ps t3 (n.sts.map Stc.row)] 40)):=by
  refine ⟨⟨lv,L,t',t3,⟨by rw [Heap.get_set,if_pos rfl];rfl,by simp;omega,N.lv.keep (by simp;omega) fun i cs hi _ hc => ?_,N.ls,fun t l hl=>(N.last t l hl).keep (by simp;omega) fun i hi _ hc => ?_,hE.keep (by simp) fun i hi _ hc => ?_,N.a3.keep (by simp;omega) fun i hi _ hc => ?_⟩⟩,⟨t,ht,by rw [Heap.get_set,if_neg (Ne.symm hne),hcB tb (by omega) (by rw [hg];intro h;cases h)];exact hg⟩,by simp;omega,fun j hj h1 h2 h3 => ?_⟩
  · rw [Heap.get_set,if_neg (fun he=>by rw [he,hbp] at hc;cases hc),hcB i hi (by rw [hc];intro h;cases h)]
  · rw [Heap.get_set,if_neg (fun he=>by rw [he,hbp] at hc;cases hc),hcB i hi (by rw [hc];intro h;cases h)]
  · rw [Heap.get_set,if_neg (fun he=>by rw [he,hp1] at hc;cases hc)]
  · rw [Heap.get_set,if_neg (fun he=>by rw [he,hbp] at hc;cases hc),hcB i hi (by rw [hc];intro h;cases h)]
  · rw [Heap.get_set,if_neg h1,hcB j (by omega) (by rw [S5.fr j hj h1 h2 h3];exact h3 _ _ _),S5.fr j hj h1 h2 h3]
 generalize (n.addSwitch ⟨x.word.1,x.word.2.word.1,x.word.2.word.2.num.1,x.word.2.word.2.num.2.word.1,(x.word.2.word.2.num.2.word.2.one sFirst sLast).1⟩).sws.map Sw.row=R2 at ha fin
 have htk:t2=.nil∨t2=.exact ∨ ∃ j,t2=.tok j:=by
  rcases N.a2 with ⟨_,h | h⟩ | ⟨j,h,_⟩
  · exact .inl h
  · exact .inr (.inl h)
  · exact .inr (.inr ⟨j,h⟩)
 rcases htk with rfl | rfl | ⟨j,rfl⟩
 all_goals
  simp only [go_sem,reduceIte,reduceEqDiff,reduceAdd,reduceMul,reduceSub,reduceLeDiff,reduceLT,Nat.reduceBEq,reduceCtorEq,g0,g1,g4,hbp,hb5,appO,ha,hp1,p1,p2,p3,p4]
  exact fin
theorem r221 {nb tb:Nat} {n:Net} {x:Tk} {H:Heap} (hne:nb ≠ tb) (htb:tb < H.n) (hr:n.sts.length+1≤maxRows) (hw0:∀ w ∈ x.ws,w.length≤maxRows) (S:PS nb tb n x H H) :
 ∃ v H1,R WP (.call 0 221 [.ptr nb 0,.ptr tb 0] H)=some (.ofVal v H1)∧PS nb tb (readT n x 3).1 (readT n x 3).2 H H1:=by
 refine R_of_body (C:=WP) (f:=221) (lo:=0) (args:=[.ptr nb 0,.ptr tb 0]) (H:=H) (fn:=Tryz.f221) (Q:=fun _ H1=>PS nb tb (readT n x 3).1 (readT n x 3).2 H H1) (by kernel_rfl) Tryz.func221 rfl rfl ?_
 have hnb:nb < H.n:=by
  obtain ⟨_,_,_,_,N⟩:=S.ex
  exact N.nbn
 have p1:(H.n=tb)=False:=by simp only [eq_iff_iff,iff_false];omega
 have p2:(tb=H.n)=False:=by simp only [eq_iff_iff,iff_false];omega
 have p3:(H.n=nb)=False:=by simp only [eq_iff_iff,iff_false];omega
 have p4:(nb=H.n)=False:=by simp only [eq_iff_iff,iff_false];omega
 obtain ⟨t0,ht0,hg0⟩:=S.tk
 have e0:=hTk_eq (F:=F167) (lo:=0) (rest:=[]) (v:=.str x.word.1) (t':=wordT x) (x':=x.word.2) hg0 ht0 (Nat.zero_le _) (by omega) rfl
 refine W_cutB (fun T H' M=>M=[]∧getT T 0=.ptr nb 0∧getT T 1=.ptr tb 0∧getT T 4=.ptr H.n 0∧H'.get H.n=.cells [.str x.word.1,.str [],.str [],.int .i64 0,.int .i64 0] 202∧H.n < H'.n∧PS nb tb n x.word.2 H H') ?_ ?_
 · simp only [go_sem,reduceIte,reduceEqDiff,reduceAdd,reduceMul,reduceSub,reduceLeDiff,reduceLT,Nat.reduceBEq,reduceCtorEq,e0,p1,p2]
   exact S.box htb _ _ rfl hne (wordT_ok x)
 skip
 rintro T H1 M ⟨rfl,g0,g1,g4,hb1,hn1,S1⟩
 have hw1:=kWd hw0
 obtain ⟨t1,ht1,hg1⟩:=S1.tk
 have e1:=hTk_eq (F:=F167) (lo:=0) (rest:=[]) (v:=.str x.word.2.word.1) (t':=wordT x.word.2) (x':=x.word.2.word.2) hg1 ht1 (Nat.zero_le _) (by omega) rfl
 refine W_cutB (fun T H' M=>M=[]∧getT T 0=.ptr nb 0∧getT T 1=.ptr tb 0∧getT T 4=.ptr H.n 0∧H'.get H.n=.cells [.str x.word.1,.str x.word.2.word.1,.str [],.int .i64 0,.int .i64 0] 202∧H.n < H'.n∧PS nb tb n x.word.2.word.2 H H') ?_ ?_
 · have q:=eq_true hn1
   simp only [go_sem,reduceIte,reduceEqDiff,reduceAdd,reduceMul,reduceSub,reduceLeDiff,reduceLT,Nat.reduceBEq,reduceCtorEq,g0,g1,g4,e1,hb1,p1,p2,q]
   exact S1.step hb1 (Nat.le_refl _) (by omega) (by omega) hne (wordT_ok x.word.2)
 clear g0 g1 g4
 rintro T H2 M ⟨rfl,g0,g1,g4,hb2,hn2,S2⟩
 have hw2:=kWd hw1
 obtain ⟨t2,ht2,hg2⟩:=S2.tk
 have e2:=hTk_eq (F:=F167) (lo:=0) (rest:=[]) (v:=.str x.word.2.word.2.word.1) (t':=wordT x.word.2.word.2) (x':=x.word.2.word.2.word.2) hg2 ht2 (Nat.zero_le _) (by omega) rfl
 refine W_cutB (fun T H' M=>M=[]∧getT T 0=.ptr nb 0∧getT T 1=.ptr tb 0∧getT T 4=.ptr H.n 0∧H'.get H.n=.cells [.str x.word.1,.str x.word.2.word.1,.str x.word.2.word.2.word.1,.int .i64 0,.int .i64 0] 202∧H.n < H'.n∧PS nb tb n x.word.2.word.2.word.2 H H') ?_ ?_
 · have q:=eq_true hn2
   simp only [go_sem,reduceIte,reduceEqDiff,reduceAdd,reduceMul,reduceSub,reduceLeDiff,reduceLT,Nat.reduceBEq,reduceCtorEq,g0,g1,g4,e2,hb2,p1,p2,q]
   exact S2.step hb2 (Nat.le_refl _) (by omega) (by omega) hne (wordT_ok x.word.2.word.2)
 clear g0 g1 g4
 rintro T H3 M ⟨rfl,g0,g1,g4,hb3,hn3,S3⟩
 have hw3:=kWd hw2
 obtain ⟨t3,ht3,hg3⟩:=S3.tk
 have e3:=hTk_eq (F:=F218) (lo:=0) (rest:=[]) (v:=.int .i64 x.word.2.word.2.word.2.num.1) (t':=wordT x.word.2.word.2.word.2) (x':=x.word.2.word.2.word.2.num.2) hg3 ht3 (Nat.zero_le _) (by omega) (f218 hw3)
 refine W_cutB (fun T H' M=>M=[]∧getT T 0=.ptr nb 0∧getT T 1=.ptr tb 0∧getT T 4=.ptr H.n 0∧H'.get H.n=.cells [.str x.word.1,.str x.word.2.word.1,.str x.word.2.word.2.word.1,.int .i64 x.word.2.word.2.word.2.num.1,.int .i64 0] 202∧H.n < H'.n∧PS nb tb n x.word.2.word.2.word.2.num.2 H H') ?_ ?_
 · have q:=eq_true hn3
   simp only [go_sem,reduceIte,reduceEqDiff,reduceAdd,reduceMul,reduceSub,reduceLeDiff,reduceLT,Nat.reduceBEq,reduceCtorEq,g0,g1,g4,e3,hb3,p1,p2,q]
   exact S3.step hb3 (Nat.le_refl _) (by omega) (by omega) hne (wordT_ok x.word.2.word.2.word.2)
 clear g0 g1 g4
 rintro T H4 M ⟨rfl,g0,g1,g4,hb4,hn4,S4⟩
 have hw4:=kWd hw3
 obtain ⟨t4,ht4,hg4⟩:=S4.tk
 have e4:=hTk_eq (F:=F218) (lo:=0) (rest:=[]) (v:=.int .i64 x.word.2.word.2.word.2.num.2.num.1) (t':=wordT x.word.2.word.2.word.2.num.2) (x':=x.word.2.word.2.word.2.num.2.num.2) hg4 ht4 (Nat.zero_le _) (by omega) (f218 hw4)
 refine W_cutB (fun T H' M=>M=[]∧getT T 0=.ptr nb 0∧getT T 1=.ptr tb 0∧getT T 4=.ptr H.n 0∧H'.get H.n=.cells [.str x.word.1,.str x.word.2.word.1,.str x.word.2.word.2.word.1,.int .i64 x.word.2.word.2.word.2.num.1,.int .i64 x.word.2.word.2.word.2.num.2.num.1] 202∧H.n < H'.n∧PS nb tb n x.word.2.word.2.word.2.num.2.num.2 H H') ?_ ?_
 · have q:=eq_true hn4
   simp only [go_sem,reduceIte,reduceEqDiff,reduceAdd,reduceMul,reduceSub,reduceLeDiff,reduceLT,Nat.reduceBEq,reduceCtorEq,g0,g1,g4,e4,hb4,p1,p2,q]
   exact S4.step hb4 (Nat.le_refl _) (by omega) (by omega) hne (wordT_ok x.word.2.word.2.word.2.num.2)
 clear g0 g1 g4
 rintro T H5 M ⟨rfl,g0,g1,g4,hb5,hn5,S5⟩
 have hw5:=kWd hw4
 obtain ⟨lv,L,t2,t3,N⟩:=S5.ex
 obtain ⟨t,ht,hg⟩:=S5.tk
 have hbp:=N.bp
 have e1:readT n x 3=(n.addStruct ⟨x.word.1,x.word.2.word.1,x.word.2.word.2.word.1,x.word.2.word.2.word.2.num.1,x.word.2.word.2.word.2.num.2.num.1⟩,x.word.2.word.2.word.2.num.2.num.2):=rfl
 rw [e1]
 obtain ⟨t',HB,ha,hE,hnB,_,hcB⟩:=appE (lo:=0) (rx:=[[AV.str x.word.1,AV.str x.word.2.word.1,AV.str x.word.2.word.2.word.1,AV.int .i64 x.word.2.word.2.word.2.num.1,AV.int .i64 x.word.2.word.2.word.2.num.2.num.1]]) N.a3 (Nat.zero_le _) (Nat.zero_le _) (by simpa using hr) rfl rfl (by decide) (stc_all _)
 have hp1:HB.get nb=.cells [lv,.ps t2 (n.sws.map Sw.row),.ps t3 (n.sts.map Stc.row)] 40:=by rw [hcB nb N.nbn (by rw [hbp];intro h;cases h),hbp]
 have hrw:n.sts.map Stc.row++[[AV.str x.word.1,AV.str x.word.2.word.1,AV.str x.word.2.word.2.word.1,AV.int .i64 x.word.2.word.2.word.2.num.1,AV.int .i64 x.word.2.word.2.word.2.num.2.num.1]]=(n.addStruct ⟨x.word.1,x.word.2.word.1,x.word.2.word.2.word.1,x.word.2.word.2.word.2.num.1,x.word.2.word.2.word.2.num.2.num.1⟩).sts.map Stc.row:=by
  show _=(n.sts++[_]).map Stc.row
  rw [List.map_append];rfl
 rw [hrw] at ha hE
 have hSn:=S5.n
 have hNb:=N.nbn
 have fin:PS nb tb (n.addStruct ⟨x.word.1,x.word.2.word.1,x.word.2.word.2.word.1,x.word.2.word.2.word.2.num.1,x.word.2.word.2.word.2.num.2.num.1⟩) x.word.2.word.2.word.2.num.2.num.2 H (HB.set nb (.cells [lv,.ps t2 (n.sws.map Sw.row),.ps t' ((n.addStruct ⟨x.word.1,x.word.2.word.1,x.word.2.word.2.word.1,x.word.2.word.2.word.2.num.1,x.word.2.word.2.word.2.num.2.num.1⟩).sts.map Stc.row)] 40)):=by
  refine ⟨⟨lv,L,t2,t',⟨by rw [Heap.get_set,if_pos rfl];rfl,by simp;omega,N.lv.keep (by simp;omega) fun i cs hi _ hc => ?_,N.ls,fun t l hl=>(N.last t l hl).keep (by simp;omega) fun i hi _ hc => ?_,N.a2.keep (by simp;omega) fun i hi _ hc => ?_,hE.keep (by simp) fun i hi _ hc => ?_⟩⟩,⟨t,ht,by rw [Heap.get_set,if_neg (Ne.symm hne),hcB tb (by omega) (by rw [hg];intro h;cases h)];exact hg⟩,by simp;omega,fun j hj h1 h2 h3 => ?_⟩
  · rw [Heap.get_set,if_neg (fun he=>by rw [he,hbp] at hc;cases hc),hcB i hi (by rw [hc];intro h;cases h)]
  · rw [Heap.get_set,if_neg (fun he=>by rw [he,hbp] at hc;cases hc),hcB i hi (by rw [hc];intro h;cases h)]
  · rw [Heap.get_set,if_neg (fun he=>by rw [he,hbp] at hc;cases hc),hcB i hi (by rw [hc];intro h;cases h)]
  · rw [Heap.get_set,if_neg (fun he=>by rw [he,hp1] at hc;cases hc)]
  · rw [Heap.get_set,if_neg h1,hcB j (by omega) (by rw [S5.fr j hj h1 h2 h3];exact h3 _ _ _),S5.fr j hj h1 h2 h3]
 generalize (n.addStruct ⟨x.word.1,x.word.2.word.1,x.word.2.word.2.word.1,x.word.2.word.2.word.2.num.1,x.word.2.word.2.word.2.num.2.num.1⟩).sts.map Stc.row=R2 at ha fin
 have htk:t3=.nil∨t3=.exact ∨ ∃ j,t3=.tok j:=by
  rcases N.a3 with ⟨_,h | h⟩ | ⟨j,h,_⟩
  · exact .inl h
  · exact .inr (.inl h)
  · exact .inr (.inr ⟨j,h⟩)
 rcases htk with rfl | rfl | ⟨j,rfl⟩
 all_goals
  simp only [go_sem,reduceIte,reduceEqDiff,reduceAdd,reduceMul,reduceSub,reduceLeDiff,reduceLT,Nat.reduceBEq,reduceCtorEq,g0,g1,g4,hbp,hb5,appO,ha,hp1,p1,p2,p3,p4]
  exact fin
end Go.Sim

/-
Texts: a piece, read by the program: the walk.
-/
namespace Go.Sim
open Go Go.Proofs
set_option maxRecDepth 100000
set_option maxHeartbeats 16000000
theorem r217 {nb tb:Nat} {n:Net} {x:Tk} {H:Heap} (hne:nb ≠ tb) (htb:tb < H.n) (hll:n.lines.length≤maxRows) (hr:∀ l ∈ n.lines,l.ps.length+1≤maxRows) (hw0:∀ w ∈ x.ws,w.length≤maxRows) (S:PS nb tb n x H H) :
 ∃ v H1,R WP (.call 0 217 [.ptr nb 0,.ptr tb 0] H)=some (.ofVal v H1)∧PS nb tb (readT n x 1).1 (readT n x 1).2 H H1:=by
 refine R_of_body (C:=WP) (f:=217) (lo:=0) (args:=[.ptr nb 0,.ptr tb 0]) (H:=H) (fn:=Tryz.f217) (Q:=fun _ H1=>PS nb tb (readT n x 1).1 (readT n x 1).2 H H1) (by kernel_rfl) Tryz.func217 rfl rfl ?_
 have hnb:nb < H.n:=by
  obtain ⟨_,_,_,_,N⟩:=S.ex
  exact N.nbn
 have p1:(H.n=tb)=False:=by simp only [eq_iff_iff,iff_false];omega
 have p2:(tb=H.n)=False:=by simp only [eq_iff_iff,iff_false];omega
 have p3:(H.n=nb)=False:=by simp only [eq_iff_iff,iff_false];omega
 have p4:(nb=H.n)=False:=by simp only [eq_iff_iff,iff_false];omega
 refine W_cutB (fun T H' M=>M=[]∧H=H'∧getT T 0=.ptr nb 0∧getT T 1=.ptr tb 0∧getT T 4=.fn 218 [.ptr tb 0] []) ?_ ?_
 · simp only [go_sem,reduceIte,reduceEqDiff,reduceAdd,reduceMul,reduceSub,reduceLeDiff,reduceLT,Nat.reduceBEq,reduceCtorEq]
   done
 rintro T H' M ⟨rfl,rfl,g0,g1,g4⟩
 obtain ⟨t0,ht0,hg0⟩:=S.tk
 have e0:=hTk_eq (F:=F218) (lo:=0) (rest:=[]) (v:=.int .i64 x.num.1) (t':=wordT x) (x':=x.num.2) hg0 ht0 (Nat.zero_le _) (by omega) (f218 hw0)
 refine W_cutB (fun T H' M=>M=[]∧getT T 0=.ptr nb 0∧getT T 1=.ptr tb 0∧getT T 4=.fn 218 [.ptr tb 0] []∧getT T 5=.ptr H.n 0∧H'.get H.n=.cells [.int .i64 x.num.1,.int .i64 0,.bool false] 200∧H.n < H'.n∧PS nb tb n x.num.2 H H') ?_ ?_
 · simp only [go_sem,reduceIte,reduceEqDiff,reduceAdd,reduceMul,reduceSub,reduceLeDiff,reduceLT,Nat.reduceBEq,reduceCtorEq,g0,g1,g4,e0,p1,p2]
   exact S.box htb _ _ rfl hne (wordT_ok x)
 clear g0 g1 g4
 rintro T H1 M ⟨rfl,g0,g1,g4,g5,hb1,hn1,S1⟩
 have hw1:=kWd hw0
 obtain ⟨t1,ht1,hg1⟩:=S1.tk
 have e1:=hTk_eq (F:=F218) (lo:=0) (rest:=[]) (v:=.int .i64 x.num.2.num.1) (t':=wordT x.num.2) (x':=x.num.2.num.2) hg1 ht1 (Nat.zero_le _) (by omega) (f218 hw1)
 refine W_cutB (fun T H' M=>M=[]∧getT T 0=.ptr nb 0∧getT T 1=.ptr tb 0∧getT T 5=.ptr H.n 0∧H'.get H.n=.cells [.int .i64 x.num.1,.int .i64 x.num.2.num.1,.bool false] 200∧H.n < H'.n∧PS nb tb n x.num.2.num.2 H H') ?_ ?_
 · have q:=eq_true hn1
   simp only [go_sem,reduceIte,reduceEqDiff,reduceAdd,reduceMul,reduceSub,reduceLeDiff,reduceLT,Nat.reduceBEq,reduceCtorEq,g0,g1,g4,g5,e1,hb1,p1,p2,q]
   exact S1.step hb1 (Nat.le_refl _) (by omega) (by omega) hne (wordT_ok x.num.2)
 clear g0 g1 g4 g5
 rintro T H2 M ⟨rfl,g0,g1,g5,hb2,hn2,S2⟩
 obtain ⟨t2,ht2,hg2⟩:=S2.tk
 have e2:=hTk_eq (F:=F219) (lo:=0) (rest:=[.agg [.str sUp,.str sDown]]) (v:=.bool (x.num.2.num.2.one sUp sDown).1) (t':=wordT x.num.2.num.2) (x':=(x.num.2.num.2.one sUp sDown).2) hg2 ht2 (Nat.zero_le _) (by omega) rfl
 refine W_cutB (fun T H' M=>M=[]∧getT T 0=.ptr nb 0∧getT T 1=.ptr tb 0∧getT T 5=.ptr H.n 0∧H'.get H.n=.cells [.int .i64 x.num.1,.int .i64 x.num.2.num.1,.bool (x.num.2.num.2.one sUp sDown).1] 200∧H.n < H'.n∧PS nb tb n (x.num.2.num.2.one sUp sDown).2 H H') ?_ ?_
 · have q:=eq_true hn2
   simp only [go_sem,reduceIte,reduceEqDiff,reduceAdd,reduceMul,reduceSub,reduceLeDiff,reduceLT,Nat.reduceBEq,reduceCtorEq,g0,g1,g5,e2,hb2,p1,p2,q,wglob0]
   exact S2.step hb2 (Nat.le_refl _) (by omega) (by omega) hne (wordT_ok x.num.2.num.2)
 clear g0 g1 g5
 rintro T H3 M ⟨rfl,g0,g1,g5,hb3,hn3,S3⟩
 have eR:readT n x 1=if n.lines=[] then (n,⟨(x.num.2.num.2.one sUp sDown).2.ws,true⟩) else (n.addPiece ⟨x.num.1,x.num.2.num.1,(x.num.2.num.2.one sUp sDown).1⟩,(x.num.2.num.2.one sUp sDown).2):=rfl
 obtain ⟨lv,L,t2,t3,N⟩:=S3.ex
 obtain ⟨t,ht,hg⟩:=S3.tk
 have hbp:=N.bp
 have hLl:L.length=n.lines.length:=by have:=congrArg List.length N.ls;simpa using this
 by_cases hz:n.lines=[]
 · rw [eR,if_pos hz]
   have hL0:L=[]:=List.length_eq_zero_iff.1 (by rw [hLl,hz];rfl)
   have hlv:lv=.ps .nil []:=by
    rcases N.lv with ⟨_,h⟩ | ⟨h,_⟩
    · exact h
    · exact absurd hL0 h
   subst hlv
   have fin:PS nb tb n ⟨(x.num.2.num.2.one sUp sDown).2.ws,true⟩ H (H3.set tb (.cells (TkC t ⟨(x.num.2.num.2.one sUp sDown).2.ws,true⟩) 291)):=S3.take hne ht
   simp only [TkC] at hg fin
   simp only [go_sem,reduceIte,reduceEqDiff,reduceAdd,reduceMul,reduceSub,reduceLeDiff,reduceLT,Nat.reduceBEq,reduceCtorEq,g0,g1,g5,hbp,hg]
   exact fin
 · rw [eR,if_neg hz]
   generalize x.num.1=a at *
   generalize x.num.2.num.1=b at *
   generalize (x.num.2.num.2.one sUp sDown).1=c at *
   generalize (x.num.2.num.2.one sUp sDown).2=x3 at *
   have hL0:L ≠ []:=fun h=>hz (by rw [← N.ls,h];rfl)
   obtain ⟨L0,tl,l,rfl⟩:∃ L0 t l,L=L0++[(t,l)]:=⟨L.dropLast,(L.getLast hL0).1,(L.getLast hL0).2,(List.dropLast_concat_getLast hL0).symm⟩
   obtain ⟨id,rfl,iH,hid⟩:∃ id,lv=.rs id 0 (L0.length+1) 2 none∧id < H3.n∧H3.get id=.row (lnCs L0++[.str l.name,.ps tl (l.ps.map Pc.row)]) 2 196:=by
    rcases N.lv with ⟨h0,_⟩ | ⟨_,id,h,_,h2,h3⟩
    · exact absurd h0 hL0
    · rw [lnCs_app] at h3
      exact ⟨id,by simpa using h,h2,h3⟩
   have hroom:l.ps.length+1≤maxRows:=hr l (by rw [← N.ls];simp)
   have hAp:=N.last tl l (List.getLast?_concat ..)
   obtain ⟨t',HB,ha,hE,hnB,_,hcB⟩:=appE (lo:=0) (rx:=[[AV.int .i64 a,AV.int .i64 b,AV.bool c]]) hAp (Nat.zero_le _) (Nat.zero_le _) (by simpa using hroom) rfl rfl (by decide) (pc_all _)
   have hidne:H3.get id ≠ .row [] 3 200:=by
    rw [hid];intro h
    exact absurd (ABlk.row.inj h).2.1 (by decide)
   have hid1:HB.get id=.row (lnCs L0++[.str l.name,.ps tl (l.ps.map Pc.row)]) 2 196:=by rw [hcB id iH hidne,hid]
   have hp1:HB.get nb=.cells [.rs id 0 (L0.length+1) 2 none,.ps t2 (n.sws.map Sw.row),.ps t3 (n.sts.map Stc.row)] 40:=by
    rw [hcB nb N.nbn (by rw [hbp];intro h;cases h),hbp]
   have hcl:(lnCs L0).length=L0.length * 2:=lnCs_len L0
   have hpos:(((L0.length+1:Nat):Int)=0)=False:=by simp only [eq_iff_iff,iff_false];omega
   have hwp:wrapq .i64 (Int.sub ((L0.length+1:Nat):Int) 1)=((L0.length:Nat):Int):=by
    have:=wrap_pred (k:=L0.length+1) (n:=L0.length+1) (by omega) (Nat.le_refl _) (by rw [← hLl] at hll;simpa using hll)
    simpa using this
   have hlt:(L0.length < L0.length+1)=True:=by simp
   have f1:(L0.length * 2+1+1≤(lnCs L0++[AV.str l.name,AV.ps tl (l.ps.map Pc.row)]).length)=True:=by
    simp only [List.length_append,hcl,List.length_cons,List.length_nil,eq_iff_iff,iff_true];omega
   have f2:=drop_snd (a:=AV.str l.name) (b:=.ps tl (l.ps.map Pc.row)) hcl
   have f3:=drop_all2 (a:=AV.str l.name) (b:=.ps tl (l.ps.map Pc.row)) hcl
   have f4:=take_snd (a:=AV.str l.name) (b:=.ps tl (l.ps.map Pc.row)) hcl
   have hcs:lnCs L0++[AV.str l.name]++[AV.ps t' (l.ps.map Pc.row++[[AV.int .i64 a,AV.int .i64 b,AV.bool c]])]=lnCs (L0++[(t',⟨l.name,l.ps++[⟨a,b,c⟩]⟩)]):=by
    rw [lnCs_app];simp [lnCs,Pc.row,i64]
   have nid:id ≠ nb:=fun he=>by rw [he,hbp] at hid;cases hid
   have tid:id ≠ tb:=fun he=>by rw [he,hg] at hid;cases hid
   have hSn:=S3.n
   have hNb:=N.nbn
   have fin:PS nb tb (n.addPiece ⟨a,b,c⟩) x3 H (HB.set id (.row (lnCs L0++[AV.str l.name]++[AV.ps t' (l.ps.map Pc.row++[[AV.int .i64 a,AV.int .i64 b,AV.bool c]])]) 2 196)):=by
    rw [hcs]
    refine ⟨⟨_,L0++[(t',⟨l.name,l.ps++[⟨a,b,c⟩]⟩)],t2,t3,⟨by rw [Heap.get_set,if_neg (Ne.symm nid),hp1];rfl,by simp;omega,.inr ⟨by simp,id,by simp,Nat.zero_le _,by simp;omega,by rw [Heap.get_set,if_pos rfl]⟩, ?_,fun u k hl => ?_,N.a2.keep (by simp;omega) fun i hi _ hc => ?_,N.a3.keep (by simp;omega) fun i hi _ hc => ?_⟩⟩,⟨t,ht,by rw [Heap.get_set,if_neg (Ne.symm tid),hcB tb (by omega) (by rw [hg];intro h;cases h)];exact hg⟩,by simp;omega,fun j hj h1 h2 h3 => ?_⟩
    · have hls:=N.ls
      rw [List.map_append] at hls ⊢
      show _=addPc _ n.lines
      rw [← hls]
      exact (addPc_snoc _ _ _).symm
    · rw [List.getLast?_concat] at hl
      cases hl
      have hpe:(l.ps++[(⟨a,b,c⟩:Pc)]).map Pc.row=l.ps.map Pc.row++[[AV.int .i64 a,AV.int .i64 b,AV.bool c]]:=by rw [List.map_append];rfl
      show AppE 0 _ t' ((l.ps++[(⟨a,b,c⟩:Pc)]).map Pc.row) 3 200
      rw [hpe]
      exact hE.keep (by simp) fun i hi _ hc=>by rw [Heap.get_set,if_neg (fun he=>by rw [he,hid1] at hc;exact absurd (ABlk.row.inj hc).2.1 (by decide))]
    · rw [Heap.get_set,if_neg (fun he=>by rw [he,hid] at hc;exact absurd (ABlk.row.inj hc).2.1 (by decide)),hcB i hi (by rw [hc];intro h;cases h)]
    · rw [Heap.get_set,if_neg (fun he=>by rw [he,hid] at hc;exact absurd (ABlk.row.inj hc).2.1 (by decide)),hcB i hi (by rw [hc];intro h;cases h)]
    · have hj3:=S3.fr j hj h1 h2 h3
      have jid:j ≠ id:=fun he=>by rw [he,hid] at hj3;rw [he] at h3;exact h3 _ _ _ hj3.symm
      rw [Heap.get_set,if_neg jid,hcB j (by omega) (by rw [hj3];exact h3 _ _ _),hj3]
   have htk:tl=.nil∨tl=.exact ∨ ∃ j,tl=.tok j:=by
    rcases hAp with ⟨_,h | h⟩ | ⟨j,h,_⟩
    · exact .inl h
    · exact .inr (.inl h)
    · exact .inr (.inr ⟨j,h⟩)
   have hun:AV.under H3.n (.rs id 0 (L0.length+1) 2 none)=true:=by simpa [AV.under] using iH
   rcases htk with rfl | rfl | ⟨j,rfl⟩
   all_goals
    simp only [go_sem,reduceIte,reduceEqDiff,reduceAdd,reduceMul,reduceSub,reduceLeDiff,reduceLT,Nat.reduceBEq,reduceCtorEq,g0,g1,g5,hun,hbp,hb3,hpos,hwp,hlt,hid,appO,ha,hid1,hp1,f1,f2,f3,f4,p1,p2,p3,p4]
    exact fin
end Go.Sim

/-
Texts: the pieces of the lines copied, one line after the other.
-/
namespace Go.Sim
open Go Go.Proofs
set_option maxRecDepth 100000
set_option maxHeartbeats 16000000
theorem op_copy {C:Cfg} {rec:Rec} {fid lo:Nat} {T:TT AV} {H:Heap} {K:AV→Heap→Prop} {d:Option Tmp} {t:TypeId} {p:String} {af:Array Edge} {gd:Option (Nat × Bool)} (a b:Operand) (ts tx:TypeId) :
 VO (aop C rec fid lo ⟨d,.call ⟨.builtin .copy,#[a,b],#[ts,tx]⟩,t,p,af,gd⟩ T H) K=AO (evalO C T a) fun x=>AO (evalO C T b) fun y=>VO (acopy C.P lo H ts x y) K:=by
 simp only [aop,acall,evalOs]
 cases evalO C T a with
 | none=>rfl
 | some s=>cases evalO C T b with
   | none=>rfl
   | some x=>rfl
def pcF (l:List Pc):List AV:=(l.map Pc.row).flatten
theorem pcF_len:∀ l:List Pc,(pcF l).length=l.length * 3
 | []=>rfl
 | p::r=>by
   have ih:=pcF_len r
   show (Pc.row p++pcF r).length=_
   rw [List.length_append,ih,List.length_cons]
   show 3+_=_
   omega
def zPc:List AV:=[.int .i64 0,.int .i64 0,.bool false]
theorem mk194 (H:Heap) {N:Nat} (h:N≤maxRows):amakeSlice NC.P H 194 (.int .i64 (N:Nat)) (.int .i64 (N:Nat))=some (.rs H.n 0 N 3 (some N),H.push (.cells (List.replicate N zPc).flatten 200)):=by
 have e1:elemOf NC.P 194=some 200:=by kernel_rfl
 have e2:szOf NC.P 200=some 3:=by kernel_rfl
 have e3:bytesOf NC.P 200=some 24:=by kernel_rfl
 have e4:zeroOf NC.P 200=some (.agg zPc):=by kernel_rfl
 have hb:24 * N≤140737488355328:=by unfold maxRows at h;omega
 unfold amakeSlice
 rw [e1]
 simp only [e2,e3,e4]
 rw [if_pos (by simp [hb,h,AV.cells,zPc])]
 rfl
theorem rep_len (N:Nat):((List.replicate N zPc).flatten).length=N * 3:=by
 induction N with
 | zero=>rfl
 | succ n ih=>rw [List.replicate_succ,List.flatten_cons,List.length_append,ih];show 3+_=_;omega
theorem pcF_one:∀ l:List Pc,(pcF l).all AV.one=true
 | []=>rfl
 | p::r=>by
   have ih:=pcF_one r
   show (Pc.row p++pcF r).all AV.one=true
   rw [List.all_append,ih];rfl
theorem cp194 {H:Heap} {t:Tok} {l:List Pc} {cap:Option Nat} {id:Nat} {cs:List AV} (hi:H.get id=.cells cs 200) (hc:cs.length=l.length * 3) :
 acopy NC.P 0 H 194 (.rs id 0 l.length 3 cap) (.ps t (l.map Pc.row))=some (.int .i64 (l.length:Nat),H.set id (.cells (pcF l) 200)):=by
 have e1:elemOf NC.P 194=some 200:=by kernel_rfl
 have e2:szOf NC.P 200=some 3:=by kernel_rfl
 have e3:rowsIn H 3 (.ps t (l.map Pc.row))=some (l.map Pc.row):=by
  have h:=pc_all l
  unfold rowsIn
  simp only [h,if_true]
 have e4:(l.map Pc.row).flatten.all AV.one=true:=pcF_one l
 have e5:setBlk (H.get id) 0 (l.map Pc.row).flatten=some (.cells (pcF l) 200):=by
  have hl:=pcF_len l
  unfold pcF at hl
  rw [hi]
  unfold setBlk over
  simp only [Nat.zero_add,hl,hc,Nat.le_refl,if_true,List.take_zero,List.nil_append]
  rw [List.drop_eq_nil_of_le (by rw [hc];omega),List.append_nil];rfl
 unfold acopy
 rw [e1]
 simp only
 rw [e2]
 simp only
 rw [e3]
 simp only [e4,e5,List.length_map,Nat.le_refl,Nat.zero_le,decide_true,Bool.and_true,if_true]
/-! ### Lines, of which some have pieces of their own -/
abbrev CT:Type:=Nat × Ln
def cpCs (K:List CT):List AV:=K.flatMap fun x=>[.str x.2.name,.rs x.1 0 x.2.ps.length 3 (some x.2.ps.length)]
theorem cpCs_app (a b:List CT):cpCs (a++b)=cpCs a++cpCs b:=by unfold cpCs;rw [List.flatMap_append]
theorem cpCs_len:∀ K:List CT,(cpCs K).length=K.length * 2
 | []=>rfl
 | x::r=>by
   have ih:=cpCs_len r
   show (AV.str x.2.name::AV.rs x.1 0 x.2.ps.length 3 (some x.2.ps.length)::cpCs r).length=_
   simp only [List.length_cons,ih];omega
def CPok (H:Heap) (K:List CT):Prop:=∀ x ∈ K,x.1 < H.n∧H.get x.1=.cells (pcF x.2.ps) 200
theorem CPok.keep {H H':Heap} {K:List CT} (h:CPok H K) (hn:H.n≤H'.n) (hg:∀ i cs,i < H.n→H.get i=.cells cs 200→H'.get i=H.get i):CPok H' K:=fun x hx=>⟨Nat.lt_of_lt_of_le (h x hx).1 hn,by rw [hg _ _ (h x hx).1 (h x hx).2];exact (h x hx).2⟩
theorem cons_drop1 {α:Type} {A C:List α} {a b:α} {k:Nat} (h:A.length=k):(A++a::b::C).drop (k+1)=b::C:=by
 have e:A++a::b::C=(A++[a])++b::C:=by simp
 rw [e];exact List.drop_left' (by simp [h])
theorem cons_drop2 {α:Type} {A C:List α} {a b:α} {k:Nat} (h:A.length=k):(A++a::b::C).drop (k+1+1)=C:=by
 have e:A++a::b::C=(A++[a,b])++C:=by simp
 rw [e];exact List.drop_left' (by simp [h])
theorem cons_take1 {α:Type} {A C:List α} {a b:α} {k:Nat} (h:A.length=k):(A++a::b::C).take (k+1)=A++[a]:=by
 have e:A++a::b::C=(A++[a])++b::C:=by simp
 rw [e];exact List.take_left' (by simp [h])
/-! ### Read as lists -/
theorem deepC_pcF (d:Nat) (H:Heap):∀ l:List Pc,deepC (deep (d+1) H) (pcF l)=some (pcF l)
 | []=>rfl
 | p::r=>by
   have ih:=deepC_pcF d H r
   show deepC (deep (d+1) H) (.int .i64 p.len :: .int .i64 p.post :: .bool p.back::pcF r)=some (.int .i64 p.len :: .int .i64 p.post :: .bool p.back::pcF r)
   have e1:∀ i,deep (d+1) H (.int .i64 i)=some (.int .i64 i):=fun _=>rfl
   have e2:∀ b,deep (d+1) H (.bool b)=some (.bool b):=fun _=>rfl
   unfold deepC
   rw [e1]
   simp only
   unfold deepC
   rw [e1]
   simp only
   unfold deepC
   rw [e2]
   simp only
   rw [ih]
theorem chunks_pcF:∀ l:List Pc,chunks 3 l.length (pcF l)=some (l.map Pc.row)
 | []=>rfl
 | p::r=>by
   have ih:=chunks_pcF r
   show chunks 3 (r.length+1) (.int .i64 p.len :: .int .i64 p.post :: .bool p.back::pcF r)=_
   unfold chunks
   rw [if_pos (by simp)]
   show (match chunks 3 r.length (pcF r) with
    | some l'=>some ([AV.int .i64 p.len,AV.int .i64 p.post,AV.bool p.back]::l')
    | none=>none)=_
   rw [ih];rfl
theorem deep_pc {H:Heap} {id:Nat} {l:List Pc} {cap:Option Nat} (h:H.get id=.cells (pcF l) 200) (d:Nat):deep (d+2) H (.rs id 0 l.length 3 cap)=some (.ps .unk (l.map Pc.row)):=by
 have hl:=pcF_len l
 have hr:readCells H (.ptr id 0) (l.length * 3)=some (pcF l):=by
  unfold readCells
  simp only [h]
  simp only [blkCells,sub?,Nat.zero_add,List.drop_zero,hl,Nat.le_refl,if_true]
  rw [List.take_of_length_le (by omega)]
 show (match readCells H (.ptr id 0) (l.length * 3) with
  | some cs=>match deepC (deep (d+1) H) cs with
    | some cs'=>match chunks 3 l.length cs' with
      | some rows=>some (AV.ps .unk rows)
      | none=>none
    | none=>none
  | none=>none)=_
 rw [hr]
 simp only
 rw [deepC_pcF]
 simp only
 rw [chunks_pcF]
theorem deepC_cp (d:Nat) {H:Heap}:∀ {K:List CT},CPok H K→deepC (deep (d+2) H) (cpCs K)=some (lnFl (K.map Prod.snd))
 | [],_=>rfl
 | (i,l)::r,h=>by
   have ih:=deepC_cp d (K:=r) fun x hx=>h x (List.mem_cons_of_mem _ hx)
   have h0:=(h (i,l) (by simp)).2
   have e1:deep (d+2) H (.str l.name)=some (.str l.name):=rfl
   have e2:=deep_pc (cap:=some l.ps.length) h0 d
   show deepC (deep (d+2) H) (.str l.name :: .rs i 0 l.ps.length 3 (some l.ps.length)::cpCs r)=_
   unfold deepC
   rw [e1]
   simp only
   unfold deepC
   rw [e2]
   simp only
   rw [ih]
   rfl
theorem deep_cp {H:Heap} {id:Nat} {K:List CT} {te:TypeId} (h:H.get id=.row (cpCs K) 2 te) (hk:CPok H K) (d:Nat):deep (d+3) H (.rs id 0 K.length 2 none)=some (.ps .unk ((K.map Prod.snd).map Ln.row)):=by
 have hl:=cpCs_len K
 have hr:readCells H (.ptr id 0) (K.length * 2)=some (cpCs K):=by
  unfold readCells
  simp only [h]
  simp only [blkCells,sub?,Nat.zero_add,List.drop_zero,hl,Nat.le_refl,if_true]
  rw [List.take_of_length_le (by omega)]
 have hc:=chunks_lns (K.map Prod.snd)
 rw [List.length_map] at hc
 show (match readCells H (.ptr id 0) (K.length * 2) with
  | some cs=>match deepC (deep (d+2) H) cs with
    | some cs'=>match chunks 2 K.length cs' with
      | some rows=>some (AV.ps .unk rows)
      | none=>none
    | none=>none
  | none=>none)=_
 rw [hr]
 simp only
 rw [deepC_cp d hk]
 simp only
 rw [hc]
theorem deep_out {H:Heap} {v:AV} {d:Nat} {ls:List Ln} (h:deep (d+1) H v=some (.ps .unk (ls.map Ln.row))) (t2 t3:Tok) (r2 r3:List (List AV)) (a b:Int) :
 deep (d+3) H (.tup [.agg [v,.ps t2 r2,.ps t3 r3],.int .i64 a,.int .i64 b])=some (.tup [.agg [.ps .unk (ls.map Ln.row),.ps .unk r2,.ps .unk r3],.int .i64 a,.int .i64 b]):=by
 have e2:deep (d+2) H (.agg [v,.ps t2 r2,.ps t3 r3])=some (.agg [.ps .unk (ls.map Ln.row),.ps .unk r2,.ps .unk r3]):=by
  show (match deepC (deep (d+1) H) [v,.ps t2 r2,.ps t3 r3] with
   | some l=>some (AV.agg l)
   | none=>none)=_
  unfold deepC
  rw [h]
  rfl
 show (match deepC (deep (d+2) H) [.agg [v,.ps t2 r2,.ps t3 r3],.int .i64 a,.int .i64 b] with
  | some l=>some (AV.tup l)
  | none=>none)=_
 unfold deepC
 rw [e2]
 rfl
end Go.Sim

/-
Texts: Parse by the program: one line.
-/
namespace Go.Sim
open Go Go.Proofs
set_option maxRecDepth 100000
set_option maxHeartbeats 16000000
theorem r164 (s:Wd) {lo:Nat} {H:Heap}:∃ v H',R WP (.call lo 164 [.str s] H)=some (.ofVal v H')∧v=.fn 212 [] [.ptr H.n 0]∧H'=H.push (.cells [.str s] 9):=by
 refine R_of_body (C:=WP) (f:=164) (lo:=lo) (args:=[.str s]) (H:=H) (fn:=Tryz.f164) (Q:=fun v H'=>v=.fn 212 [] [.ptr H.n 0]∧H'=H.push (.cells [.str s] 9)) (by kernel_rfl) Tryz.func164 rfl rfl ?_
 simp only [go_sem,reduceIte,reduceEqDiff,reduceAdd,reduceMul,reduceSub,reduceLeDiff,reduceLT,Nat.reduceBEq,reduceCtorEq,evalO_nilf]
 done
/-! ### What holds ahead of a line -/
structure GP (s:Wd) (k:Nat) (H:Heap):Prop where
 n:9≤H.n
 h0:H.get 0=.cells [.ps .nil [],.ps .nil [],.ps .nil []] 40
 h1:H.get 1=.cells [.int .i64 0] 3
 h2:H.get 2=.cells [.int .i64 0] 33
 h4:H.get 4=.cells [.int .i64 (k:Nat)] 3
 h6:∃ w,H.get 6=.cells [.str w] 9
 h7:H.get 7=.defr
 h8:∀ cs sz e,H.get 8 ≠ .row cs sz e
 ex:∃ n k1 lv L t2 t3,H.get 5=.cells [.int .i64 k1] 3∧NB 3 n H lv L t2 t3∧Sz n k s.length∧goG zNet 0 0 (partS s)=goG n k1 k ((partS s).drop k)
theorem GP.setc {s:Wd} {k:Nat} {H:Heap} (g:GP s k H) (w:Wd):GP s k (H.set 6 (.cells [.str w] 9)):=by
 obtain ⟨w0,h6⟩:=g.h6
 obtain ⟨n,k1,lv,L,t2,t3,h5,N,sz,go⟩:=g.ex
 have e:∀ j,j ≠ 6→(H.set 6 (.cells [.str w] 9)).get j=H.get j:=fun j hj=>by rw [Heap.get_set,if_neg hj]
 exact ⟨by simpa using g.n,by rw [e 0 (by decide)];exact g.h0,by rw [e 1 (by decide)];exact g.h1,by rw [e 2 (by decide)];exact g.h2,by rw [e 4 (by decide)];exact g.h4,⟨w,by rw [Heap.get_set,if_pos rfl]⟩,by rw [e 7 (by decide)];exact g.h7,by rw [e 8 (by decide)];exact g.h8,n,k1,lv,L,t2,t3,by rw [e 5 (by decide)];exact h5,N.keep (by simp) (e 3 (by decide)) fun i cs sz e' hi hc=>e i fun he=>(by rw [he,h6] at hc;cases hc),sz,go⟩
theorem GP.setl {s:Wd} {k:Nat} {H:Heap} (g:GP s k H) {b:ABlk} (hb:∀ cs sz e,b ≠ .row cs sz e):GP s k (H.set 8 b):=by
 obtain ⟨n,k1,lv,L,t2,t3,h5,N,sz,go⟩:=g.ex
 have e:∀ j,j ≠ 8→(H.set 8 b).get j=H.get j:=fun j hj=>by rw [Heap.get_set,if_neg hj]
 exact ⟨by simpa using g.n,by rw [e 0 (by decide)];exact g.h0,by rw [e 1 (by decide)];exact g.h1,by rw [e 2 (by decide)];exact g.h2,by rw [e 4 (by decide)];exact g.h4,by rw [e 6 (by decide)];exact g.h6,by rw [e 7 (by decide)];exact g.h7,by rw [Heap.get_set,if_pos rfl];exact hb,n,k1,lv,L,t2,t3,by rw [e 5 (by decide)];exact h5,N.keep (by simp) (e 3 (by decide)) fun i cs sz e' hi hc=>e i fun he=>g.h8 cs sz e' (he ▸ hc),sz,go⟩
def EP (s:Wd) (e:AExit) (H:Heap):Prop:=e=.ret∧H.get 7=.defr∧H.get 0=.cells [.ps .nil [],.ps .nil [],.ps .nil []] 40 ∧ ∃ i:Int,H.get 1=.cells [.int .i64 i] 3∧H.get 2=.cells [.int .i64 25] 33∧parseF s=(zNet,i,25)
theorem EP.setl {s:Wd} {e:AExit} {H:Heap} (h:EP s e H) (b:ABlk):EP s e (H.set 8 b):=by
 obtain ⟨h1,h2,h3,i,h4,h5,h6⟩:=h
 exact ⟨h1,by rw [Heap.get_set,if_neg (by decide)];exact h2,by rw [Heap.get_set,if_neg (by decide)];exact h3,i,by rw [Heap.get_set,if_neg (by decide)];exact h4,by rw [Heap.get_set,if_neg (by decide)];exact h5,h6⟩
def FT (v:AV) (T:TT AV):Prop:=getT T 8=v∧getT T 2=.ptr 0 0∧getT T 3=.ptr 1 0∧getT T 4=.ptr 2 0∧getT T 5=.ptr 3 0∧getT T 6=.ptr 4 0∧getT T 7=.ptr 5 0
theorem e165 {l:Wd} {o:Bool} (hno:10 ∉ l) (hl:l.length+1≤maxRows):onPure p165 [.str (if o then l++[10] else l),.str [10]]=some (.tup [.str l,.bool o]):=by
 cases o with
 | true =>
   have hE:endsB (l++[10])=true:=by
    unfold endsB
    have:(l++[10]).drop ((l++[10]).length - 1)=[10]:=by
     have:(l++[10]).length - 1=l.length:=by simp
     rw [this];exact List.drop_left' rfl
    rw [this];simp [beqL_same]
   have ht:(l++[10]).take ((l++[10]).length - 1)=l:=by
    have:(l++[10]).length - 1=l.length:=by simp
    rw [this];exact List.take_left' rfl
   have e:=pe165 (l++[10]) (by simpa using hl)
   rw [hE,ht] at e
   exact onPure_eq e rfl rfl
 | false =>
   have hE:endsB l=false:=by
    unfold endsB
    cases hb:beqL (l.drop (l.length - 1)) [10] with
    | false=>simp
    | true =>
      exfalso
      have h:=beqL_to hb
      exact hno (List.mem_of_mem_drop (by rw [h];simp))
   have e:=pe165 l (by omega)
   rw [hE] at e
   exact onPure_eq e rfl rfl
theorem e169:onPure p169 []=some (.ps .unk formsL):=onPure_eq rfl rfl rfl
theorem read_sz {n:Net} {k1:Int} {k q m:Nat} {l:Wd} (h:Sz n k m) (hm:l.length≤m) (hF:lineF n (splitL 32 l)=some ((readT n (Tk.word ⟨splitL 32 l,false⟩).2 q).1,kindOf q)):Sz (readT n (Tk.word ⟨splitL 32 l,false⟩).2 q).1 (k+1) m:=by
 have hp:=h.parsed (w:=splitL 32 l) fun x hx=>Nat.le_trans (splitL_mem hx) hm
 have hl:=parsedF_line n (splitL 32 l)
 rw [hF] at hl
 split at hl
 · have e:=congrArg Prod.fst (Option.some.inj hl)
   simp only at e
   rw [e];exact hp
 · cases hl
theorem wp_rd {q:Nat} (hq:q < 4) {args:List AV} {H:Heap} {K:AV→Heap→Prop}:VO (aenter WP (R WP) 0 (fF q) args H) K=AO (R WP (.call 0 (fF q) args H)) fun o=>K o.val o.s.H:=by
 have h:q=0∨q=1∨q=2∨q=3:=by omega
 rcases h with rfl | rfl | rfl | rfl
 · exact wp_216
 · exact wp_217
 · exact wp_220
 · exact wp_221
theorem r_rd {q nb tb:Nat} {n:Net} {x:Tk} {H:Heap} (hq:q < 4) (hne:nb ≠ tb) (htb:tb < H.n) (hr:Room n) (hw0:∀ w ∈ x.ws,w.length≤maxRows) (S:PS nb tb n x H H) :
 ∃ v H1,R WP (.call 0 (fF q) [.ptr nb 0,.ptr tb 0] H)=some (.ofVal v H1)∧PS nb tb (readT n x q).1 (readT n x q).2 H H1:=by
 have h:q=0∨q=1∨q=2∨q=3:=by omega
 rcases h with rfl | rfl | rfl | rfl
 · exact r216 hne htb hr.lines S
 · exact r217 hne htb (by have:=hr.lines;omega) hr.ps hw0 S
 · exact r220 hne htb hr.sws hw0 S
 · exact r221 hne htb hr.sts hw0 S
end Go.Sim

/-
Texts: Parse by the program: the walk.
-/
namespace Go.Sim
open Go Go.Proofs
set_option maxRecDepth 100000
set_option maxHeartbeats 32000000
theorem view29 {n:Net} {H:Heap} {v:AV} {t2 t3:Tok} {lo:Nat} (hok:n.Ok) (hv:deep 3 H v=some (.ps .unk (n.lines.map Ln.row))):onView p29 lo [.agg [v,.ps t2 (n.sws.map Sw.row),.ps t3 (n.sts.map Stc.row)]] H=some (.int .i64 (netP n),H):=by
 have e2:deep 4 H (.agg [v,.ps t2 (n.sws.map Sw.row),.ps t3 (n.sts.map Stc.row)])=some (.agg n.cells):=by
  show (match deepC (deep 3 H) [v,.ps t2 (n.sws.map Sw.row),.ps t3 (n.sts.map Stc.row)] with
   | some l=>some (AV.agg l)
   | none=>none)=_
  unfold deepC
  rw [hv]
  rfl
 have e3:deepC (deep 4 H) [.agg [v,.ps t2 (n.sws.map Sw.row),.ps t3 (n.sts.map Stc.row)]]=some [.agg n.cells]:=by
  unfold deepC
  rw [e2]
  rfl
 have e4:p29 [.agg n.cells]=some (.int .i64 (netP n)):=pe29 n hok
 unfold onView
 rw [e3]
 simp only
 rw [e4]
 rfl
theorem w88run (s:Wd) (hs:s.length+1≤maxRows):∃ v H',R WP (.call 0 88 [.str s] .empty)=some (.ofVal v H')∧deep 6 H' v=some (.tup [.agg (parseF s).1.cells,.int .i64 (parseF s).2.1,.int .i64 (parseF s).2.2]):=by
 refine R_of_body (C:=WP) (f:=88) (lo:=0) (args:=[.str s]) (H:=.empty) (fn:=Tryz.f88) (Q:=fun v H'=>deep 6 H' v=some (.tup [.agg (parseF s).1.cells,.int .i64 (parseF s).2.1,.int .i64 (parseF s).2.2])) (by kernel_rfl) Tryz.func88 rfl rfl ?_
 have hzz:∀ (H:Heap) (a b:Int),deep 6 H (.tup [.agg [.ps .nil [],.ps .nil [],.ps .nil []],.int .i64 a,.int .i64 b])=some (.tup [.agg zNet.cells,.int .i64 a,.int .i64 b]):=fun _ _ _=>rfl
 by_cases hl:(4096:Int) < s.length
 · have e:parseF s=(zNet,0,26):=by unfold parseF;rw [if_pos hl]
   rw [e]
   have hl':=eq_true hl
   simp only [go_sem,reduceIte,reduceEqDiff,reduceAdd,reduceMul,reduceSub,reduceLeDiff,reduceLT,Nat.reduceBEq,reduceCtorEq,hl']
   rfl
 have hl':=eq_false hl
 have hplen:=partS_len s
 have hple:(partS s).length≤s.length:=by have:=splitL_le 10 s;omega
 have hpf:∀ i,(goG zNet 0 0 (partS s)).2.2=some i→parseF s=(zNet,(i:Int),25):=fun i h=>by
  unfold parseF;rw [if_neg hl,h]
 have e164:∀ (lo:Nat) (H:Heap),R WP (.call lo 164 [.str s] H)=some (.ofVal (.fn 212 [] [.ptr H.n 0]) (H.push (.cells [.str s] 9))):=fun lo H=>by
  obtain ⟨v,H',h1,rfl,rfl⟩:=r164 s (lo:=lo) (H:=H)
  exact h1
 simp only [go_sem,reduceIte,reduceEqDiff,reduceAdd,reduceMul,reduceSub,reduceLeDiff,reduceLT,Nat.reduceBEq,reduceCtorEq,hl',e164]
 refine W_lines (s:=s) (c:=6) rfl hs (by simp only [go_sem,reduceIte,reduceEqDiff,reduceAdd,reduceMul,reduceSub,reduceLeDiff,reduceLT,Nat.reduceBEq,reduceCtorEq]) ?_ ?_ (GP s) FT (EP s) ?_ (fun k H' w h=>h.setc w) (fun k H' b hb h=>h.setl hb) (fun e H' b h=>h.setl b) ?_ ?_ ?_ ?_
 · simp only [go_sem,reduceIte,reduceEqDiff,reduceAdd,reduceMul,reduceSub,reduceLeDiff,reduceLT,Nat.reduceBEq,reduceCtorEq]
   first | done | decide
 · simp only [go_sem,reduceIte,reduceEqDiff,reduceAdd,reduceMul,reduceSub,reduceLeDiff,reduceLT,Nat.reduceBEq,reduceCtorEq]
   done
 · intro lp
   refine ⟨?_, ?_, ?_, ?_, ?_, ?_, ?_, ?_,zNet,0,.ps .nil [],[],.nil,.nil, ?_,⟨?_, ?_,.inl ⟨rfl,rfl⟩,rfl,fun t l h=>(by cases h),.inl ⟨rfl,.inl rfl⟩,.inl ⟨rfl,.inl rfl⟩⟩,Sz.zero _,rfl⟩
   all_goals simp only [go_sem,reduceIte,reduceEqDiff,reduceAdd,reduceMul,reduceSub,reduceLeDiff,reduceLT,Nat.reduceBEq,reduceCtorEq]
   all_goals first | done | rfl | exact ⟨_,rfl⟩ | (intro cs sz e h;cases h)
 · intro v H'
   simp only [go_sem,reduceIte,reduceEqDiff,reduceAdd,reduceMul,reduceSub,reduceLeDiff,reduceLT,Nat.reduceBEq,reduceCtorEq,FT]
   first | done | rfl
 · rintro k l o Hk T1 lp ho1 ho2 g hlp ⟨f8,f2,f3,f4,f5,f6,f7⟩
   have hmem:l ∈ splitL 10 s:=by
    cases o with
    | true=>exact part_mem (ho1 rfl).1
    | false=>rw [(ho2 rfl).2.1];exact last_mem s
   have hno:10 ∉ l:=split_no hmem
   have hll:l.length≤s.length:=splitL_mem hmem
   have hkp:k≤(partS s).length:=by
    cases o with
    | true=>exact Nat.le_of_lt (List.getElem?_eq_some_iff.1 (ho1 rfl).1).1
    | false=>rw [(ho2 rfl).1];exact Nat.le_refl _
   have ec:=e165 (o:=o) hno (by omega:l.length+1≤maxRows)
   have es:onPure p166 [.str l,.str [32]]=some (.ps .unk ((splitL 32 l).map strRow)):=onPure_eq (pe166 l 32 (by omega)) rfl rfl
   obtain ⟨n,k1,lv,L,t2,t3,h5,N,sz,go⟩:=g.ex
   have hN9:=g.n
   have hlp:Hk.get 8=.loop lp:=hlp
   have hroom:Room n:=sz.room (by omega) (by omega)
   generalize hcl:(if o then l++[10] else l)=line at f8 ec
   rw [W_block]
   refine W_cutB (fun T H M=>M=[]∧Hk=H∧getT T 2=.ptr 0 0∧getT T 3=.ptr 1 0∧getT T 4=.ptr 2 0∧getT T 5=.ptr 3 0∧getT T 6=.ptr 4 0∧getT T 7=.ptr 5 0∧getT T 9=.str l∧getT T 10=.bool o) ?_ ?_
   · simp only [go_sem,reduceIte,reduceEqDiff,reduceAdd,reduceMul,reduceSub,reduceLeDiff,reduceLT,Nat.reduceBEq,reduceCtorEq,f8,f2,f3,f4,f5,f6,f7,kLF,ec]
     done
   clear f8 f2 f3 f4 f5 f6 f7
   rintro T H M ⟨rfl,rfl,f2,f3,f4,f5,f6,f7,f9,f10⟩
   refine W_cutB (fun T H M=>M=[]∧H=Hk.push (.cells (TkC .unk ⟨splitL 32 l,false⟩) 291)∧getT T 2=.ptr 0 0∧getT T 3=.ptr 1 0∧getT T 4=.ptr 2 0∧getT T 5=.ptr 3 0∧getT T 6=.ptr 4 0∧getT T 7=.ptr 5 0∧getT T 10=.bool o∧getT T 11=.ptr Hk.n 0) ?_ ?_
   · simp only [go_sem,reduceIte,reduceEqDiff,reduceAdd,reduceMul,reduceSub,reduceLeDiff,reduceLT,Nat.reduceBEq,reduceCtorEq,f9,f10,f2,f3,f4,f5,f6,f7,kSP,es]
     first | done | rfl
   clear f2 f3 f4 f5 f6 f7 f9 f10
   rintro T H M ⟨rfl,rfl,f2,f3,f4,f5,f6,f7,f10,f11⟩
   have htg:(Hk.push (.cells (TkC .unk ⟨splitL 32 l,false⟩) 291)).get Hk.n=.cells (TkC .unk ⟨splitL 32 l,false⟩) 291:=by rw [Heap.get_push,if_pos rfl]
   have ew:=hTk_eq (F:=F167) (lo:=0) (rest:=[]) (v:=.str (Tk.word ⟨splitL 32 l,false⟩).1) (t':=wordT ⟨splitL 32 l,false⟩) (x':=(Tk.word ⟨splitL 32 l,false⟩).2) htg (.inl rfl) (Nat.zero_le _) (by simp) rfl
   refine W_cutB (fun T H M=>M=[]∧(H.get (Hk.n+1)=.cells [.str (Tk.word ⟨splitL 32 l,false⟩).1] 9∧H.get Hk.n=.cells (TkC (wordT ⟨splitL 32 l,false⟩) (Tk.word ⟨splitL 32 l,false⟩).2) 291∧H.n=Hk.n+1+1 ∧ ∀ j,j < Hk.n→H.get j=Hk.get j)∧getT T 2=.ptr 0 0∧getT T 3=.ptr 1 0∧getT T 4=.ptr 2 0∧getT T 5=.ptr 3 0∧getT T 6=.ptr 4 0∧getT T 7=.ptr 5 0∧getT T 10=.bool o∧getT T 11=.ptr Hk.n 0∧getT T 12=.ptr (Hk.n+1) 0) ?_ ?_
   · simp only [go_sem,reduceIte,reduceEqDiff,reduceAdd,reduceMul,reduceSub,reduceLeDiff,reduceLT,Nat.reduceBEq,reduceCtorEq,f10,f11,f2,f3,f4,f5,f6,f7,ew]
     first
      | (refine fun j hj => ?_
         rw [if_neg (by omega),if_neg (by omega),if_neg (by omega),if_neg (by omega)])
   clear f2 f3 f4 f5 f6 f7 f10 f11
   rintro T H M ⟨rfl,⟨hhd,htk,hHn,hold⟩,f2,f3,f4,f5,f6,f7,f10,f11,f12⟩
   obtain ⟨v0,H0,e168,rfl⟩:=r168 (Tk.word ⟨splitL 32 l,false⟩).1 (lo:=H.n) hhd (by omega)
   have e9:=e169
   have ecp:Nat.succ 0=1:=rfl
   have hpfn:(AV.fn 170 [] [.ptr (Hk.n+1) 0]).strip=.fn 170 [] [.ptr (Hk.n+1) 0]:=rfl
   refine W_cutB (fun T H' M=>M=[]∧H=H'∧getT T 2=.ptr 0 0∧getT T 3=.ptr 1 0∧getT T 4=.ptr 2 0∧getT T 5=.ptr 3 0∧getT T 6=.ptr 4 0∧getT T 7=.ptr 5 0∧getT T 10=.bool o∧getT T 11=.ptr Hk.n 0∧getT T 13=.int .i64 (idxK (Tk.word ⟨splitL 32 l,false⟩).1)) ?_ ?_
   · simp only [go_sem,reduceIte,reduceEqDiff,reduceAdd,reduceMul,reduceSub,reduceLeDiff,reduceLT,Nat.reduceBEq,reduceCtorEq,f10,f11,f12,f2,f3,f4,f5,f6,f7,e9,e168,hpfn]
     done
   clear f2 f3 f4 f5 f6 f7 f10 f11 f12 e168
   rintro T H' M ⟨rfl,rfl,f2,f3,f4,f5,f6,f7,f10,f11,f13⟩
   -- what a wrong line leaves
   have b0:=(hold 0 (by omega)).trans g.h0
   have b1:=(hold 1 (by omega)).trans g.h1
   have b2:=(hold 2 (by omega)).trans g.h2
   have b4:=(hold 4 (by omega)).trans g.h4
   have b5:=(hold 5 (by omega)).trans h5
   have b7:=(hold 7 (by omega)).trans g.h7
   have b8:=(hold 8 (by omega)).trans hlp
   have bad:∀ Hx:Heap,parseF s=(zNet,(k:Int),25)→Hx.get 7=.defr→Hx.get 8=.loop lp→(((Hx.set 0 (.cells [.ps .nil [],.ps .nil [],.ps .nil []] 40)).set 1 (.cells [.int .i64 (k:Nat)] 3)).set 2 (.cells [.int .i64 25] 33)).get 8=.loop lp∧EP s .ret (((Hx.set 0 (.cells [.ps .nil [],.ps .nil [],.ps .nil []] 40)).set 1 (.cells [.int .i64 (k:Nat)] 3)).set 2 (.cells [.int .i64 25] 33)):=fun Hx h h7 h8=>⟨by simp [Heap.get_set,h8],rfl,by simp [Heap.get_set,h7],by simp [Heap.get_set],k,by simp [Heap.get_set],by simp [Heap.get_set],h⟩
   cases o with
   | false =>
     obtain ⟨rfl,_,hne⟩:=ho2 rfl
     have hpp:parseF s=(zNet,((partS s).length:Int),25):=by
      rw [List.drop_length] at go
      have go:goG zNet 0 0 (partS s)=(n,k1,none):=go
      unfold parseF
      rw [if_neg hl,go,if_pos (by rw [← (ho2 rfl).2.1];exact hne)]
     have hb:=bad H hpp b7 b8
     simp only [go_sem,reduceIte,reduceEqDiff,reduceAdd,reduceMul,reduceSub,reduceLeDiff,reduceLT,Nat.reduceBEq,reduceCtorEq,f10,f11,f13,f2,f3,f4,f5,f6,f7,b0,b1,b2,b4,b5]
     exact ⟨b8,hb.2⟩
   | true =>
   obtain ⟨hp,hc6⟩:=ho1 rfl
   have hk:k < (partS s).length:=(List.getElem?_eq_some_iff.1 hp).1
   have hdr:(partS s).drop k=l::(partS s).drop (k+1):=by
    rw [List.drop_eq_getElem_cons hk,(List.getElem?_eq_some_iff.1 hp).2]
   rw [hdr] at go
   cases hK:kindW (Tk.word ⟨splitL 32 l,false⟩).1 with
   | none =>
     have hi:idxK (Tk.word ⟨splitL 32 l,false⟩).1 = -1:=by unfold idxK;rw [hK]
     have hb:=bad H (hpf k (by rw [go];exact step_none hK)) b7 b8
     rw [hi] at f13
     have z:((-1:Int) < 0)=True:=by simp
     simp only [go_sem,reduceIte,reduceEqDiff,reduceAdd,reduceMul,reduceSub,reduceLeDiff,reduceLT,Nat.reduceBEq,reduceCtorEq,f10,f11,f13,f2,f3,f4,f5,f6,f7,b0,b1,b2,b4,b5,z]
     exact ⟨b8,hb.2⟩
   | some q =>
   have hq4:=kindW_lt hK
   have hi:idxK (Tk.word ⟨splitL 32 l,false⟩).1=(q:Int):=by unfold idxK;rw [hK]
   rw [hi] at f13
   obtain ⟨wq,hx,_⟩:=form_at [] hq4
   have hfl:formsL.length=4:=rfl
   have z:((q:Int) < 0)=False:=by simp only [eq_iff_iff,iff_false];omega
   by_cases hkk:kindOf q < k1
   · have hb:=bad H (hpf k (by rw [go];exact step_low hK hkk)) b7 b8
     have hkt:=eq_true hkk
     simp only [go_sem,reduceIte,reduceEqDiff,reduceAdd,reduceMul,reduceSub,reduceLeDiff,reduceLT,Nat.reduceBEq,reduceCtorEq,f10,f11,f13,f2,f3,f4,f5,f6,f7,b0,b1,b2,b4,b5,z,e9,hfl,hq4,hx,hkt]
     exact ⟨b8,hb.2⟩
   have hkt:=eq_false hkk
   refine W_cutB (fun T H' M=>M=[]∧H=H'∧getT T 2=.ptr 0 0∧getT T 3=.ptr 1 0∧getT T 4=.ptr 2 0∧getT T 5=.ptr 3 0∧getT T 6=.ptr 4 0∧getT T 7=.ptr 5 0∧getT T 11=.ptr Hk.n 0∧getT T 13=.int .i64 (q:Nat)) ?_ ?_
   · simp only [go_sem,reduceIte,reduceEqDiff,reduceAdd,reduceMul,reduceSub,reduceLeDiff,reduceLT,Nat.reduceBEq,reduceCtorEq,f10,f11,f13,f2,f3,f4,f5,f6,f7,b0,b1,b2,b4,b5,z,e9,hfl,hq4,hx,hkt]
     done
   clear f2 f3 f4 f5 f6 f7 f10 f11 f13
   rintro T H' M ⟨rfl,rfl,f2,f3,f4,f5,f6,f7,f11,f13⟩
   -- the kind
   refine W_cutB (fun T H' M=>M=[]∧H'=H.set 5 (.cells [.int .i64 (kindOf q)] 3)∧getT T 2=.ptr 0 0∧getT T 3=.ptr 1 0∧getT T 4=.ptr 2 0∧getT T 5=.ptr 3 0∧getT T 6=.ptr 4 0∧getT T 7=.ptr 5 0∧getT T 11=.ptr Hk.n 0∧getT T 13=.int .i64 (q:Nat)) ?_ ?_
   · simp only [go_sem,reduceIte,reduceEqDiff,reduceAdd,reduceMul,reduceSub,reduceLeDiff,reduceLT,Nat.reduceBEq,reduceCtorEq,f11,f13,f2,f3,f4,f5,f6,f7,b5,e9,hfl,hq4,hx]
     done
   clear f2 f3 f4 f5 f6 f7 f11 f13
   rintro T H' M ⟨rfl,rfl,f2,f3,f4,f5,f6,f7,f11,f13⟩
   -- the rest of the line
   have hold5:∀ j,j < Hk.n→j ≠ 5→(H.set 5 (.cells [.int .i64 (kindOf q)] 3)).get j=Hk.get j:=fun j hj h=>by rw [Heap.get_set,if_neg h];exact hold j hj
   have S0:PS 3 Hk.n n (Tk.word ⟨splitL 32 l,false⟩).2 (H.set 5 (.cells [.int .i64 (kindOf q)] 3)) (H.set 5 (.cells [.int .i64 (kindOf q)] 3)) :=
    ⟨⟨lv,L,t2,t3,N.keep (by simp;omega) (hold5 3 (by omega) (by decide)) fun i cs sz e hi hc=>hold5 i hi fun he=>(by rw [he,h5] at hc;cases hc)⟩,⟨_,wordT_ok _,by rw [Heap.get_set,if_neg (by omega)];exact htk⟩,Nat.le_refl _,fun _ _ _ _ _=>rfl⟩
   obtain ⟨v1,H1,er,S1⟩:=r_rd hq4 (by omega:(3:Nat) ≠ Hk.n) (by simp;omega) hroom (fun w hw=>by
    have h1:w ∈ splitL 32 l:=word_sub ⟨splitL 32 l,false⟩ w hw
    have:=splitL_mem h1
    omega) S0
   have a0:H1.get 0=.cells [.ps .nil [],.ps .nil [],.ps .nil []] 40:=by
    rw [S1.fr 0 (by simp;omega) (by decide) (by omega) (by rw [hold5 0 (by omega) (by decide),g.h0];intro _ _ _ h;cases h),hold5 0 (by omega) (by decide)];exact g.h0
   have a1:H1.get 1=.cells [.int .i64 0] 3:=by
    rw [S1.fr 1 (by simp;omega) (by decide) (by omega) (by rw [hold5 1 (by omega) (by decide),g.h1];intro _ _ _ h;cases h),hold5 1 (by omega) (by decide)];exact g.h1
   have a2:H1.get 2=.cells [.int .i64 0] 33:=by
    rw [S1.fr 2 (by simp;omega) (by decide) (by omega) (by rw [hold5 2 (by omega) (by decide),g.h2];intro _ _ _ h;cases h),hold5 2 (by omega) (by decide)];exact g.h2
   have a4:H1.get 4=.cells [.int .i64 (k:Nat)] 3:=by
    rw [S1.fr 4 (by simp;omega) (by decide) (by omega) (by rw [hold5 4 (by omega) (by decide),g.h4];intro _ _ _ h;cases h),hold5 4 (by omega) (by decide)];exact g.h4
   have a5:H1.get 5=.cells [.int .i64 (kindOf q)] 3:=by
    rw [S1.fr 5 (by simp;omega) (by decide) (by omega) (by rw [Heap.get_set,if_pos rfl];intro _ _ _ h;cases h),Heap.get_set,if_pos rfl]
   have a6:H1.get 6=.cells [.str (remS s (k+1))] 9:=by
    rw [S1.fr 6 (by simp;omega) (by decide) (by omega) (by rw [hold5 6 (by omega) (by decide),hc6];intro _ _ _ h;cases h),hold5 6 (by omega) (by decide)];exact hc6
   have a7:H1.get 7=.defr:=by
    rw [S1.fr 7 (by simp;omega) (by decide) (by omega) (by rw [hold5 7 (by omega) (by decide),g.h7];intro _ _ _ h;cases h),hold5 7 (by omega) (by decide)];exact g.h7
   have a8:H1.get 8=.loop lp:=by
    rw [S1.fr 8 (by simp;omega) (by decide) (by omega) (by rw [hold5 8 (by omega) (by decide),hlp];intro _ _ _ h;cases h),hold5 8 (by omega) (by decide)];exact hlp
   have aN:9≤H1.n:=by have:=S1.n;simp at this;omega
   have ern:=fun (args:List AV) (Hx:Heap) (K:AV→Heap→Prop)=>wp_rd hq4 (args:=args) (H:=Hx) (K:=K)
   refine W_cutB (fun T H' M=>M=[]∧H1=H'∧getT T 2=.ptr 0 0∧getT T 3=.ptr 1 0∧getT T 4=.ptr 2 0∧getT T 5=.ptr 3 0∧getT T 6=.ptr 4 0∧getT T 11=.ptr Hk.n 0) ?_ ?_
   · simp only [go_sem,reduceIte,reduceEqDiff,reduceAdd,reduceMul,reduceSub,reduceLeDiff,reduceLT,Nat.reduceBEq,reduceCtorEq,f11,f13,f2,f3,f4,f5,f6,f7,e9,hfl,hq4,hx,ern,er]
     done
   clear f2 f3 f4 f5 f6 f7 f11 f13
   rintro T H' M ⟨rfl,rfl,f2,f3,f4,f5,f6,f11⟩
   obtain ⟨tz,htz,hgz⟩:=S1.tk
   have hbw:=fun h=>bad H1 (hpf k (by rw [go];exact step_bad hK h)) a7 a8
   have hgd:=fun h1 h2=>step_good (n:=n) (i:=k) (r:=(partS s).drop (k+1)) hK hkk h1 h2
   obtain ⟨lv',L',u2,u3,N'⟩:=S1.ex
   generalize hX:(readT n (Tk.word ⟨splitL 32 l,false⟩).2 q).2=X at hgz hbw hgd
   obtain ⟨ws,wr⟩:=X
   simp only [TkC] at hgz
   have hw:=wrap_succ hk (by omega:(partS s).length≤maxRows)
   cases wr with
   | true =>
     have hb:=hbw (.inl rfl)
     simp only [go_sem,reduceIte,reduceEqDiff,reduceAdd,reduceMul,reduceSub,reduceLeDiff,reduceLT,Nat.reduceBEq,reduceCtorEq,f11,f2,f3,f4,f5,f6,hgz,a0,a1,a2,a4]
     exact ⟨a8,hb.2⟩
   | false =>
     cases ws with
     | cons w0 wr0 =>
       have hb:=hbw (.inr (by simp))
       have z0:((0:Int) < ((wr0.length+1:Nat):Int))=True:=by simp only [eq_iff_iff,iff_true];omega
       simp only [go_sem,reduceIte,reduceEqDiff,reduceAdd,reduceMul,reduceSub,reduceLeDiff,reduceLT,Nat.reduceBEq,reduceCtorEq,f11,f2,f3,f4,f5,f6,hgz,a0,a1,a2,a4,z0]
       exact ⟨a8,hb.2⟩
     | nil =>
       obtain ⟨g1,g2⟩:=hgd rfl rfl
       have sz':=read_sz (k1:=k1) (q:=q) sz hll g2
       have hfin:GP s (k+1) (H1.set 4 (.cells [.int .i64 ((k+1:Nat):Int)] 3)):=by
        have e:∀ j,j ≠ 4→(H1.set 4 (.cells [.int .i64 ((k+1:Nat):Int)] 3)).get j=H1.get j:=fun j hj=>by rw [Heap.get_set,if_neg hj]
        exact ⟨by simpa using aN,by rw [e 0 (by decide)];exact a0,by rw [e 1 (by decide)];exact a1,by rw [e 2 (by decide)];exact a2,by rw [Heap.get_set,if_pos rfl],⟨_,by rw [e 6 (by decide)];exact a6⟩,by rw [e 7 (by decide)];exact a7,(by rw [e 8 (by decide),a8];intro _ _ _ h;cases h),_,kindOf q,lv',L',u2,u3,by rw [e 5 (by decide)];exact a5,N'.keep (by simp) (e 3 (by decide)) fun i cs sz e' hi hc=>e i fun he=>(by rw [he,a4] at hc;cases hc),sz',by rw [go];exact g1⟩
       have z0:((0:Int) < 0)=False:=by simp
       simp only [go_sem,reduceIte,reduceEqDiff,reduceAdd,reduceMul,reduceSub,reduceLeDiff,reduceLT,Nat.reduceBEq,reduceCtorEq,f11,f2,f3,f4,f5,f6,hgz,a0,a1,a2,a4,a6,a8,hw,z0]
       exact hfin
 · intro hlw H4 g
   obtain ⟨n,k1,lv,L,t2,t3,h5,N,sz,go⟩:=g.ex
   rw [List.drop_length] at go
   have go:goG zNet 0 0 (partS s)=(n,k1,none):=go
   have hok:n.Ok:=sz.ok (by omega) (by omega)
   have e0:parseF s=if netP n=0 then (n,0,0) else (zNet,(((partS s).length:Nat):Int),netP n):=by
    unfold parseF;rw [if_neg hl,go,if_neg (by simpa using hlw)]
   have h0:=g.h0
   have h1:=g.h1
   have h2:=g.h2
   have h4:=g.h4
   have h7:=g.h7
   have hN:=g.n
   have hbp:=N.bp
   have hLl:L.length=n.lines.length:=by have:=congrArg List.length N.ls;simpa using this
   rw [e0]
   by_cases hL:L=[]
   · subst hL
     have hlv:lv=.ps .nil []:=by
      rcases N.lv with ⟨_,h⟩ | ⟨h,_⟩
      · exact h
      · exact absurd rfl h
     subst hlv
     have hn0:n.lines=[]:=by rw [← N.ls];rfl
     have eV:=view29 (v:=.ps .unk []) (t2:=.unk) (t3:=.unk) (H:=H4) (lo:=0) hok (by rw [hn0];rfl)
     by_cases hz:netP n=0
     · rw [if_pos hz]
       rw [hz] at eV
       have z0:((0:Int) < 0)=False:=by simp
       simp only [go_sem,reduceIte,reduceEqDiff,reduceAdd,reduceMul,reduceSub,reduceLeDiff,reduceLT,Nat.reduceBEq,reduceCtorEq,h0,h1,h2,h4,h7,hbp,eV]
       rw [W_loop]
       simp only [go_sem,reduceIte,reduceEqDiff,reduceAdd,reduceMul,reduceSub,reduceLeDiff,reduceLT,Nat.reduceBEq,reduceCtorEq,h0,h1,h2,h4,h7,hbp,z0,shutMarks_cons]
       have hd:∀ Hx:Heap,deep 6 Hx (.tup [.agg [.ps .nil [],.ps t2 (n.sws.map Sw.row),.ps t3 (n.sts.map Stc.row)],.int .i64 0,.int .i64 0])=some (.tup [.agg n.cells,.int .i64 0,.int .i64 0]):=fun Hx=>by
        rw [deep_out (d:=3) (ls:=n.lines) (by rw [hn0];rfl)];rfl
       exact hd _
     · rw [if_neg hz]
       have hz':=eq_false hz
       simp only [go_sem,reduceIte,reduceEqDiff,reduceAdd,reduceMul,reduceSub,reduceLeDiff,reduceLT,Nat.reduceBEq,reduceCtorEq,h0,h1,h2,h4,h7,hbp,eV,hz',shutMarks_cons]
       rfl
   obtain ⟨id,rfl,hidn,hid⟩:∃ id,lv=.rs id 0 L.length 2 none∧id < H4.n∧H4.get id=.row (lnCs L) 2 196:=by
    rcases N.lv with ⟨h,_⟩ | ⟨_,id,h,_,h2,h3⟩
    · exact absurd h hL
    · exact ⟨id,h,h2,h3⟩
   have eV:=view29 (v:=.rs id 0 L.length 2 none) (t2:=.unk) (t3:=.unk) (H:=H4) (lo:=0) hok (by rw [← N.ls];exact deep_lv N.lv 1)
   by_cases hz:netP n=0
   case neg =>
    rw [if_neg hz]
    have hz':=eq_false hz
    simp only [go_sem,reduceIte,reduceEqDiff,reduceAdd,reduceMul,reduceSub,reduceLeDiff,reduceLT,Nat.reduceBEq,reduceCtorEq,h0,h1,h2,h4,h7,hbp,eV,hz',shutMarks_cons]
    rfl
   rw [if_pos hz]
   rw [hz] at eV
   have hLs:=N.ls
   simp only [go_sem,reduceIte,reduceEqDiff,reduceAdd,reduceMul,reduceSub,reduceLeDiff,reduceLT,Nat.reduceBEq,reduceCtorEq,h0,h1,h2,h4,h7,hbp,eV]
   refine W_for (fun k T H M=>M=[7]∧getT T 2=.ptr 0 0∧getT T 3=.ptr 1 0∧getT T 4=.ptr 2 0∧getT T 5=.ptr 3 0∧getT T 92=.int .i64 (L.length:Nat)∧getT T 93=.int .i64 (k:Nat)∧9≤H.n∧H.get 0=.cells [.ps .nil [],.ps .nil [],.ps .nil []] 40∧H.get 1=.cells [.int .i64 0] 3∧H.get 2=.cells [.int .i64 0] 33∧H.get 7=.defr∧H.get 3=.cells [.rs id 0 L.length 2 none,.ps t2 (n.sws.map Sw.row),.ps t3 (n.sts.map Stc.row)] 40∧id < H.n ∧ ∃ K:List CT,K.map Prod.snd=n.lines.take k∧CPok H K∧H.get id=.row (cpCs K++lnCs (L.drop k)) 2 196) L.length ?_ ?_ ?_
   · simp only [go_sem,reduceIte,reduceEqDiff,reduceAdd,reduceMul,reduceSub,reduceLeDiff,reduceLT,Nat.reduceBEq,reduceCtorEq,h0,h1,h2,h4,h7,hbp,hN,hidn]
     exact ⟨[],rfl,(fun x hx=>by cases hx),by rw [hid];rfl⟩
   · rintro k T H M hk ⟨rfl,g2,g3,g4,g5,g92,g93,hN',b0,b1,b2,b7,b3,hin,K,hK,hcp,hidk⟩
     obtain ⟨tk,l,hat⟩:∃ tk l,L[k]? = some (tk,l):=⟨L[k].1,L[k].2,List.getElem?_eq_getElem hk⟩
     have hdr:L.drop k=(tk,l)::L.drop (k+1):=by
      rw [List.drop_eq_getElem_cons hk,(List.getElem?_eq_some_iff.1 hat).2]
     have hnl:n.lines[k]? = some l:=by rw [← hLs,List.getElem?_map,hat];rfl
     have hKl:K.length=k:=by
      have:=congrArg List.length hK
      simp only [List.length_map,List.length_take] at this
      omega
     have hfit:l.ps.length≤maxRows:=(hok.line l (List.mem_of_getElem? hnl)).2
     have hcl:(cpCs K).length=k * 2:=by rw [cpCs_len,hKl]
     rw [hdr] at hidk
     have hidk:H.get id=.row (cpCs K ++ .str l.name :: .ps tk (l.ps.map Pc.row)::lnCs (L.drop (k+1))) 2 196:=hidk
     have f1:(k * 2+1+1≤(cpCs K++AV.str l.name::AV.ps tk (l.ps.map Pc.row)::lnCs (L.drop (k+1))).length)=True:=by
      simp only [List.length_append,hcl,List.length_cons,eq_iff_iff,iff_true];omega
     have f2:=cons_drop1 (a:=AV.str l.name) (b:=.ps tk (l.ps.map Pc.row)) (C:=lnCs (L.drop (k+1))) hcl
     have f3:=cons_drop2 (a:=AV.str l.name) (b:=.ps tk (l.ps.map Pc.row)) (C:=lnCs (L.drop (k+1))) hcl
     have f4:=cons_take1 (a:=AV.str l.name) (b:=.ps tk (l.ps.map Pc.row)) (C:=lnCs (L.drop (k+1))) hcl
     have mk:=mk194 H hfit
     have cp:=cp194 (H:=H.push (.cells (List.replicate l.ps.length zPc).flatten 200)) (id:=H.n) (t:=tk) (l:=l.ps) (cap:=some l.ps.length) (by rw [Heap.get_push,if_pos rfl]) (rep_len _)
     have hw:=wrap_succ hk (by rw [hLl];exact hok.lines)
     have y0:(0=H.n)=False:=by simp only [eq_iff_iff,iff_false];omega
     have y1:(1=H.n)=False:=by simp only [eq_iff_iff,iff_false];omega
     have y2:(2=H.n)=False:=by simp only [eq_iff_iff,iff_false];omega
     have y3:(3=H.n)=False:=by simp only [eq_iff_iff,iff_false];omega
     have y7:(7=H.n)=False:=by simp only [eq_iff_iff,iff_false];omega
     have yi:(id=H.n)=False:=by simp only [eq_iff_iff,iff_false];omega
     have i0:(0=id)=False:=by simp only [eq_iff_iff,iff_false];intro h;rw [← h,b0] at hidk;cases hidk
     have i1:(1=id)=False:=by simp only [eq_iff_iff,iff_false];intro h;rw [← h,b1] at hidk;cases hidk
     have i2:(2=id)=False:=by simp only [eq_iff_iff,iff_false];intro h;rw [← h,b2] at hidk;cases hidk
     have i3:(3=id)=False:=by simp only [eq_iff_iff,iff_false];intro h;rw [← h,b3] at hidk;cases hidk
     have i7:(7=id)=False:=by simp only [eq_iff_iff,iff_false];intro h;rw [← h,b7] at hidk;cases hidk
     have hcs:cpCs K++[AV.str l.name]++[AV.rs H.n 0 l.ps.length 3 (some l.ps.length)]++lnCs (L.drop (k+1))=cpCs (K++[(H.n,l)])++lnCs (L.drop (k+1)):=by
      rw [cpCs_app];simp [cpCs]
     have n1:(9≤H.n+1)=True:=by simp only [eq_iff_iff,iff_true];omega
     have n2:(id < H.n+1)=True:=by simp only [eq_iff_iff,iff_true];omega
     simp only [go_sem,reduceIte,reduceEqDiff,reduceAdd,reduceMul,reduceSub,reduceLeDiff,reduceLT,Nat.reduceBEq,reduceCtorEq,op_mkSlice,op_copy,g2,g3,g4,g5,g92,g93,hk,b0,b1,b2,b3,b7,hidk,f1,f2,f3,f4,mk,cp,hw,y0,y1,y2,y3,y7,yi,i0,i1,i2,i3,i7,n1,n2]
     first
      | (refine ⟨K++[(H.n,l)], ?_, ?_, ?_⟩
         · rw [List.map_append,hK,List.take_add_one,hnl];rfl
         · intro x hx
           rcases List.mem_append.1 hx with hx | hx
           · obtain ⟨q1,q2⟩:=hcp x hx
             exact ⟨by simp;omega,by rw [Heap.get_set,if_neg (fun he=>by rw [he,hidk] at q2;cases q2),Heap.get_set,if_neg (by omega),Heap.get_push,if_neg (by omega)];exact q2⟩
           · obtain rfl:=List.mem_singleton.1 hx
             exact ⟨by simp,by rw [Heap.get_set,if_neg (by omega),Heap.get_set,if_pos rfl]⟩
         · rw [← hcs];first | done | rfl | simp)
   · rintro T H M ⟨rfl,g2,g3,g4,g5,g92,g93,hN',b0,b1,b2,b7,b3,hin,K,hK,hcp,hidk⟩
     have hdl:L.drop L.length=[]:=List.drop_length
     have hidk:H.get id=.row (cpCs K) 2 196:=by
      rw [hidk,hdl];show ABlk.row (cpCs K++[]) 2 196=_
      rw [List.append_nil]
     rw [hLl,List.take_length] at hK
     have hKl:K.length=L.length:=by rw [hLl,← hK,List.length_map]
     have hd:∀ Hx:Heap,H.n≤Hx.n→(∀ i,i ≠ 0→i ≠ 1→i ≠ 2→i ≠ 7→Hx.get i=H.get i)→deep 6 Hx (.tup [.agg [.rs id 0 L.length 2 none,.ps t2 (n.sws.map Sw.row),.ps t3 (n.sts.map Stc.row)],.int .i64 0,.int .i64 0])=some (.tup [.agg n.cells,.int .i64 0,.int .i64 0]):=fun Hx hnx hx=>by
      have hid2:Hx.get id=.row (cpCs K) 2 196:=by
       rw [hx id (fun he=>by rw [he,b0] at hidk;cases hidk) (fun he=>by rw [he,b1] at hidk;cases hidk) (fun he=>by rw [he,b2] at hidk;cases hidk) (fun he=>by rw [he,b7] at hidk;cases hidk)];exact hidk
      have hcp2:CPok Hx K:=hcp.keep hnx fun i cs hi hc=>hx i (fun he=>by rw [he,b0] at hc;cases hc) (fun he=>by rw [he,b1] at hc;cases hc) (fun he=>by rw [he,b2] at hc;cases hc) (fun he=>by rw [he,b7] at hc;cases hc)
      have e:=deep_cp hid2 hcp2 1
      rw [hKl,hK] at e
      rw [deep_out (d:=3) e];rfl
     simp only [go_sem,reduceIte,reduceEqDiff,reduceAdd,reduceMul,reduceSub,reduceLeDiff,reduceLT,Nat.reduceBEq,reduceCtorEq,g2,g3,g4,g5,g92,g93,b0,b1,b2,b3,b7,Nat.lt_irrefl,shutMarks_cons]
     first
      | (refine hd _ (by simp) fun i x0 x1 x2 x7 => ?_
         simp only [Heap.get_set,x0,x1,x2,x7,if_false])
 · rintro e H3 he ⟨rfl,h7,h0,i,h1,h2,hp⟩
   rw [hp]
   simp only [go_sem,reduceIte,reduceEqDiff,reduceAdd,reduceMul,reduceSub,reduceLeDiff,reduceLT,Nat.reduceBEq,reduceCtorEq,h7,h0,h1,h2,shutMarks_cons]
   rfl
end Go.Sim

/-
Texts: Parse by the program, as it is known to the laws.
-/
namespace Go.Sim
open Go Go.Proofs
set_option maxRecDepth 100000
set_option maxHeartbeats 16000000
theorem c88 (s:Wd) (hs:s.length+1≤maxRows) (lo:Nat) (H:Heap):CallOk NC lo 88 [.str s] H (.tup [.agg (parseF s).1.cells,.int .i64 (parseF s).2.1,.int .i64 (parseF s).2.2]) H:=by
 obtain ⟨v,H',h1,h2⟩:=w88run s hs
 exact view_ok (C:=NC) wp_sane rfl rfl h1 rfl h2 lo H
noncomputable def p88:List AV→Option AV:=primOf (α:=List Nat) (fun x=>[.str x]) (fun x=>x.length+1≤maxRows) (fun x=>.tup [.agg (parseF x).1.cells,.int .i64 (parseF x).2.1,.int .i64 (parseF x).2.2])
theorem pok88:∀ args v,p88 args=some v → ∀ lo H,CallOk NC lo 88 args H v H:=by
 intro args v h
 obtain ⟨x,rfl,hp,rfl⟩:=primOf_inv h
 clear h
 revert x
 intro x hp;exact c88 x hp
theorem pe88 (x:List Nat) (hp:(fun x=>x.length+1≤maxRows) x):p88 ((fun x=>[.str x]) x)=some ((fun x=>.tup [.agg (parseF x).1.cells,.int .i64 (parseF x).2.1,.int .i64 (parseF x).2.2]) x):=primOf_enc (by intro x y h;exact strs1_inj x y h) x hp
end Go.Sim

/-
The law: NetworkTexts returns true.
-/
namespace Go.Sim
open Go Go.Proofs
set_option maxRecDepth 100000
set_option maxHeartbeats 16000000
noncomputable def PPF14:FuncId→Option (List AV→Option AV):=addPrim 92 p92 (addPrim 91 p91 (addPrim 90 p90 (addPrim 89 p89 (addPrim 88 p88 (addPrim 87 p87 (addPrim 22 p22 (addPrim 19 p19 (addPrim 17 p17 (addPrim 16 p16 (fun _=>none))))))))))
theorem primsF14:PrimsOk NC PPF14:=primsOk_add (primsOk_add (primsOk_add (primsOk_add (primsOk_add (primsOk_add (primsOk_add (primsOk_add (primsOk_add (primsOk_add (primsOk_none) (by kernel_rfl) (by kernel_rfl) pok16) (by kernel_rfl) (by kernel_rfl) pok17) (by kernel_rfl) (by kernel_rfl) pok19) (by kernel_rfl) (by kernel_rfl) pok22) (by kernel_rfl) (by kernel_rfl) pok87) (by kernel_rfl) (by kernel_rfl) pok88) (by kernel_rfl) (by kernel_rfl) pok89) (by kernel_rfl) (by kernel_rfl) pok90) (by kernel_rfl) (by kernel_rfl) pok91) (by kernel_rfl) (by kernel_rfl) pok92
theorem enF14_16:En PPF14 16 p16:=enter_prim (by rfl) (by kernel_rfl)
theorem enF14_17:En PPF14 17 p17:=enter_prim (by rfl) (by kernel_rfl)
theorem enF14_19:En PPF14 19 p19:=enter_prim (by rfl) (by kernel_rfl)
theorem enF14_22:En PPF14 22 p22:=enter_prim (by rfl) (by kernel_rfl)
theorem enF14_87:En PPF14 87 p87:=enter_prim (by rfl) (by kernel_rfl)
theorem enF14_88:En PPF14 88 p88:=enter_prim (by rfl) (by kernel_rfl)
theorem enF14_89:En PPF14 89 p89:=enter_prim (by rfl) (by kernel_rfl)
theorem enF14_90:En PPF14 90 p90:=enter_prim (by rfl) (by kernel_rfl)
theorem enF14_91:En PPF14 91 p91:=enter_prim (by rfl) (by kernel_rfl)
theorem enF14_92:En PPF14 92 p92:=enter_prim (by rfl) (by kernel_rfl)
attribute [go_sem ↓] enF14_16 enF14_17 enF14_19 enF14_22 enF14_87 enF14_88 enF14_89 enF14_90 enF14_91 enF14_92
theorem c14 (n:Net) (s:List Nat):∀ lo H,CallOk NC lo 14 [.agg n.cells,.str s] H (.bool true) H:=by
 refine contract saneNC primsF14 (fn:=Tryz.f14) (by kernel_rfl) Tryz.func14 rfl rfl (by rfl) (by rfl) ?_
 have e17:=pe17 n trivial
 simp only [Net.cells] at e17
 cases hS:shortN n with
 | false =>
   simp only [hS] at e17
   simp only [go_sem,reduceIte,reduceEqDiff,reduceAdd,reduceMul,reduceSub,reduceLeDiff,reduceLT,Nat.reduceBEq,reduceCtorEq,Net.cells,e16,e17]
 | true =>
 simp only [hS] at e17
 have hlen:((400:Int) < s.length∧((s.length:Int)=4097)=False)∨s.length≤4097∧(((400:Int) < s.length)=False∨(((400:Int) < s.length)=True∧((s.length:Int)=4097)=True)):=by
  by_cases h1:(400:Int) < s.length
  · by_cases h2:(s.length:Int)=4097
    · exact .inr ⟨by omega,.inr ⟨eq_true h1,eq_true h2⟩⟩
    · exact .inl ⟨h1,eq_false h2⟩
  · exact .inr ⟨by omega,.inl (eq_false h1)⟩
 rcases hlen with ⟨q1,q2⟩ | ⟨hle,q⟩
 · have q1':=eq_true q1
   simp only [go_sem,reduceIte,reduceEqDiff,reduceAdd,reduceMul,reduceSub,reduceLeDiff,reduceLT,Nat.reduceBEq,reduceCtorEq,Net.cells,e16,e17,q1',q2]
 have hok:=short_ok hS
 have hs1:s.length+1≤maxRows:=by unfold maxRows;omega
 have e19:=pe19 n ⟨hok.fits,hok.sws,hok.sts⟩
 have e22:=pe22 n ⟨hok.fits,hok.sws,hok.sts⟩
 have e87:p87 [.agg n.cells]=some (.tup [.str (if netP n=0 then printF n else []),i64 (netP n)]):=pe87 n ⟨hok,fun h=>print_len hS h⟩
 have e88:p88 [.str s]=some (.tup [.agg (parseF s).1.cells,.int .i64 (parseF s).2.1,.int .i64 (parseF s).2.2]):=pe88 s hs1
 have e90:p90 [.str s]=some (.tup [.agg (parseF s).1.cells,.int .i64 (parseF s).2.1,.int .i64 (parseF s).2.2]):=pe90 s hs1
 have hpo:=parse_ok s
 have e92:=pe92 (parseF s).1 ⟨hpo.fits,hpo.sws,hpo.sts⟩
 have e91:=pe91 (parseF s).1 ⟨hpo.fits,hpo.sws,hpo.sts⟩
 generalize parseF s=X at e88 e90 e91 e92
 obtain ⟨m,a,b⟩:=X
 simp only [Net.cells,i64,net_same] at e19 e22 e87 e88 e90 e91 e92
 rcases Classical.propComplete (netR n=0) with z | z
 · have hz:netP n=0:=by rw [net_same];exact of_eq_true z
   have e89:p89 [.agg n.cells]=some (.str (printF n)):=pe89 n ⟨hok,prOk hz,print_len hS hz⟩
   simp only [Net.cells] at e89
   have hz':=of_eq_true z
   simp only [hz',if_true] at e22 e87
   have hbs:=beqL_self (printF n)
   rcases q with q | ⟨q,q'⟩
   · simp only [go_sem,reduceIte,reduceEqDiff,reduceAdd,reduceMul,reduceSub,reduceLeDiff,reduceLT,Nat.reduceBEq,reduceCtorEq,Net.cells,e16,e17,q,e19,e22,e87,e88,e89,e90,e91,e92,hbs,eqI_self]
   · simp only [go_sem,reduceIte,reduceEqDiff,reduceAdd,reduceMul,reduceSub,reduceLeDiff,reduceLT,Nat.reduceBEq,reduceCtorEq,Net.cells,e16,e17,q,q',e19,e22,e87,e88,e89,e90,e91,e92,hbs,eqI_self]
 · simp only [z,if_false] at e87
   have hbs:=beqL_self ([]:List Nat)
   rcases q with q | ⟨q,q'⟩
   · simp only [go_sem,reduceIte,reduceEqDiff,reduceAdd,reduceMul,reduceSub,reduceLeDiff,reduceLT,Nat.reduceBEq,reduceCtorEq,Net.cells,e16,e17,q,e19,e22,e87,e88,e90,e91,e92,hbs,eqI_self,z]
   · simp only [go_sem,reduceIte,reduceEqDiff,reduceAdd,reduceMul,reduceSub,reduceLeDiff,reduceLT,Nat.reduceBEq,reduceCtorEq,Net.cells,e16,e17,q,q',e19,e22,e87,e88,e90,e91,e92,hbs,eqI_self,z]
end Go.Sim
