/-
Lemmas of one proof, the texts Acc3 to Ft3 joined.
-/
import Derived.Test.YtklnellnfbmokaaGreatT13
set_option linter.unusedSimpArgs false
set_option linter.unusedVariables false
open Nat (reduceEqDiff reduceAdd reduceMul reduceSub reduceLeDiff reduceLT)

namespace Go.Sim
open Go Go.Proofs
open Go.Sim.Pos (Nm Trk Flt Trn Pos Mch Reg Ev Len flat_len flat_take flat_drop flat_at)
set_option maxRecDepth 100000
set_option maxHeartbeats 4000000
theorem r_undo {H:Heap} {hb:Nat} {es cs:List Ev} {r:Reg} {V:RegV} {vE vC:AV} (h:HisIs H hb es cs r V vE vC) {num:Int}:∃ w H2,R PT (.call H.n 46 [.ptr hb 0,.agg (evC num Pos.kUndo [] [] [])] H)=some (.ofVal w H2)∧w=.int .i64 (Pos.accJ ⟨cs,r⟩ es.length ⟨num,Pos.kUndo,[],[],[]⟩):=by
 refine R_of_body (C:=PT) (f:=46) (lo:=H.n) (args:=[.ptr hb 0,.agg (evC num Pos.kUndo [] [] [])]) (H:=H) (fn:=Tryz.f46) (Q:=fun w _=>w=.int .i64 (Pos.accJ ⟨cs,r⟩ es.length ⟨num,Pos.kUndo,[],[],[]⟩)) (by kernel_rfl) Tryz.func46 rfl rfl ?_
 have hh0:=fun H'=>h.h0 (H':=H')
 have hh1:=fun H'=>h.h1 (H':=H')
 have nE:=fun H'=>(sv_sl h.aE).len (t:=25) (by kernel_rfl) H'
 have nC:=fun H'=>(sv_sl h.aC).len (t:=25) (by kernel_rfl) H'
 simp only [List.length_map] at nE nC
 have uE:=fun n (hn:H.n≤n)=>(sv_sl h.aE).under hn
 have uC:=fun n (hn:H.n≤n)=>(sv_sl h.aC).under hn
 have hbn:=eq_true h.reg.bn
 have hw:wrapq .i64 (Int.add (es.length:Int) 1)=(es.length:Int)+1:=by
  have:=h.lE
  exact wrap_nat (n:=es.length+1) (by omega)
 have hku:beqL Pos.kUndo [117,110,100,111]=true:=by decide
 unfold Pos.accJ
 by_cases c1:¬ num=(es.length:Int)+1
 · rw [if_pos c1]
   simp (config:={ maxDischargeDepth:=12 }) only [go_sem,reduceIte,reduceEqDiff,reduceAdd,reduceMul,reduceSub,reduceLeDiff,reduceLT,Nat.reduceBEq,reduceCtorEq,hh0,nE,uE,hbn,hw,c1]
 rw [if_neg c1,if_pos rfl]
 have c1:=Decidable.not_not.1 c1
 rcases List.eq_nil_or_concat cs with rfl | ⟨ds,l,rfl⟩
 · have e0:((([]:List Ev).length:Nat):Int)=0:=rfl
   rw [e0] at nC
   simp (config:={ maxDischargeDepth:=12 }) only [go_sem,reduceIte,reduceEqDiff,reduceAdd,reduceMul,reduceSub,reduceLeDiff,reduceLT,Nat.reduceBEq,reduceCtorEq,hh0,hh1,nE,nC,uE,uC,hbn,hw,eq_true c1,hku]
   rfl
 · rw [List.concat_eq_append] at *
   have hlen:(ds++[l]).length=ds.length+1:=by simp
   rw [hlen] at nC
   have hlC:=h.lC
   rw [hlen] at hlC
   have hne:((ds.length+1:Nat):Int) ≠ 0:=by omega
   have hne':=eq_false hne
   have hw2:wrapq .i64 (Int.sub ((ds.length+1:Nat):Int) 1)=(ds.length:Int):=wrap_pred (k:=ds.length+1) (by omega) (Nat.le_refl _) (by unfold maxRows;omega)
   have hx:=(sv_sl h.aC).idx (t:=25) (by kernel_rfl) (by kernel_rfl) (rows_Len (by intro x;rfl) _) (by rw [List.length_map,hlen];omega:ds.length < _) .i64
   obtain ⟨id,he,hid,hf,_⟩:=el_SV h.aC (rows_Len (by intro x;rfl) _) (i:=ds.length) (row:=l.row) (by rw [List.getElem?_map];simp)
   have hk1:=fun H' (ho:Old H.n H H')=>hf ho (k:=1) (c:=.str l.kind) (t:=9) rfl (by kernel_rfl) (by kernel_rfl)
   have hidt:=eq_true hid
   have hlast:(ds++[l]).getLast? = some l:=by simp
   have hJ:(match (ds++[l]).getLast? with | none=>(12:Int) | some l=>if l.kind=Pos.kEnter∨l.kind=Pos.kReturn then 21 else 0)=if l.kind=Pos.kEnter∨l.kind=Pos.kReturn then 21 else 0:=by rw [hlast]
   rw [hlast]
   simp only
   have eE:beqL l.kind [101,110,116,101,114]=decide (l.kind=Pos.kEnter):=beqL_dec _ _
   have eR:beqL l.kind [114,101,116,117,114,110]=decide (l.kind=Pos.kReturn):=beqL_dec _ _
   have hz:(ds.length+1=0)=False:=eq_false (by omega)
   by_cases k1:l.kind=Pos.kEnter
   · have k1':decide (l.kind=Pos.kEnter)=true:=decide_eq_true k1
     rw [if_pos (show l.kind=Pos.kEnter∨l.kind=Pos.kReturn from .inl k1)]
     simp (config:={ maxDischargeDepth:=12 }) only [go_sem,reduceIte,reduceEqDiff,reduceAdd,reduceMul,reduceSub,reduceLeDiff,reduceLT,Nat.reduceBEq,reduceCtorEq,hh0,hh1,nE,nC,uE,uC,hbn,hw,eq_true c1,hku,hne',hw2,hx,he,hk1,hidt,eE,eR,k1',pe41,hz]
     rfl
   · by_cases k2:l.kind=Pos.kReturn
     · rw [if_pos (show l.kind=Pos.kEnter∨l.kind=Pos.kReturn from .inr k2)]
       have k1':decide (l.kind=Pos.kEnter)=false:=decide_eq_false k1
       have k2':decide (l.kind=Pos.kReturn)=true:=decide_eq_true k2
       simp (config:={ maxDischargeDepth:=12 }) only [go_sem,reduceIte,reduceEqDiff,reduceAdd,reduceMul,reduceSub,reduceLeDiff,reduceLT,Nat.reduceBEq,reduceCtorEq,hh0,hh1,nE,nC,uE,uC,hbn,hw,eq_true c1,hku,hne',hw2,hx,he,hk1,hidt,eE,eR,k1',k2',pe41,hz]
       rfl
     · rw [if_neg (show ¬ (l.kind=Pos.kEnter∨l.kind=Pos.kReturn) from fun h=>h.elim k1 k2)]
       have k1':decide (l.kind=Pos.kEnter)=false:=decide_eq_false k1
       have k2':decide (l.kind=Pos.kReturn)=false:=decide_eq_false k2
       simp (config:={ maxDischargeDepth:=12 }) only [go_sem,reduceIte,reduceEqDiff,reduceAdd,reduceMul,reduceSub,reduceLeDiff,reduceLT,Nat.reduceBEq,reduceCtorEq,hh0,hh1,nE,nC,uE,uC,hbn,hw,eq_true c1,hku,hne',hw2,hx,he,hk1,hidt,eE,eR,k1',k2',pe41,hz]
       rfl
theorem r_accJ (nm:Nm→Bool) {H:Heap} {hb:Nat} {es cs:List Ev} {r:Reg} {V:RegV} {vE vC:AV} (h:HisIs H hb es cs r V vE vC) (S:Pos.Safe r) {e:Ev} (hc:Pos.chkE nm e=0):∃ w H2,R PT (.call H.n 46 [.ptr hb 0,.agg e.row] H)=some (.ofVal w H2)∧w=.int .i64 (Pos.accJ ⟨cs,r⟩ es.length e):=by
 by_cases hu:e.kind=Pos.kUndo
 · have he:=Pos.chk_undo nm hc hu
   rw [he]
   exact r_undo h
 obtain ⟨tk,a,ha,he,h0,h9⟩:=Pos.chk_ev nm hc hu
 obtain ⟨_,_,_,_,_,_,hv,_⟩:=Pos.chk_form nm hc
 have hJ:Pos.accJ ⟨cs,r⟩ es.length e=if e.num ≠ (es.length:Int)+1 then 11 else Pos.okA r tk a:=by
  unfold Pos.accJ
  rw [if_neg hu]
  simp only [ha]
 rw [hJ]
 clear hJ hc hu
 generalize e.num=num at he ⊢
 cases a<;>(simp only [he,Pos.evOf] at hv ⊢;clear he)
 case track=>exact a_Track h S
 case fault=>exact a_Fault h S (hv _ (by simp)).1
 case answer=>exact a_Answer h S
 case repair=>exact a_Repair h S
 case enter=>exact a_Enter h S
 case leave=>exact a_Leave h S
 case take=>exact a_Take h S
 case prot=>exact a_Prot h S
 case clear=>exact a_Clear h S
 case into=>exact a_In h S
 case out=>exact a_Out h S
 case staff=>exact a_Staff h S (hv _ (by simp))
 case off=>exact a_Off h S
 case opn=>exact a_Open h S
 case close=>exact a_Close h S
 case ret=>exact a_Return h S
 case raise=>exact a_Raise h S (hv _ (by simp)).1
theorem e_accepts (nm : Nm → Bool) {H : Heap} {hb : Nat} {es cs : List Ev} {r : Reg} {V : RegV} {vE vC : AV} (h : HisIs H hb es cs r V vE vC) (S : Pos.Safe r) {e : Ev} (hc : Pos.chkE nm e = 0) {Hc : Heap} (ho : Old H.n H Hc) {lo : Nat} {K : AV → Heap → Prop} : VO (aenter PT (R PT) lo 46 [.ptr hb 0, .agg e.row] Hc) K = K (.int .i64 (Pos.accJ ⟨cs, r⟩ es.length e)) Hc := by
 obtain ⟨w, H2, h1, h2⟩ := r_accJ nm (h.old ho) S hc
 exact enter_p (en46 rfl) ⟨H2, h1⟩ (by rw [h2]; rfl) rfl
noncomputable def sst (lo:Nat) (H:Heap) (t:TypeId) (a v:AV):Option Heap:=astore NC.P lo H t a v
section
variable {rec:Rec} {fid lo:Nat} {T:TT AV} {H:Heap} {K:AV→Heap→Prop} {d:Option Tmp} {t:TypeId} {p:String} {af:Array Edge} {gd:Option (Nat × Bool)}
theorem op_stS (t':TypeId) (a x:Operand):VO (aop PT rec fid lo ⟨d,.store t' a x,t,p,af,gd⟩ T H) K=AO (evalO PT T a) fun a=>AO (evalO PT T x) fun x=>AO (sst lo H t' a x) fun H=>K aundef H:=op_store t' a x
end
attribute [go_sem ↓ 2000] op_stS
theorem sst_ptr (lo:Nat) (H:Heap) (t:TypeId) (a b:Nat) (v:AV):sst lo H t (.ptr a b) v=astore NC.P lo H t (.ptr a b) v:=rfl
attribute [go_sem 100] sst_ptr
structure Chg (lo b:Nat) (X:ABlk→Prop) (H H':Heap):Prop where
 n:H.n≤H'.n
 ch:∀ i,i < H.n→H'.get i=H.get i∨(lo≤i∧(i=b∨X (H.get i)))
def rowX (sz:Nat) (te:TypeId):ABlk→Prop:=fun x=>∃ cs,x=.row cs sz te
def rowsX:ABlk→Prop:=fun x=>∃ cs sz te,x=.row cs sz te
theorem Chg.mono {lo b:Nat} {X Y:ABlk→Prop} {H H':Heap} (c:Chg lo b X H H') (h:∀ x,X x→Y x):Chg lo b Y H H' :=
 ⟨c.n,fun i hi=>(c.ch i hi).imp id fun ⟨a,d⟩=>⟨a,d.imp id (h _)⟩⟩
theorem Chg.old {lo b:Nat} {X:ABlk→Prop} {H H':Heap} (c:Chg lo b X H H') (hl:lo≤H.n):Old lo H H' :=
 ⟨Nat.le_trans hl c.n,fun i hi=>(c.ch i (by omega)).elim id fun h=>absurd h.1 (by omega)⟩
theorem Chg.refl {lo b:Nat} {X:ABlk→Prop} (H:Heap):Chg lo b X H H:=⟨Nat.le_refl _,fun _ _=>.inl rfl⟩
theorem Chg.push {lo b:Nat} {X:ABlk→Prop} {H H':Heap} (c:Chg lo b X H H') (x:ABlk):Chg lo b X H (H'.push x) :=
 ⟨by simp;have:=c.n;omega,fun i hi=>by rw [Heap.get_push,if_neg (by have:=c.n;omega)];exact c.ch i hi⟩
theorem Chg.set {lo b:Nat} {X:ABlk→Prop} {H H':Heap} (c:Chg lo b X H H') {j:Nat} (hj:lo≤j) (h:j=b∨X (H.get j)∨H.n≤j) (x:ABlk):Chg lo b X H (H'.set j x) :=
 ⟨by simpa using c.n,fun i hi=>by
   rw [Heap.get_set]
   split
   · rename_i he
     subst he
     rcases h with h | h | h
     · exact .inr ⟨hj,.inl h⟩
     · exact .inr ⟨hj,.inr h⟩
     · omega
   · exact c.ch i hi⟩
theorem Chg.to {lo b:Nat} {X:ABlk→Prop} {H H1 H2:Heap} (c:Chg lo b X H H1) (d:Chg lo b X H1 H2):Chg lo b X H H2 :=
 ⟨Nat.le_trans c.n d.n,fun i hi=>by
   rcases c.ch i hi with h | h
   · rcases d.ch i (Nat.lt_of_lt_of_le hi c.n) with h2 | ⟨h2,h3⟩
     · exact .inl (h2.trans h)
     · exact .inr ⟨h2,by rw [← h];exact h3⟩
   · exact .inr h⟩
theorem Chg.cells {lo b:Nat} {H H':Heap} (c:Chg lo b rowsX H H') {i:Nat} {cs:List AV} {e:TypeId} (hi:i < H.n) (hb:i ≠ b) (h:H.get i=.cells cs e):H'.get i=.cells cs e:=by
 rcases c.ch i hi with h2 | ⟨_,h2 | ⟨_,_,_,h2⟩⟩
 · rw [h2,h]
 · exact absurd h2 hb
 · rw [h] at h2;cases h2
def PW (lo:Nat) (H:Heap) (v:AV) (sz:Nat) (te:TypeId) (rows:List (List AV)):Prop:=∃ t,v=.ps t rows∧AppB lo H t rows sz te
def SW (lo:Nat) (H:Heap) (v:AV) (sz:Nat) (te:TypeId) (rows:List (List AV)):Prop:=Pos.SV sz te H v rows ∧ ∀ i a b c d,v=.rs i a b c d→lo≤i
theorem PW.pa {lo sz:Nat} {te:TypeId} {H:Heap} {v:AV} {rows:List (List AV)} (h:PW lo H v sz te rows):PA H v sz te rows:=by
 obtain ⟨t,h1,h2 | ⟨j,h2,h3,h4,h5⟩⟩:=h
 · exact ⟨t,h1,.inl h2⟩
 · exact ⟨t,h1,.inr ⟨j,h2,h3,Nat.zero_le _,h5⟩⟩
theorem PW.chg {lo b sz':Nat} {X:ABlk→Prop} {te':TypeId} {H H':Heap} {v:AV} {rows:List (List AV)} (h:PW lo H v sz' te' rows) (c:Chg lo b X H H') (hne:∀ cs,¬ X (.row cs sz' te')) (hb:∃ cs e,H.get b=.cells cs e):PW lo H' v sz' te' rows:=by
 obtain ⟨t,h1,h2 | ⟨j,h2,h3,h4,h5,h6⟩⟩:=h
 · exact ⟨t,h1,.inl h2⟩
 · refine ⟨t,h1,.inr ⟨j,h2,h3,h4,Nat.lt_of_lt_of_le h5 c.n, ?_⟩⟩
   rcases c.ch j h5 with h7 | ⟨_,rfl | h7⟩
   · rw [h7,h6]
   · obtain ⟨cs,e,hb⟩:=hb
     rw [h6] at hb;cases hb
   · rw [h6] at h7
     exact absurd h7 (hne _)
theorem sv_chg {lo b sz':Nat} {X:ABlk→Prop} {te':TypeId} {H H':Heap} {v:AV} {rows:List (List AV)} (h:Pos.SV sz' te' H v rows) (c:Chg lo b X H H') (hne:∀ cs,¬ X (.row cs sz' te')) (hb:∃ cs e,H.get b=.cells cs e):Pos.SV sz' te' H' v rows:=by
 rcases h with h | ⟨id,cs,m,h1,h2,h3,h4⟩
 · exact .inl h
 · refine .inr ⟨id,cs,m,h1,Nat.lt_of_lt_of_le h2 c.n, ?_,h4⟩
   rcases c.ch id h2 with h7 | ⟨_,rfl | h7⟩
   · rw [h7,h3]
   · obtain ⟨cs,e,hb⟩:=hb
     rw [h3] at hb;cases hb
   · rw [h3] at h7
     exact absurd h7 (hne _)
theorem SW.chg {lo b sz':Nat} {X:ABlk→Prop} {te':TypeId} {H H':Heap} {v:AV} {rows:List (List AV)} (h:SW lo H v sz' te' rows) (c:Chg lo b X H H') (hne:∀ cs,¬ X (.row cs sz' te')) (hb:∃ cs e,H.get b=.cells cs e):SW lo H' v sz' te' rows:=⟨sv_chg h.1 c hne hb,h.2⟩
theorem app_w {lo sz b:Nat} {te:TypeId} {H:Heap} {v:AV} {rows:List (List AV)} (h:PW lo H v sz te rows) (hlo:lo≤H.n) {r:List AV} (h1:rows.length+1≤maxRows) (h2:pureRow r=true) (h2':r.map AV.strip0=r) (h3:0 < sz) (h4:Len sz rows) :
 ∃ v' H',appP lo H sz te v [r]=some (v',H')∧PW lo H' v' sz te (rows++[r])∧Chg lo b (rowX sz te) H H':=by
 have h4':rows.all (fun r=>r.length=sz)=true:=List.all_eq_true.2 fun x hx=>decide_eq_true (h4 x hx)
 obtain ⟨t,rfl,⟨rfl,rfl⟩ | ⟨j,rfl,h6,hj,h7,h8⟩⟩:=h
 · refine ⟨.ps (.tok H.n) ([]++[r]),H.push (.row [] sz te), ?_,⟨_,rfl,.inr ⟨H.n,rfl,by simp,hlo,by simp,by rw [Heap.get_push,if_pos rfl]⟩⟩,(Chg.refl H).push _⟩
   have:=app_first (lo:=lo) (H:=H) (e:=te) (sz:=sz) (rx:=[r]) (by simp) (by show 1≤1073741824;decide) (by simp [h2]) h3
   rw [this]
   simp [h2']
 · refine ⟨.ps (.tok H.n) (rows++[r]),(H.set j .dead).push (.row [] sz te), ?_,⟨_,rfl,.inr ⟨H.n,rfl,by simp,hlo,by simp,by rw [Heap.get_push,if_pos (by simp)]⟩⟩,((Chg.refl H).set hj (.inr (.inl ⟨[],h8⟩)) _).push _⟩
   have:=app_next (lo:=lo) (H:=H) (e:=te) (sz:=sz) (rows:=rows) (rx:=[r]) (k:=j) (by simp) (by simpa using h1) (by simp [h2]) h3 h4' h8 hj h6
   rw [this]
   simp [h2']
theorem app_s {lo sz b:Nat} {te:TypeId} {H:Heap} {v:AV} {rows:List (List AV)} (r:List AV) (h:SW lo H v sz te rows) (hlo:lo≤H.n) (hL:Len sz rows) (hr:r.length=sz) (ho:r.all AV.one=true) (hs:0 < sz) (hm:rows.length+1≤maxRows) :
 ∃ v' H',appR lo H sz te v [r]=some (v',H')∧SW lo H' v' sz te (rows++[r])∧Chg lo b (rowX sz te) H H':=by
 have hf:=flat_len hL
 obtain ⟨h,hid⟩:=h
 rcases h with ⟨rfl,rfl⟩ | ⟨id,cs,m,rfl,h2,h3,h4⟩
 · refine ⟨.rs H.n 0 1 sz none,H.push (.row r sz te), ?_,⟨.inr ⟨H.n,[],0,rfl,by simp,by rw [Heap.get_push,if_pos rfl];simp,by simp⟩,fun i a b c d he=>by cases he;exact hlo⟩,(Chg.refl H).push _⟩
   unfold appR
   simp only [Tok.full,List.length_nil,Nat.zero_add,List.length_cons,List.all_cons,ho,List.all_nil,hs,decide_true,Bool.and_true,Bool.true_and]
   rw [if_pos (by simpa using hm)]
   simp
 · have hil:=hid _ _ _ _ _ rfl
   by_cases hc:m=0
   · subst hc
     have hcs:cs=[]:=List.length_eq_zero_iff.1 (by omega)
     subst hcs
     rw [List.append_nil] at h3
     refine ⟨.rs H.n 0 (rows.length+1) sz none,(H.set id .dead).push (.row (rows++[r]).flatten sz te), ?_,⟨.inr ⟨H.n,[],0,by simp,by simp,by rw [Heap.get_push,if_pos (by simp)];simp,by simp⟩,fun i a b c d he=>by cases he;exact hlo⟩,((Chg.refl H).set hil (.inr (.inl ⟨_,h3⟩)) _).push _⟩
     unfold appR
     simp only [List.length_cons,List.length_nil,Nat.zero_add,List.all_cons,ho,List.all_nil,hs,hil,decide_true,Bool.and_true,Option.isNone_none,h3,hf,if_true]
     rw [if_pos (by simpa using hm)]
     simp
   · have hm1:sz≤cs.length:=by
      rw [h4]
      calc sz=1 * sz:=(Nat.one_mul _).symm
       _≤m * sz:=Nat.mul_le_mul_right _ (by omega)
     have hov:=Pos.over_app (A:=rows.flatten) (B:=cs) (r:=r)
     rw [hf] at hov
     refine ⟨.rs id 0 (rows.length+1) sz none,H.set id (.row ((rows++[r]).flatten++cs.drop sz) sz te), ?_,⟨.inr ⟨id,cs.drop sz,m - 1,by simp,by simpa using h2,by rw [Heap.get_set,if_pos rfl],by rw [List.length_drop,h4,Nat.sub_mul];omega⟩,fun i a b c d he=>by cases he;exact hil⟩,(Chg.refl H).set hil (.inr (.inl ⟨_,h3⟩)) _⟩
     unfold appR
     simp only [List.length_cons,List.length_nil,Nat.zero_add,List.all_cons,ho,List.all_nil,hs,hil,decide_true,Bool.and_true,Option.isNone_none,h3,if_true]
     rw [if_pos (by simpa using hm)]
     have c1':¬ (rows.length * sz=(rows.flatten++cs).length):=by rw [List.length_append,hf];omega
     have c2':(rows.length+1) * sz≤(rows.flatten++cs).length:=by rw [List.length_append,hf,Nat.succ_mul];omega
     simp only [c1',c2',decide_true,decide_false,Bool.and_false,Bool.and_true,Bool.false_eq_true,if_false,if_true]
     have:[r].flatten=r:=by simp
     rw [this,hov,hr]
     simp
theorem PW.old {lo sz:Nat} {te:TypeId} {H H':Heap} {v:AV} {rows:List (List AV)} (h:PW lo H v sz te rows) (ho:Old H.n H H'):PW lo H' v sz te rows:=by
 obtain ⟨t,h1,h2 | ⟨j,h2,h3,h4,h5,h6⟩⟩:=h
 · exact ⟨t,h1,.inl h2⟩
 · exact ⟨t,h1,.inr ⟨j,h2,h3,h4,Nat.lt_of_lt_of_le h5 ho.1,by rw [ho.2 j h5];exact h6⟩⟩
theorem SW.old {lo sz:Nat} {te:TypeId} {H H':Heap} {v:AV} {rows:List (List AV)} (h:SW lo H v sz te rows) (ho:Old H.n H H'):SW lo H' v sz te rows:=⟨sv_old h.1 ho,h.2⟩
structure RegW (lo:Nat) (H:Heap) (b:Nat) (pre post:List AV) (e:TypeId) (r:Reg) (V:RegV):Prop where
 bn:b < H.n
 lob:lo≤b
 blk:H.get b=.cells (pre++(regC r V++post)) e
 aT:PW lo H V.vT 2 137 (r.tracks.map Pos.Trk.row)
 aF:SW lo H V.vF 7 97 (r.faults.map Pos.Flt.row)
 aR:PW lo H V.vR 3 165 (r.trains.map Pos.Trn.row)
 aP:SW lo H V.vP 10 141 (r.poss.map Pos.Pos.row)
 aM:PW lo H V.vM 2 171 (r.machs.map Pos.Mch.row)
 lT:r.tracks.length≤maxRows
 lF:r.faults.length≤maxRows
 lR:r.trains.length≤maxRows
 lP:r.poss.length≤maxRows
 lM:r.machs.length≤maxRows
section
variable {lo:Nat} {H H':Heap} {b:Nat} {pre post:List AV} {e:TypeId} {r:Reg} {V:RegV}
theorem RegW.is (h:RegW lo H b pre post e r V):RegIs H b pre.length r V:=⟨h.bn,⟨pre,post,e,h.blk,rfl⟩,h.aT.pa,h.aF.1,h.aR.pa,h.aP.1,h.aM.pa,h.lT,h.lF,h.lR,h.lP,h.lM⟩
theorem RegW.old (h:RegW lo H b pre post e r V) (ho:Old H.n H H'):RegW lo H' b pre post e r V:=⟨Nat.lt_of_lt_of_le h.bn ho.1,h.lob,by rw [ho.2 b h.bn];exact h.blk,h.aT.old ho,h.aF.old ho,h.aR.old ho,h.aP.old ho,h.aM.old ho,h.lT,h.lF,h.lR,h.lP,h.lM⟩
def regX:ABlk→Prop:=fun x=>∃ cs sz te,x=.row cs sz te∧te ≠ 70
theorem st_cell {lo b k:Nat} {H:Heap} {pre cs post:List AV} {e t:TypeId} {v:AV} (hb:H.get b=.cells (pre++(cs++post)) e) (hlo:lo≤b) (hk:k < cs.length) (hs:szOf NC.P t=some 1) (h1:v.cells=[v]) (h2:v.one=true):sst lo H t (.ptr b (pre.length+k)) v=some (H.set b (.cells (pre++(cs.set k v++post)) e)):=by
 show astore NC.P lo H t (.ptr b (pre.length+k)) v=_
 unfold astore
 simp only [hs,h1,List.length_cons,List.length_nil,List.all_cons,List.all_nil,h2,hlo,decide_true,Bool.and_true,Nat.zero_add,if_true,hb,setBlk]
 rw [if_pos (by simp only [List.length_append];omega)]
 simp only [over,List.length_cons,List.length_nil,Nat.zero_add]
 have e1:(pre++(cs++post)).take (pre.length+k)=pre++cs.take k:=by
  rw [List.take_length_add_append,List.take_append_of_le_length (by omega)]
 have e2:(pre++(cs++post)).drop (pre.length+k+1)=cs.drop (k+1)++post:=by
  rw [Nat.add_assoc,List.drop_length_add_append,List.drop_append_of_le_length (by omega)]
 rw [e1,e2,List.set_eq_take_append_cons_drop,if_pos hk]
 simp
theorem chg_b (H:Heap) (hlo:lo≤b) (x:ABlk) {X:ABlk→Prop}:Chg lo b X H (H.set b x):=(Chg.refl H).set hlo (.inl rfl) x
theorem RegW.putT (h : RegW lo H b pre post e r V) (c : Chg lo b (rowX 2 137) H H') (hb : H'.get b = H.get b) {xs : List Trk} {v : AV} (hv : PW lo H' v 2 137 (xs.map Pos.Trk.row)) (hl : xs.length ≤ maxRows) : RegW lo (H'.set b (.cells (pre ++ (regC { r with tracks := xs } { V with vT := v } ++ post)) e)) b pre post e { r with tracks := xs } { V with vT := v } ∧ Chg lo b regX H (H'.set b (.cells (pre ++ (regC { r with tracks := xs } { V with vT := v } ++ post)) e)) := by
 have hcb : ∃ cs e, H.get b = .cells cs e := ⟨_, _, h.blk⟩
 have d := c.set h.lob (.inl rfl) (.cells (pre ++ (regC { r with tracks := xs } { V with vT := v } ++ post)) e)
 have hv2 := hv.chg (X := fun _ => False) (chg_b H' h.lob (.cells (pre ++ (regC { r with tracks := xs } { V with vT := v } ++ post)) e)) (fun _ => id) ⟨_, _, hb.trans h.blk⟩
 exact ⟨⟨by simpa using Nat.lt_of_lt_of_le h.bn c.n, h.lob, by rw [Heap.get_set, if_pos rfl], hv2, h.aF.chg d (fun cs ⟨_, hx⟩ => by cases hx) hcb, h.aR.chg d (fun cs ⟨_, hx⟩ => by cases hx) hcb, h.aP.chg d (fun cs ⟨_, hx⟩ => by cases hx) hcb, h.aM.chg d (fun cs ⟨_, hx⟩ => by cases hx) hcb, hl, h.lF, h.lR, h.lP, h.lM⟩, d.mono fun x ⟨cs, hx⟩ => ⟨cs, _, _, hx, by decide⟩⟩
theorem RegW.putF (h : RegW lo H b pre post e r V) (c : Chg lo b (rowX 7 97) H H') (hb : H'.get b = H.get b) {xs : List Flt} {v : AV} (hv : SW lo H' v 7 97 (xs.map Pos.Flt.row)) (hl : xs.length ≤ maxRows) : RegW lo (H'.set b (.cells (pre ++ (regC { r with faults := xs } { V with vF := v } ++ post)) e)) b pre post e { r with faults := xs } { V with vF := v } ∧ Chg lo b regX H (H'.set b (.cells (pre ++ (regC { r with faults := xs } { V with vF := v } ++ post)) e)) := by
 have hcb : ∃ cs e, H.get b = .cells cs e := ⟨_, _, h.blk⟩
 have d := c.set h.lob (.inl rfl) (.cells (pre ++ (regC { r with faults := xs } { V with vF := v } ++ post)) e)
 have hv2 := hv.chg (X := fun _ => False) (chg_b H' h.lob (.cells (pre ++ (regC { r with faults := xs } { V with vF := v } ++ post)) e)) (fun _ => id) ⟨_, _, hb.trans h.blk⟩
 exact ⟨⟨by simpa using Nat.lt_of_lt_of_le h.bn c.n, h.lob, by rw [Heap.get_set, if_pos rfl], h.aT.chg d (fun cs ⟨_, hx⟩ => by cases hx) hcb, hv2, h.aR.chg d (fun cs ⟨_, hx⟩ => by cases hx) hcb, h.aP.chg d (fun cs ⟨_, hx⟩ => by cases hx) hcb, h.aM.chg d (fun cs ⟨_, hx⟩ => by cases hx) hcb, h.lT, hl, h.lR, h.lP, h.lM⟩, d.mono fun x ⟨cs, hx⟩ => ⟨cs, _, _, hx, by decide⟩⟩
theorem RegW.putR (h : RegW lo H b pre post e r V) (c : Chg lo b (rowX 3 165) H H') (hb : H'.get b = H.get b) {xs : List Trn} {v : AV} (hv : PW lo H' v 3 165 (xs.map Pos.Trn.row)) (hl : xs.length ≤ maxRows) : RegW lo (H'.set b (.cells (pre ++ (regC { r with trains := xs } { V with vR := v } ++ post)) e)) b pre post e { r with trains := xs } { V with vR := v } ∧ Chg lo b regX H (H'.set b (.cells (pre ++ (regC { r with trains := xs } { V with vR := v } ++ post)) e)) := by
 have hcb : ∃ cs e, H.get b = .cells cs e := ⟨_, _, h.blk⟩
 have d := c.set h.lob (.inl rfl) (.cells (pre ++ (regC { r with trains := xs } { V with vR := v } ++ post)) e)
 have hv2 := hv.chg (X := fun _ => False) (chg_b H' h.lob (.cells (pre ++ (regC { r with trains := xs } { V with vR := v } ++ post)) e)) (fun _ => id) ⟨_, _, hb.trans h.blk⟩
 exact ⟨⟨by simpa using Nat.lt_of_lt_of_le h.bn c.n, h.lob, by rw [Heap.get_set, if_pos rfl], h.aT.chg d (fun cs ⟨_, hx⟩ => by cases hx) hcb, h.aF.chg d (fun cs ⟨_, hx⟩ => by cases hx) hcb, hv2, h.aP.chg d (fun cs ⟨_, hx⟩ => by cases hx) hcb, h.aM.chg d (fun cs ⟨_, hx⟩ => by cases hx) hcb, h.lT, h.lF, hl, h.lP, h.lM⟩, d.mono fun x ⟨cs, hx⟩ => ⟨cs, _, _, hx, by decide⟩⟩
theorem RegW.putP (h : RegW lo H b pre post e r V) (c : Chg lo b (rowX 10 141) H H') (hb : H'.get b = H.get b) {xs : List Pos} {v : AV} (hv : SW lo H' v 10 141 (xs.map Pos.Pos.row)) (hl : xs.length ≤ maxRows) : RegW lo (H'.set b (.cells (pre ++ (regC { r with poss := xs } { V with vP := v } ++ post)) e)) b pre post e { r with poss := xs } { V with vP := v } ∧ Chg lo b regX H (H'.set b (.cells (pre ++ (regC { r with poss := xs } { V with vP := v } ++ post)) e)) := by
 have hcb : ∃ cs e, H.get b = .cells cs e := ⟨_, _, h.blk⟩
 have d := c.set h.lob (.inl rfl) (.cells (pre ++ (regC { r with poss := xs } { V with vP := v } ++ post)) e)
 have hv2 := hv.chg (X := fun _ => False) (chg_b H' h.lob (.cells (pre ++ (regC { r with poss := xs } { V with vP := v } ++ post)) e)) (fun _ => id) ⟨_, _, hb.trans h.blk⟩
 exact ⟨⟨by simpa using Nat.lt_of_lt_of_le h.bn c.n, h.lob, by rw [Heap.get_set, if_pos rfl], h.aT.chg d (fun cs ⟨_, hx⟩ => by cases hx) hcb, h.aF.chg d (fun cs ⟨_, hx⟩ => by cases hx) hcb, h.aR.chg d (fun cs ⟨_, hx⟩ => by cases hx) hcb, hv2, h.aM.chg d (fun cs ⟨_, hx⟩ => by cases hx) hcb, h.lT, h.lF, h.lR, hl, h.lM⟩, d.mono fun x ⟨cs, hx⟩ => ⟨cs, _, _, hx, by decide⟩⟩
theorem RegW.putM (h : RegW lo H b pre post e r V) (c : Chg lo b (rowX 2 171) H H') (hb : H'.get b = H.get b) {xs : List Mch} {v : AV} (hv : PW lo H' v 2 171 (xs.map Pos.Mch.row)) (hl : xs.length ≤ maxRows) : RegW lo (H'.set b (.cells (pre ++ (regC { r with machs := xs } { V with vM := v } ++ post)) e)) b pre post e { r with machs := xs } { V with vM := v } ∧ Chg lo b regX H (H'.set b (.cells (pre ++ (regC { r with machs := xs } { V with vM := v } ++ post)) e)) := by
 have hcb : ∃ cs e, H.get b = .cells cs e := ⟨_, _, h.blk⟩
 have d := c.set h.lob (.inl rfl) (.cells (pre ++ (regC { r with machs := xs } { V with vM := v } ++ post)) e)
 have hv2 := hv.chg (X := fun _ => False) (chg_b H' h.lob (.cells (pre ++ (regC { r with machs := xs } { V with vM := v } ++ post)) e)) (fun _ => id) ⟨_, _, hb.trans h.blk⟩
 exact ⟨⟨by simpa using Nat.lt_of_lt_of_le h.bn c.n, h.lob, by rw [Heap.get_set, if_pos rfl], h.aT.chg d (fun cs ⟨_, hx⟩ => by cases hx) hcb, h.aF.chg d (fun cs ⟨_, hx⟩ => by cases hx) hcb, h.aR.chg d (fun cs ⟨_, hx⟩ => by cases hx) hcb, h.aP.chg d (fun cs ⟨_, hx⟩ => by cases hx) hcb, hv2, h.lT, h.lF, h.lR, h.lP, hl⟩, d.mono fun x ⟨cs, hx⟩ => ⟨cs, _, _, hx, by decide⟩⟩
end
theorem strs_n1 (a:Nm):(strs [a]).length=1:=rfl
theorem strs_n2 (a b:Nm):(strs [a,b]).length=2:=rfl
theorem strs_10 (a:Nm):(strs [a])[0]? = some [.str a]:=rfl
theorem strs_20 (a b:Nm):(strs [a,b])[0]? = some [.str a]:=rfl
theorem strs_21 (a b:Nm):(strs [a,b])[1]? = some [.str b]:=rfl
theorem ints_n1 (a:Int):(ints [a]).length=1:=rfl
theorem ints_n2 (a b:Int):(ints [a,b]).length=2:=rfl
theorem ints_n3 (a b c:Int):(ints [a,b,c]).length=3:=rfl
theorem ints_n4 (a b c d:Int):(ints [a,b,c,d]).length=4:=rfl
theorem ints_10 (a:Int):(ints [a])[0]? = some [.int .i64 a]:=rfl
theorem ints_20 (a b:Int):(ints [a,b])[0]? = some [.int .i64 a]:=rfl
theorem ints_21 (a b:Int):(ints [a,b])[1]? = some [.int .i64 b]:=rfl
theorem ints_31 (a b c:Int):(ints [a,b,c])[1]? = some [.int .i64 b]:=rfl
theorem ints_32 (a b c:Int):(ints [a,b,c])[2]? = some [.int .i64 c]:=rfl
theorem ints_41 (a b c d:Int):(ints [a,b,c,d])[1]? = some [.int .i64 b]:=rfl
theorem ints_42 (a b c d:Int):(ints [a,b,c,d])[2]? = some [.int .i64 c]:=rfl
theorem ints_43 (a b c d:Int):(ints [a,b,c,d])[3]? = some [.int .i64 d]:=rfl
attribute [go_sem] strs_n1 strs_n2 strs_10 strs_20 strs_21 ints_n1 ints_n2 ints_n3 ints_n4 ints_10 ints_20 ints_21 ints_31 ints_32 ints_41 ints_42 ints_43
theorem en98 {P:FuncId→Option (List AV→Option AV)} (hP:P 98=none) {lo:Nat} {args:List AV} {H:Heap} {K:AV→Heap→Prop}:VO (aenter (NC.withPrims P) (R (NC.withPrims P)) lo 98 args H) K=AO (R (NC.withPrims P) (.call lo 98 args H)) fun o=>K o.val o.s.H:=by
 refine enter_free rfl ?_ (by kernel_rfl) (by kernel_rfl) (by kernel_rfl)
 show (match NC.prim 98 with | some p=>some p | none=>P 98)=none
 rw [hP];kernel_rfl
theorem en101 {P:FuncId→Option (List AV→Option AV)} (hP:P 101=none) {lo:Nat} {args:List AV} {H:Heap} {K:AV→Heap→Prop}:VO (aenter (NC.withPrims P) (R (NC.withPrims P)) lo 101 args H) K=AO (R (NC.withPrims P) (.call lo 101 args H)) fun o=>K o.val o.s.H:=by
 refine enter_free rfl ?_ (by kernel_rfl) (by kernel_rfl) (by kernel_rfl)
 show (match NC.prim 101 with | some p=>some p | none=>P 101)=none
 rw [hP];kernel_rfl
theorem en104 {P:FuncId→Option (List AV→Option AV)} (hP:P 104=none) {lo:Nat} {args:List AV} {H:Heap} {K:AV→Heap→Prop}:VO (aenter (NC.withPrims P) (R (NC.withPrims P)) lo 104 args H) K=AO (R (NC.withPrims P) (.call lo 104 args H)) fun o=>K o.val o.s.H:=by
 refine enter_free rfl ?_ (by kernel_rfl) (by kernel_rfl) (by kernel_rfl)
 show (match NC.prim 104 with | some p=>some p | none=>P 104)=none
 rw [hP];kernel_rfl
theorem en106 {P:FuncId→Option (List AV→Option AV)} (hP:P 106=none) {lo:Nat} {args:List AV} {H:Heap} {K:AV→Heap→Prop}:VO (aenter (NC.withPrims P) (R (NC.withPrims P)) lo 106 args H) K=AO (R (NC.withPrims P) (.call lo 106 args H)) fun o=>K o.val o.s.H:=by
 refine enter_free rfl ?_ (by kernel_rfl) (by kernel_rfl) (by kernel_rfl)
 show (match NC.prim 106 with | some p=>some p | none=>P 106)=none
 rw [hP];kernel_rfl
theorem en108 {P:FuncId→Option (List AV→Option AV)} (hP:P 108=none) {lo:Nat} {args:List AV} {H:Heap} {K:AV→Heap→Prop}:VO (aenter (NC.withPrims P) (R (NC.withPrims P)) lo 108 args H) K=AO (R (NC.withPrims P) (.call lo 108 args H)) fun o=>K o.val o.s.H:=by
 refine enter_free rfl ?_ (by kernel_rfl) (by kernel_rfl) (by kernel_rfl)
 show (match NC.prim 108 with | some p=>some p | none=>P 108)=none
 rw [hP];kernel_rfl
theorem en110 {P:FuncId→Option (List AV→Option AV)} (hP:P 110=none) {lo:Nat} {args:List AV} {H:Heap} {K:AV→Heap→Prop}:VO (aenter (NC.withPrims P) (R (NC.withPrims P)) lo 110 args H) K=AO (R (NC.withPrims P) (.call lo 110 args H)) fun o=>K o.val o.s.H:=by
 refine enter_free rfl ?_ (by kernel_rfl) (by kernel_rfl) (by kernel_rfl)
 show (match NC.prim 110 with | some p=>some p | none=>P 110)=none
 rw [hP];kernel_rfl
theorem en114 {P:FuncId→Option (List AV→Option AV)} (hP:P 114=none) {lo:Nat} {args:List AV} {H:Heap} {K:AV→Heap→Prop}:VO (aenter (NC.withPrims P) (R (NC.withPrims P)) lo 114 args H) K=AO (R (NC.withPrims P) (.call lo 114 args H)) fun o=>K o.val o.s.H:=by
 refine enter_free rfl ?_ (by kernel_rfl) (by kernel_rfl) (by kernel_rfl)
 show (match NC.prim 114 with | some p=>some p | none=>P 114)=none
 rw [hP];kernel_rfl
theorem en123 {P:FuncId→Option (List AV→Option AV)} (hP:P 123=none) {lo:Nat} {args:List AV} {H:Heap} {K:AV→Heap→Prop}:VO (aenter (NC.withPrims P) (R (NC.withPrims P)) lo 123 args H) K=AO (R (NC.withPrims P) (.call lo 123 args H)) fun o=>K o.val o.s.H:=by
 refine enter_free rfl ?_ (by kernel_rfl) (by kernel_rfl) (by kernel_rfl)
 show (match NC.prim 123 with | some p=>some p | none=>P 123)=none
 rw [hP];kernel_rfl
theorem en124 {P:FuncId→Option (List AV→Option AV)} (hP:P 124=none) {lo:Nat} {args:List AV} {H:Heap} {K:AV→Heap→Prop}:VO (aenter (NC.withPrims P) (R (NC.withPrims P)) lo 124 args H) K=AO (R (NC.withPrims P) (.call lo 124 args H)) fun o=>K o.val o.s.H:=by
 refine enter_free rfl ?_ (by kernel_rfl) (by kernel_rfl) (by kernel_rfl)
 show (match NC.prim 124 with | some p=>some p | none=>P 124)=none
 rw [hP];kernel_rfl
theorem en146 {P:FuncId→Option (List AV→Option AV)} (hP:P 146=none) {lo:Nat} {args:List AV} {H:Heap} {K:AV→Heap→Prop}:VO (aenter (NC.withPrims P) (R (NC.withPrims P)) lo 146 args H) K=AO (R (NC.withPrims P) (.call lo 146 args H)) fun o=>K o.val o.s.H:=by
 refine enter_free rfl ?_ (by kernel_rfl) (by kernel_rfl) (by kernel_rfl)
 show (match NC.prim 146 with | some p=>some p | none=>P 146)=none
 rw [hP];kernel_rfl
theorem PW.cells1 {lo sz:Nat} {te:TypeId} {H:Heap} {v:AV} {rows:List (List AV)} (h:PW lo H v sz te rows):v.cells=[v]:=by obtain ⟨t,rfl,_⟩:=h;rfl
theorem PW.one1 {lo sz:Nat} {te:TypeId} {H:Heap} {v:AV} {rows:List (List AV)} (h:PW lo H v sz te rows):v.one=true:=by obtain ⟨t,rfl,_⟩:=h;rfl
theorem SW.cells1 {lo sz:Nat} {te:TypeId} {H:Heap} {v:AV} {rows:List (List AV)} (h:SW lo H v sz te rows):v.cells=[v]:=by obtain ⟨⟨_,rfl⟩ | ⟨_,_,_,rfl,_⟩,_⟩:=h<;>rfl
theorem SW.one1 {lo sz:Nat} {te:TypeId} {H:Heap} {v:AV} {rows:List (List AV)} (h:SW lo H v sz te rows):v.one=true:=by obtain ⟨⟨_,rfl⟩ | ⟨_,_,_,rfl,_⟩,_⟩:=h<;>rfl
theorem chg_none {lo:Nat} {X:ABlk→Prop} {H H':Heap} (c:Chg lo H.n X H H') {b:Nat} (hb:b < H.n) (h:¬ X (H.get b)):H'.get b=H.get b:=by
 rcases c.ch b hb with h2 | ⟨_,h2 | h2⟩
 · exact h2
 · omega
 · exact absurd h2 h
theorem chg_up {lo b:Nat} {X:ABlk→Prop} {H H':Heap} (c:Chg lo H.n X H H'):Chg lo b X H H' :=
 ⟨c.n,fun i hi=>(c.ch i hi).imp id fun ⟨a,d⟩=>⟨a,d.elim (fun h=>absurd h (by omega)) .inr⟩⟩
theorem app_wb {lo sz b:Nat} {te:TypeId} {H:Heap} {v:AV} {rows:List (List AV)} {bc:List AV} {be:TypeId} (h:PW lo H v sz te rows) (hlo:lo≤H.n) (hb:b < H.n) (hbb:H.get b=.cells bc be) {r:List AV} (h1:rows.length+1≤maxRows) (h2:pureRow r=true) (h2':r.map AV.strip0=r) (h3:0 < sz) (h4:Len sz rows) :
 ∃ v' H',appP lo H sz te v [r]=some (v',H')∧PW lo H' v' sz te (rows++[r])∧Chg lo b (rowX sz te) H H'∧H'.get b=H.get b:=by
 obtain ⟨v',H',a,c,d⟩:=app_w (b:=H.n) h hlo h1 h2 h2' h3 h4
 exact ⟨v',H',a,c,chg_up d,chg_none d hb (fun ⟨_,hx⟩=>by rw [hbb] at hx;cases hx)⟩
theorem app_sb {lo sz b:Nat} {te:TypeId} {H:Heap} {v:AV} {rows:List (List AV)} {bc:List AV} {be:TypeId} (r:List AV) (h:SW lo H v sz te rows) (hlo:lo≤H.n) (hb:b < H.n) (hbb:H.get b=.cells bc be) (hL:Len sz rows) (hr:r.length=sz) (ho:r.all AV.one=true) (hs:0 < sz) (hm:rows.length+1≤maxRows) :
 ∃ v' H',appR lo H sz te v [r]=some (v',H')∧SW lo H' v' sz te (rows++[r])∧Chg lo b (rowX sz te) H H'∧H'.get b=H.get b:=by
 obtain ⟨v',H',a,c,d⟩:=app_s (b:=H.n) r h hlo hL hr ho hs hm
 exact ⟨v',H',a,c,chg_up d,chg_none d hb (fun ⟨_,hx⟩=>by rw [hbb] at hx;cases hx)⟩
theorem w_Track {lo:Nat} {H:Heap} {b:Nat} {pre post:List AV} {e:TypeId} {r:Reg} {V:RegV} (h:RegW lo H b pre post e r V) {num tk v:Int} {kind text t:Nm} (hm:r.tracks.length+1≤maxRows):∃ w H',R PT (.call lo 98 [.ptr b pre.length,.agg (evC num kind [t] [tk,v] text)] H)=some (.ofVal w H') ∧ ∃ V',RegW lo H' b pre post e { r with tracks:=r.tracks++[⟨t,v⟩] } V'∧Chg lo b regX H H':=by
 refine R_of_body (C:=PT) (f:=98) (lo:=lo) (args:=[.ptr b pre.length,.agg (evC num kind [t] [tk,v] text)]) (H:=H) (fn:=Tryz.f98) (Q:=fun _ H'=>∃ V',RegW lo H' b pre post e { r with tracks:=r.tracks++[⟨t,v⟩] } V'∧Chg lo b regX H H') (by kernel_rfl) Tryz.func98 rfl rfl ?_
 have ho:Old H.n H (H.push (.cells (evC num kind [t] [tk,v] text) 70)):=((Old.refl H).push _)
 have h1:=h.old ho
 have hl1:lo≤(H.push (.cells (evC num kind [t] [tk,v] text) 70)).n:=Nat.le_of_lt (Nat.lt_of_le_of_lt h1.lob h1.bn)
 obtain ⟨v',H2,ha,hv,hc,hcb⟩:=app_wb h1.aT hl1 h1.bn h1.blk (r:=[.str t,.int .i64 v]) (by rw [List.length_map];exact hm) rfl rfl (by decide) (rows_Len (by intro x;rfl) _)
 have hst:sst lo H2 99 (.ptr b (pre.length+1)) v'=_:=st_cell (hcb.trans h1.blk) h.lob (by show 1 < 6;decide) (by kernel_rfl) hv.cells1 hv.one1
 obtain ⟨g1,g2⟩:=h1.putT hc hcb (xs:=r.tracks++[⟨t,v⟩]) (by rw [List.map_append];exact hv) (by simpa using hm)
 have l1:=fun H'=>h.is.l1 (H':=H')
 have hbn:=eq_true h.bn
 obtain ⟨tt,hvt,htt⟩:=h.aT
 rw [hvt] at ha l1
 rcases htt with ⟨rfl,hr⟩ | ⟨j,rfl,_,hj,hjn,hjr⟩
 · simp (config:={ maxDischargeDepth:=12 }) only [go_sem,reduceIte,reduceEqDiff,reduceAdd,reduceMul,reduceSub,reduceLeDiff,reduceLT,Nat.reduceBEq,reduceCtorEq,appO,l1,hbn,ha,hst]
   exact ⟨_,g1,((Chg.refl H).push _).to g2⟩
 · have hjb:(j=b)=False:=eq_false (fun he=>by rw [he,h.blk] at hjr;cases hjr)
   have hjn':=eq_true hjn
   have hjh:(j=H.n)=False:=eq_false (by omega)
   simp (config:={ maxDischargeDepth:=12 }) only [go_sem,reduceIte,reduceEqDiff,reduceAdd,reduceMul,reduceSub,reduceLeDiff,reduceLT,Nat.reduceBEq,reduceCtorEq,appO,l1,hbn,ha,hst,hjb,hjn',hjh]
   exact ⟨_,g1,((Chg.refl H).push _).to g2⟩
theorem w_Enter {lo:Nat} {H:Heap} {b:Nat} {pre post:List AV} {e:TypeId} {r:Reg} {V:RegV} (h:RegW lo H b pre post e r V) {num tk v:Int} {kind text x t:Nm} (hm:r.trains.length+1≤maxRows):∃ w H',R PT (.call lo 108 [.ptr b pre.length,.agg (evC num kind [x,t] [tk,v] text)] H)=some (.ofVal w H') ∧ ∃ V',RegW lo H' b pre post e { r with trains:=r.trains++[⟨x,t,v⟩] } V'∧Chg lo b regX H H':=by
 refine R_of_body (C:=PT) (f:=108) (lo:=lo) (args:=[.ptr b pre.length,.agg (evC num kind [x,t] [tk,v] text)]) (H:=H) (fn:=Tryz.f108) (Q:=fun _ H'=>∃ V',RegW lo H' b pre post e { r with trains:=r.trains++[⟨x,t,v⟩] } V'∧Chg lo b regX H H') (by kernel_rfl) Tryz.func108 rfl rfl ?_
 have ho:Old H.n H (H.push (.cells (evC num kind [x,t] [tk,v] text) 70)):=((Old.refl H).push _)
 have h1:=h.old ho
 have hl1:lo≤(H.push (.cells (evC num kind [x,t] [tk,v] text) 70)).n:=Nat.le_of_lt (Nat.lt_of_le_of_lt h1.lob h1.bn)
 obtain ⟨v',H2,ha,hv,hc,hcb⟩:=app_wb h1.aR hl1 h1.bn h1.blk (r:=[.str x,.str t,.int .i64 v]) (by rw [List.length_map];exact hm) rfl rfl (by decide) (rows_Len (by intro x;rfl) _)
 have hst:sst lo H2 100 (.ptr b (pre.length+3)) v'=_:=st_cell (hcb.trans h1.blk) h.lob (by show 3 < 6;decide) (by kernel_rfl) hv.cells1 hv.one1
 obtain ⟨g1,g2⟩:=h1.putR hc hcb (xs:=r.trains++[⟨x,t,v⟩]) (by rw [List.map_append];exact hv) (by simpa using hm)
 have l1:=fun H'=>h.is.l3 (H':=H')
 have hbn:=eq_true h.bn
 obtain ⟨tt,hvt,htt⟩:=h.aR
 rw [hvt] at ha l1
 rcases htt with ⟨rfl,hr⟩ | ⟨j,rfl,_,hj,hjn,hjr⟩
 · simp (config:={ maxDischargeDepth:=12 }) only [go_sem,reduceIte,reduceEqDiff,reduceAdd,reduceMul,reduceSub,reduceLeDiff,reduceLT,Nat.reduceBEq,reduceCtorEq,appO,l1,hbn,ha,hst]
   exact ⟨_,g1,((Chg.refl H).push _).to g2⟩
 · have hjb:(j=b)=False:=eq_false (fun he=>by rw [he,h.blk] at hjr;cases hjr)
   have hjn':=eq_true hjn
   have hjh:(j=H.n)=False:=eq_false (by omega)
   simp (config:={ maxDischargeDepth:=12 }) only [go_sem,reduceIte,reduceEqDiff,reduceAdd,reduceMul,reduceSub,reduceLeDiff,reduceLT,Nat.reduceBEq,reduceCtorEq,appO,l1,hbn,ha,hst,hjb,hjn',hjh]
   exact ⟨_,g1,((Chg.refl H).push _).to g2⟩
theorem w_In {lo:Nat} {H:Heap} {b:Nat} {pre post:List AV} {e:TypeId} {r:Reg} {V:RegV} (h:RegW lo H b pre post e r V) {num tk:Int} {kind text m p:Nm} (hm:r.machs.length+1≤maxRows):∃ w H',R PT (.call lo 123 [.ptr b pre.length,.agg (evC num kind [m,p] [tk] text)] H)=some (.ofVal w H') ∧ ∃ V',RegW lo H' b pre post e { r with machs:=r.machs++[⟨m,p⟩] } V'∧Chg lo b regX H H':=by
 refine R_of_body (C:=PT) (f:=123) (lo:=lo) (args:=[.ptr b pre.length,.agg (evC num kind [m,p] [tk] text)]) (H:=H) (fn:=Tryz.f123) (Q:=fun _ H'=>∃ V',RegW lo H' b pre post e { r with machs:=r.machs++[⟨m,p⟩] } V'∧Chg lo b regX H H') (by kernel_rfl) Tryz.func123 rfl rfl ?_
 have ho:Old H.n H (H.push (.cells (evC num kind [m,p] [tk] text) 70)):=((Old.refl H).push _)
 have h1:=h.old ho
 have hl1:lo≤(H.push (.cells (evC num kind [m,p] [tk] text) 70)).n:=Nat.le_of_lt (Nat.lt_of_le_of_lt h1.lob h1.bn)
 obtain ⟨v',H2,ha,hv,hc,hcb⟩:=app_wb h1.aM hl1 h1.bn h1.blk (r:=[.str m,.str p]) (by rw [List.length_map];exact hm) rfl rfl (by decide) (rows_Len (by intro x;rfl) _)
 have hst:sst lo H2 102 (.ptr b (pre.length+5)) v'=_:=st_cell (hcb.trans h1.blk) h.lob (by show 5 < 6;decide) (by kernel_rfl) hv.cells1 hv.one1
 obtain ⟨g1,g2⟩:=h1.putM hc hcb (xs:=r.machs++[⟨m,p⟩]) (by rw [List.map_append];exact hv) (by simpa using hm)
 have l1:=fun H'=>h.is.l5 (H':=H')
 have hbn:=eq_true h.bn
 obtain ⟨tt,hvt,htt⟩:=h.aM
 rw [hvt] at ha l1
 rcases htt with ⟨rfl,hr⟩ | ⟨j,rfl,_,hj,hjn,hjr⟩
 · simp (config:={ maxDischargeDepth:=12 }) only [go_sem,reduceIte,reduceEqDiff,reduceAdd,reduceMul,reduceSub,reduceLeDiff,reduceLT,Nat.reduceBEq,reduceCtorEq,appO,l1,hbn,ha,hst]
   exact ⟨_,g1,((Chg.refl H).push _).to g2⟩
 · have hjb:(j=b)=False:=eq_false (fun he=>by rw [he,h.blk] at hjr;cases hjr)
   have hjn':=eq_true hjn
   have hjh:(j=H.n)=False:=eq_false (by omega)
   simp (config:={ maxDischargeDepth:=12 }) only [go_sem,reduceIte,reduceEqDiff,reduceAdd,reduceMul,reduceSub,reduceLeDiff,reduceLT,Nat.reduceBEq,reduceCtorEq,appO,l1,hbn,ha,hst,hjb,hjn',hjh]
   exact ⟨_,g1,((Chg.refl H).push _).to g2⟩
theorem w_Fault {lo:Nat} {H:Heap} {b:Nat} {pre post:List AV} {e:TypeId} {r:Reg} {V:RegV} (h:RegW lo H b pre post e r V) {num tk x y v:Int} {kind text f t:Nm} (hm:r.faults.length+1≤maxRows):∃ w H',R PT (.call lo 101 [.ptr b pre.length,.agg (evC num kind [f,t] [tk,x,y,v] text)] H)=some (.ofVal w H') ∧ ∃ V',RegW lo H' b pre post e { r with faults:=r.faults++[⟨f,t,x,y,v,false,false⟩] } V'∧Chg lo b regX H H':=by
 refine R_of_body (C:=PT) (f:=101) (lo:=lo) (args:=[.ptr b pre.length,.agg (evC num kind [f,t] [tk,x,y,v] text)]) (H:=H) (fn:=Tryz.f101) (Q:=fun _ H'=>∃ V',RegW lo H' b pre post e { r with faults:=r.faults++[⟨f,t,x,y,v,false,false⟩] } V'∧Chg lo b regX H H') (by kernel_rfl) Tryz.func101 rfl rfl ?_
 have hlo:lo≤H.n:=Nat.le_of_lt (Nat.lt_of_le_of_lt h.lob h.bn)
 have ho:Old H.n H (((H.push (.cells (evC num kind [f,t] [tk,x,y,v] text) 70)).push (.cells [.int .i64 0,.int .i64 0] 35)).set (H.n+1) (.cells [.int .i64 x,.int .i64 y] 35)):=(((Old.refl H).push _).push _).set (Nat.le_succ _) _
 have hch:Chg lo b regX H (((H.push (.cells (evC num kind [f,t] [tk,x,y,v] text) 70)).push (.cells [.int .i64 0,.int .i64 0] 35)).set (H.n+1) (.cells [.int .i64 x,.int .i64 y] 35)):=(((Chg.refl H).push _).push _).set (by omega) (.inr (.inr (Nat.le_succ _))) _
 have h1:=h.old ho
 have hl1:lo≤(((H.push (.cells (evC num kind [f,t] [tk,x,y,v] text) 70)).push (.cells [.int .i64 0,.int .i64 0] 35)).set (H.n+1) (.cells [.int .i64 x,.int .i64 y] 35)).n:=Nat.le_of_lt (Nat.lt_of_le_of_lt h1.lob h1.bn)
 have hsp:=pe100 ⟨num,kind,[f,t],[tk,x,y,v],text⟩ (by show 3≤4;decide)
 simp only [Pos.Ev.row,List.getD_cons_succ,List.getD_cons_zero] at hsp
 obtain ⟨v',H2,ha,hv,hc,hcb⟩:=app_sb [.str f,.str t,.int .i64 x,.int .i64 y,.int .i64 v,.bool false,.bool false] h1.aF hl1 h1.bn h1.blk (rows_Len (by intro x;rfl) _) rfl rfl (by decide) (by rw [List.length_map];exact hm)
 have hst:sst lo H2 98 (.ptr b (pre.length+2)) v'=_:=st_cell (hcb.trans h1.blk) h.lob (by show 2 < 6;decide) (by kernel_rfl) hv.cells1 hv.one1
 obtain ⟨g1,g2⟩:=h1.putF hc hcb (xs:=r.faults++[⟨f,t,x,y,v,false,false⟩]) (by rw [List.map_append];exact hv) (by simpa using hm)
 have l1:=fun H'=>h.is.l2 (H':=H')
 have hbn:=eq_true h.bn
 have hlo1:(lo≤H.n+1)=True:=eq_true (by omega)
 have hvs:=h.aF.1
 rcases hvs with ⟨hr,hvt⟩ | ⟨j,cs,m,hvt,hjn,hjr,hcs⟩<;>(try rw [List.length_map] at hvt)<;>rw [hvt] at ha l1
 · simp (config:={ maxDischargeDepth:=12 }) only [go_sem,reduceIte,reduceEqDiff,reduceAdd,reduceMul,reduceSub,reduceLeDiff,reduceLT,Nat.reduceBEq,reduceCtorEq,appO,l1,hbn,ha,hst,hsp,hlo1]
   exact ⟨_,g1,hch.to g2⟩
 · have hjb:(j=b)=False:=eq_false (fun he=>by rw [he,h.blk] at hjr;cases hjr)
   have hjn':=eq_true hjn
   have hjh:(j=H.n)=False:=eq_false (by omega)
   have hjh1:(j=H.n+1)=False:=eq_false (by omega)
   have hjh2:(H.n=j)=False:=eq_false (by omega)
   have hjh3:(H.n+1=j)=False:=eq_false (by omega)
   have hjb2:(b=j)=False:=eq_false (fun he=>by rw [← he,h.blk] at hjr;cases hjr)
   simp (config:={ maxDischargeDepth:=12 }) only [go_sem,reduceIte,reduceEqDiff,reduceAdd,reduceMul,reduceSub,reduceLeDiff,reduceLT,Nat.reduceBEq,reduceCtorEq,appO,l1,hbn,ha,hst,hsp,hlo1,hjb,hjb2,hjn',hjh,hjh1,hjh2,hjh3]
   exact ⟨_,g1,hch.to g2⟩
theorem w_Take {lo:Nat} {H:Heap} {b:Nat} {pre post:List AV} {e:TypeId} {r:Reg} {V:RegV} (h:RegW lo H b pre post e r V) {num tk x y:Int} {kind text p t:Nm} (hm:r.poss.length+1≤maxRows):∃ w H',R PT (.call lo 114 [.ptr b pre.length,.agg (evC num kind [p,t] [tk,x,y] text)] H)=some (.ofVal w H') ∧ ∃ V',RegW lo H' b pre post e { r with poss:=r.poss++[⟨p,t,x,y,false,false,false,0,0,0⟩] } V'∧Chg lo b regX H H':=by
 refine R_of_body (C:=PT) (f:=114) (lo:=lo) (args:=[.ptr b pre.length,.agg (evC num kind [p,t] [tk,x,y] text)]) (H:=H) (fn:=Tryz.f114) (Q:=fun _ H'=>∃ V',RegW lo H' b pre post e { r with poss:=r.poss++[⟨p,t,x,y,false,false,false,0,0,0⟩] } V'∧Chg lo b regX H H') (by kernel_rfl) Tryz.func114 rfl rfl ?_
 have hlo:lo≤H.n:=Nat.le_of_lt (Nat.lt_of_le_of_lt h.lob h.bn)
 have ho:Old H.n H (((H.push (.cells (evC num kind [p,t] [tk,x,y] text) 70)).push (.cells [.int .i64 0,.int .i64 0] 35)).set (H.n+1) (.cells [.int .i64 x,.int .i64 y] 35)):=(((Old.refl H).push _).push _).set (Nat.le_succ _) _
 have hch:Chg lo b regX H (((H.push (.cells (evC num kind [p,t] [tk,x,y] text) 70)).push (.cells [.int .i64 0,.int .i64 0] 35)).set (H.n+1) (.cells [.int .i64 x,.int .i64 y] 35)):=(((Chg.refl H).push _).push _).set (by omega) (.inr (.inr (Nat.le_succ _))) _
 have h1:=h.old ho
 have hl1:lo≤(((H.push (.cells (evC num kind [p,t] [tk,x,y] text) 70)).push (.cells [.int .i64 0,.int .i64 0] 35)).set (H.n+1) (.cells [.int .i64 x,.int .i64 y] 35)).n:=Nat.le_of_lt (Nat.lt_of_le_of_lt h1.lob h1.bn)
 have hsp:=pe100 ⟨num,kind,[p,t],[tk,x,y],text⟩ (by show 3≤3;decide)
 simp only [Pos.Ev.row,List.getD_cons_succ,List.getD_cons_zero] at hsp
 obtain ⟨v',H2,ha,hv,hc,hcb⟩:=app_sb [.str p,.str t,.int .i64 x,.int .i64 y,.bool false,.bool false,.bool false,.int .i64 0,.int .i64 0,.int .i64 0] h1.aP hl1 h1.bn h1.blk (rows_Len (by intro x;rfl) _) rfl rfl (by decide) (by rw [List.length_map];exact hm)
 have hst:sst lo H2 101 (.ptr b (pre.length+4)) v'=_:=st_cell (hcb.trans h1.blk) h.lob (by show 4 < 6;decide) (by kernel_rfl) hv.cells1 hv.one1
 obtain ⟨g1,g2⟩:=h1.putP hc hcb (xs:=r.poss++[⟨p,t,x,y,false,false,false,0,0,0⟩]) (by rw [List.map_append];exact hv) (by simpa using hm)
 have l1:=fun H'=>h.is.l4 (H':=H')
 have hbn:=eq_true h.bn
 have hlo1:(lo≤H.n+1)=True:=eq_true (by omega)
 have hvs:=h.aP.1
 rcases hvs with ⟨hr,hvt⟩ | ⟨j,cs,m,hvt,hjn,hjr,hcs⟩<;>(try rw [List.length_map] at hvt)<;>rw [hvt] at ha l1
 · simp (config:={ maxDischargeDepth:=12 }) only [go_sem,reduceIte,reduceEqDiff,reduceAdd,reduceMul,reduceSub,reduceLeDiff,reduceLT,Nat.reduceBEq,reduceCtorEq,appO,l1,hbn,ha,hst,hsp,hlo1]
   exact ⟨_,g1,hch.to g2⟩
 · have hjb:(j=b)=False:=eq_false (fun he=>by rw [he,h.blk] at hjr;cases hjr)
   have hjn':=eq_true hjn
   have hjh:(j=H.n)=False:=eq_false (by omega)
   have hjh1:(j=H.n+1)=False:=eq_false (by omega)
   have hjh2:(H.n=j)=False:=eq_false (by omega)
   have hjh3:(H.n+1=j)=False:=eq_false (by omega)
   have hjb2:(b=j)=False:=eq_false (fun he=>by rw [← he,h.blk] at hjr;cases hjr)
   simp (config:={ maxDischargeDepth:=12 }) only [go_sem,reduceIte,reduceEqDiff,reduceAdd,reduceMul,reduceSub,reduceLeDiff,reduceLT,Nat.reduceBEq,reduceCtorEq,appO,l1,hbn,ha,hst,hsp,hlo1,hjb,hjb2,hjn',hjh,hjh1,hjh2,hjh3]
   exact ⟨_,g1,hch.to g2⟩
end Go.Sim

namespace Go.Sim
open Go Go.Proofs
open Go.Sim.Pos (Nm Trk Flt Trn Pos Mch Reg Ev Len flat_len flat_take flat_drop flat_at flat_set)
set_option maxRecDepth 100000
set_option maxHeartbeats 4000000
theorem over_left {A B vs:List AV} {k:Nat} (h:k+vs.length≤A.length):over (A++B) k vs=over A k vs++B:=by
 unfold over
 rw [List.take_append_of_le_length (by omega),List.drop_append_of_le_length (by omega)]
 simp
theorem row_fit {sz i k:Nat} {rows:List (List AV)} {row:List AV} (hL:Len sz rows) (hx:rows[i]? = some row) (hk:k < sz):i * sz+k+1≤rows.flatten.length:=by
 have hi:i < rows.length:=(List.getElem?_eq_some_iff.1 hx).1
 rw [flat_len hL]
 have:(i+1) * sz≤rows.length * sz:=Nat.mul_le_mul_right _ hi
 rw [Nat.succ_mul] at this
 omega
theorem st_row {lo id i k sz:Nat} {H:Heap} {rows:List (List AV)} {cs row:List AV} {te t:TypeId} {c:AV} (hg:H.get id=.row (rows.flatten++cs) sz te) (hlo:lo≤id) (hL:Len sz rows) (hx:rows[i]? = some row) (hk:k < sz) (hs:szOf NC.P t=some 1) (h1:c.cells=[c]) (h2:c.one=true):sst lo H t (.ptr id (i * sz+k)) c=some (H.set id (.row ((rows.set i (row.set k c)).flatten++cs) sz te)):=by
 show astore NC.P lo H t (.ptr id (i * sz+k)) c=_
 unfold astore
 have hfit:=row_fit hL hx hk
 simp only [hs,h1,List.length_cons,List.length_nil,List.all_cons,List.all_nil,h2,hlo,decide_true,Bool.and_true,Nat.zero_add,if_true,hg,setBlk]
 rw [if_pos (by rw [List.length_append];omega),over_left (by simpa using hfit),flat_set hL hx hk]
theorem ld_row {id i k sz:Nat} {H:Heap} {rows:List (List AV)} {cs row:List AV} {te t:TypeId} {c:AV} (hg:H.get id=.row (rows.flatten++cs) sz te) (hL:Len sz rows) (hx:rows[i]? = some row) (hk:row[k]? = some c) (hs:(szOf NC.P t).isSome=true) (ha:aggOf NC.P t=some false):sld H t (.ptr id (i * sz+k))=some c:=by
 obtain ⟨n,hn⟩:=Option.isSome_iff_exists.1 hs
 have hc:=Pos.flat_cell hL hx hk
 have hc2:sub? (rows.flatten++cs) (i * sz+k) 1=some [c]:=by
  unfold sub? at hc ⊢
  split at hc
  · rename_i hle
    rw [if_pos (by rw [List.length_append];omega),List.drop_append_of_le_length (by omega),List.take_append_of_le_length (by rw [List.length_drop];omega)]
    exact hc
  · cases hc
 show aload NC.P H t (.ptr id (i * sz+k))=some c
 unfold aload
 simp only [hn,ha,readCells,hg,blkCells,if_false,hc2,loadV,Bool.false_eq_true]
theorem len_set {sz i:Nat} {rows:List (List AV)} {row:List AV} (hL:Len sz rows) (hr:row.length=sz):Len sz (rows.set i row):=fun x hx=>by
 rcases List.mem_or_eq_of_mem_set hx with h | h
 · exact hL x h
 · rw [h];exact hr
theorem sw_set {lo sz:Nat} {te:TypeId} {H':Heap} {rows rows':List (List AV)} {id:Nat} {cs:List AV} {m:Nat} (hlo:lo≤id) (hid:id < H'.n) (hl:rows'.length=rows.length) (hc:cs.length=m * sz) (hg:H'.get id=.row (rows'.flatten++cs) sz te):SW lo H' (.rs id 0 rows.length sz none) sz te rows' :=
 ⟨.inr ⟨id,cs,m,by rw [hl],hid,hg,hc⟩,fun i a b c d h=>by cases h;exact hlo⟩
theorem g_12 {lo id i:Nat} {H:Heap} {ps:List Pos} {cs:List AV} {y:Pos} {num tk  : Int} {kind text p:Nm} (hlo:lo≤id) (hid:id < H.n) (hg:H.get id=.row ((ps.map Pos.Pos.row).flatten++cs) 10 141) (hx:ps[i]? = some y)  : ∃ w H',R PT (.call lo 118 [.ptr id (i * 10),.agg (evC num kind [p] [tk] text)] H)=some (.ofVal w H')∧H'.n=H.n+1∧H'.get id=.row (((ps.set i { y with prot:=true }).map Pos.Pos.row).flatten++cs) 10 141 ∧ ∀ j,j < H.n→j ≠ id→H'.get j=H.get j:=by
 refine R_of_body (C:=PT) (f:=118) (lo:=lo) (args:=[.ptr id (i * 10),.agg (evC num kind [p] [tk] text)]) (H:=H) (fn:=Tryz.f118) (Q:=fun _ H'=>H'.n=H.n+1∧H'.get id=.row (((ps.set i { y with prot:=true }).map Pos.Pos.row).flatten++cs) 10 141 ∧ ∀ j,j < H.n→j ≠ id→H'.get j=H.get j) (by kernel_rfl) Tryz.func118 rfl rfl ?_
 have hL:Len 10 (ps.map Pos.Pos.row):=rows_Len (by intro x;rfl) _
 have hx1:(ps.map Pos.Pos.row)[i]? = some y.row:=map_at hx
 have hidn:(id=H.n)=False:=eq_false (by omega)
 have hid1:=eq_true hid
 have hidl:(id < H.n+1)=True:=eq_true (by omega)
 have g0:(H.push (.cells (evC num kind [p] [tk] text) 70)).get id=.row ((ps.map Pos.Pos.row).flatten++cs) 10 141:=by rw [Heap.get_push,if_neg (by omega)];exact hg
 have s0:=st_row (lo:=lo) (i:=i) (k:=5) (t:=4) (c:=.bool true) g0 hlo hL hx1 (by decide) (by kernel_rfl) rfl rfl
 have hfin:((ps.set i { y with prot:=true }).map Pos.Pos.row)=((ps.map Pos.Pos.row).set i (y.row.set 5 (.bool true))):=by
  rw [List.map_set]
  rfl
 simp (config:={ maxDischargeDepth:=12 }) only [go_sem,reduceIte,reduceEqDiff,reduceAdd,reduceMul,reduceSub,reduceLeDiff,reduceLT,Nat.reduceBEq,reduceCtorEq,g0,hg,hidn,hid1,hidl,s0]
 rw [hfin]
 refine ⟨rfl,fun j hj hne => ?_⟩
 have e1:j ≠ H.n:=by omega
 simp only [hne,e1,if_false]
theorem g_14 {lo id i:Nat} {H:Heap} {ps:List Pos} {cs:List AV} {y:Pos} {num tk  : Int} {kind text p:Nm} (hlo:lo≤id) (hid:id < H.n) (hg:H.get id=.row ((ps.map Pos.Pos.row).flatten++cs) 10 141) (hx:ps[i]? = some y)  : ∃ w H',R PT (.call lo 121 [.ptr id (i * 10),.agg (evC num kind [p] [tk] text)] H)=some (.ofVal w H')∧H'.n=H.n+1∧H'.get id=.row (((ps.set i { y with prot:=false }).map Pos.Pos.row).flatten++cs) 10 141 ∧ ∀ j,j < H.n→j ≠ id→H'.get j=H.get j:=by
 refine R_of_body (C:=PT) (f:=121) (lo:=lo) (args:=[.ptr id (i * 10),.agg (evC num kind [p] [tk] text)]) (H:=H) (fn:=Tryz.f121) (Q:=fun _ H'=>H'.n=H.n+1∧H'.get id=.row (((ps.set i { y with prot:=false }).map Pos.Pos.row).flatten++cs) 10 141 ∧ ∀ j,j < H.n→j ≠ id→H'.get j=H.get j) (by kernel_rfl) Tryz.func121 rfl rfl ?_
 have hL:Len 10 (ps.map Pos.Pos.row):=rows_Len (by intro x;rfl) _
 have hx1:(ps.map Pos.Pos.row)[i]? = some y.row:=map_at hx
 have hidn:(id=H.n)=False:=eq_false (by omega)
 have hid1:=eq_true hid
 have hidl:(id < H.n+1)=True:=eq_true (by omega)
 have g0:(H.push (.cells (evC num kind [p] [tk] text) 70)).get id=.row ((ps.map Pos.Pos.row).flatten++cs) 10 141:=by rw [Heap.get_push,if_neg (by omega)];exact hg
 have s0:=st_row (lo:=lo) (i:=i) (k:=5) (t:=4) (c:=.bool false) g0 hlo hL hx1 (by decide) (by kernel_rfl) rfl rfl
 have hfin:((ps.set i { y with prot:=false }).map Pos.Pos.row)=((ps.map Pos.Pos.row).set i (y.row.set 5 (.bool false))):=by
  rw [List.map_set]
  rfl
 simp (config:={ maxDischargeDepth:=12 }) only [go_sem,reduceIte,reduceEqDiff,reduceAdd,reduceMul,reduceSub,reduceLeDiff,reduceLT,Nat.reduceBEq,reduceCtorEq,g0,hg,hidn,hid1,hidl,s0]
 rw [hfin]
 refine ⟨rfl,fun j hj hne => ?_⟩
 have e1:j ≠ H.n:=by omega
 simp only [hne,e1,if_false]
theorem g_19 {lo id i:Nat} {H:Heap} {ps:List Pos} {cs:List AV} {y:Pos} {num tk v:Int} {kind text p:Nm} (hlo:lo≤id) (hid:id < H.n) (hg:H.get id=.row ((ps.map Pos.Pos.row).flatten++cs) 10 141) (hx:ps[i]? = some y) (hw:wrapq .i64 (Int.add y.pers v)=y.pers+v):∃ w H',R PT (.call lo 128 [.ptr id (i * 10),.agg (evC num kind [p] [tk,v] text)] H)=some (.ofVal w H')∧H'.n=H.n+1∧H'.get id=.row (((ps.set i { y with pers:=y.pers+v }).map Pos.Pos.row).flatten++cs) 10 141 ∧ ∀ j,j < H.n→j ≠ id→H'.get j=H.get j:=by
 refine R_of_body (C:=PT) (f:=128) (lo:=lo) (args:=[.ptr id (i * 10),.agg (evC num kind [p] [tk,v] text)]) (H:=H) (fn:=Tryz.f128) (Q:=fun _ H'=>H'.n=H.n+1∧H'.get id=.row (((ps.set i { y with pers:=y.pers+v }).map Pos.Pos.row).flatten++cs) 10 141 ∧ ∀ j,j < H.n→j ≠ id→H'.get j=H.get j) (by kernel_rfl) Tryz.func128 rfl rfl ?_
 have hL:Len 10 (ps.map Pos.Pos.row):=rows_Len (by intro x;rfl) _
 have hx1:(ps.map Pos.Pos.row)[i]? = some y.row:=map_at hx
 have hidn:(id=H.n)=False:=eq_false (by omega)
 have hid1:=eq_true hid
 have hidl:(id < H.n+1)=True:=eq_true (by omega)
 have g0:(H.push (.cells (evC num kind [p] [tk,v] text) 70)).get id=.row ((ps.map Pos.Pos.row).flatten++cs) 10 141:=by rw [Heap.get_push,if_neg (by omega)];exact hg
 have hl8:=fun (H':Heap) (hg:H'.get id=.row ((ps.map Pos.Pos.row).flatten++cs) 10 141)=>ld_row (t:=3) (k:=8) (c:=.int .i64 y.pers) hg hL hx1 rfl (by kernel_rfl) (by kernel_rfl)
 have s0:=st_row (lo:=lo) (i:=i) (k:=8) (t:=3) (c:=.int .i64 (y.pers+v)) g0 hlo hL hx1 (by decide) (by kernel_rfl) rfl rfl
 have hfin:((ps.set i { y with pers:=y.pers+v }).map Pos.Pos.row)=((ps.map Pos.Pos.row).set i (y.row.set 8 (.int .i64 (y.pers+v)))):=by
  rw [List.map_set]
  rfl
 simp (config:={ maxDischargeDepth:=12 }) only [go_sem,reduceIte,reduceEqDiff,reduceAdd,reduceMul,reduceSub,reduceLeDiff,reduceLT,Nat.reduceBEq,reduceCtorEq,g0,hg,hidn,hid1,hidl,hl8,s0,hw]
 rw [hfin]
 refine ⟨rfl,fun j hj hne => ?_⟩
 have e1:j ≠ H.n:=by omega
 simp only [hne,e1,if_false]
theorem g_21 {lo id i:Nat} {H:Heap} {ps:List Pos} {cs:List AV} {y:Pos} {num tk v:Int} {kind text p:Nm} (hlo:lo≤id) (hid:id < H.n) (hg:H.get id=.row ((ps.map Pos.Pos.row).flatten++cs) 10 141) (hx:ps[i]? = some y) (hw:wrapq .i64 (Int.sub y.pers v)=y.pers - v):∃ w H',R PT (.call lo 130 [.ptr id (i * 10),.agg (evC num kind [p] [tk,v] text)] H)=some (.ofVal w H')∧H'.n=H.n+1∧H'.get id=.row (((ps.set i { y with pers:=y.pers - v }).map Pos.Pos.row).flatten++cs) 10 141 ∧ ∀ j,j < H.n→j ≠ id→H'.get j=H.get j:=by
 refine R_of_body (C:=PT) (f:=130) (lo:=lo) (args:=[.ptr id (i * 10),.agg (evC num kind [p] [tk,v] text)]) (H:=H) (fn:=Tryz.f130) (Q:=fun _ H'=>H'.n=H.n+1∧H'.get id=.row (((ps.set i { y with pers:=y.pers - v }).map Pos.Pos.row).flatten++cs) 10 141 ∧ ∀ j,j < H.n→j ≠ id→H'.get j=H.get j) (by kernel_rfl) Tryz.func130 rfl rfl ?_
 have hL:Len 10 (ps.map Pos.Pos.row):=rows_Len (by intro x;rfl) _
 have hx1:(ps.map Pos.Pos.row)[i]? = some y.row:=map_at hx
 have hidn:(id=H.n)=False:=eq_false (by omega)
 have hid1:=eq_true hid
 have hidl:(id < H.n+1)=True:=eq_true (by omega)
 have g0:(H.push (.cells (evC num kind [p] [tk,v] text) 70)).get id=.row ((ps.map Pos.Pos.row).flatten++cs) 10 141:=by rw [Heap.get_push,if_neg (by omega)];exact hg
 have hl8:=fun (H':Heap) (hg:H'.get id=.row ((ps.map Pos.Pos.row).flatten++cs) 10 141)=>ld_row (t:=3) (k:=8) (c:=.int .i64 y.pers) hg hL hx1 rfl (by kernel_rfl) (by kernel_rfl)
 have s0:=st_row (lo:=lo) (i:=i) (k:=8) (t:=3) (c:=.int .i64 (y.pers - v)) g0 hlo hL hx1 (by decide) (by kernel_rfl) rfl rfl
 have hfin:((ps.set i { y with pers:=y.pers - v }).map Pos.Pos.row)=((ps.map Pos.Pos.row).set i (y.row.set 8 (.int .i64 (y.pers - v)))):=by
  rw [List.map_set]
  rfl
 simp (config:={ maxDischargeDepth:=12 }) only [go_sem,reduceIte,reduceEqDiff,reduceAdd,reduceMul,reduceSub,reduceLeDiff,reduceLT,Nat.reduceBEq,reduceCtorEq,g0,hg,hidn,hid1,hidl,hl8,s0,hw]
 rw [hfin]
 refine ⟨rfl,fun j hj hne => ?_⟩
 have e1:j ≠ H.n:=by omega
 simp only [hne,e1,if_false]
theorem g_23 {lo id i:Nat} {H:Heap} {ps:List Pos} {cs:List AV} {y:Pos} {num tk  : Int} {kind text p:Nm} (hlo:lo≤id) (hid:id < H.n) (hg:H.get id=.row ((ps.map Pos.Pos.row).flatten++cs) 10 141) (hx:ps[i]? = some y)  : ∃ w H',R PT (.call lo 132 [.ptr id (i * 10),.agg (evC num kind [p] [tk] text)] H)=some (.ofVal w H')∧H'.n=H.n+1∧H'.get id=.row (((ps.set i { y with opn:=true }).map Pos.Pos.row).flatten++cs) 10 141 ∧ ∀ j,j < H.n→j ≠ id→H'.get j=H.get j:=by
 refine R_of_body (C:=PT) (f:=132) (lo:=lo) (args:=[.ptr id (i * 10),.agg (evC num kind [p] [tk] text)]) (H:=H) (fn:=Tryz.f132) (Q:=fun _ H'=>H'.n=H.n+1∧H'.get id=.row (((ps.set i { y with opn:=true }).map Pos.Pos.row).flatten++cs) 10 141 ∧ ∀ j,j < H.n→j ≠ id→H'.get j=H.get j) (by kernel_rfl) Tryz.func132 rfl rfl ?_
 have hL:Len 10 (ps.map Pos.Pos.row):=rows_Len (by intro x;rfl) _
 have hx1:(ps.map Pos.Pos.row)[i]? = some y.row:=map_at hx
 have hidn:(id=H.n)=False:=eq_false (by omega)
 have hid1:=eq_true hid
 have hidl:(id < H.n+1)=True:=eq_true (by omega)
 have g0:(H.push (.cells (evC num kind [p] [tk] text) 70)).get id=.row ((ps.map Pos.Pos.row).flatten++cs) 10 141:=by rw [Heap.get_push,if_neg (by omega)];exact hg
 have s0:=st_row (lo:=lo) (i:=i) (k:=6) (t:=4) (c:=.bool true) g0 hlo hL hx1 (by decide) (by kernel_rfl) rfl rfl
 have hfin:((ps.set i { y with opn:=true }).map Pos.Pos.row)=((ps.map Pos.Pos.row).set i (y.row.set 6 (.bool true))):=by
  rw [List.map_set]
  rfl
 simp (config:={ maxDischargeDepth:=12 }) only [go_sem,reduceIte,reduceEqDiff,reduceAdd,reduceMul,reduceSub,reduceLeDiff,reduceLT,Nat.reduceBEq,reduceCtorEq,g0,hg,hidn,hid1,hidl,s0]
 rw [hfin]
 refine ⟨rfl,fun j hj hne => ?_⟩
 have e1:j ≠ H.n:=by omega
 simp only [hne,e1,if_false]
theorem g_25 {lo id i:Nat} {H:Heap} {ps:List Pos} {cs:List AV} {y:Pos} {num tk v:Int} {kind text p:Nm} (hlo:lo≤id) (hid:id < H.n) (hg:H.get id=.row ((ps.map Pos.Pos.row).flatten++cs) 10 141) (hx:ps[i]? = some y) (hw:wrapq .i64 (Int.add y.closed 1)=y.closed+1):∃ w H',R PT (.call lo 134 [.ptr id (i * 10),.agg (evC num kind [p] [tk,v] text)] H)=some (.ofVal w H')∧H'.n=H.n+1∧H'.get id=.row (((ps.set i { y with opn:=false,closed:=y.closed+1,speed:=v }).map Pos.Pos.row).flatten++cs) 10 141 ∧ ∀ j,j < H.n→j ≠ id→H'.get j=H.get j:=by
 refine R_of_body (C:=PT) (f:=134) (lo:=lo) (args:=[.ptr id (i * 10),.agg (evC num kind [p] [tk,v] text)]) (H:=H) (fn:=Tryz.f134) (Q:=fun _ H'=>H'.n=H.n+1∧H'.get id=.row (((ps.set i { y with opn:=false,closed:=y.closed+1,speed:=v }).map Pos.Pos.row).flatten++cs) 10 141 ∧ ∀ j,j < H.n→j ≠ id→H'.get j=H.get j) (by kernel_rfl) Tryz.func134 rfl rfl ?_
 have hL:Len 10 (ps.map Pos.Pos.row):=rows_Len (by intro x;rfl) _
 have hx1:(ps.map Pos.Pos.row)[i]? = some y.row:=map_at hx
 have hidn:(id=H.n)=False:=eq_false (by omega)
 have hid1:=eq_true hid
 have hidl:(id < H.n+1)=True:=eq_true (by omega)
 have g0:(H.push (.cells (evC num kind [p] [tk,v] text) 70)).get id=.row ((ps.map Pos.Pos.row).flatten++cs) 10 141:=by rw [Heap.get_push,if_neg (by omega)];exact hg
 have hl7:=fun (H':Heap) (hg:H'.get id=.row ((ps.map Pos.Pos.row).flatten++cs) 10 141)=>ld_row (t:=3) (k:=7) (c:=.int .i64 y.closed) hg hL hx1 rfl (by kernel_rfl) (by kernel_rfl)
 have s0:=st_row (lo:=lo) (i:=i) (k:=6) (t:=4) (c:=.bool false) g0 hlo hL hx1 (by decide) (by kernel_rfl) rfl rfl
 have G0:((H.push (.cells (evC num kind [p] [tk,v] text) 70)).set id (.row (((ps.map Pos.Pos.row).set i (y.row.set 6 (.bool false))).flatten++cs) 10 141)).get id=.row (((ps.map Pos.Pos.row).set i (y.row.set 6 (.bool false))).flatten++cs) 10 141:=by rw [Heap.get_set,if_pos rfl]
 have L0:Len 10 ((ps.map Pos.Pos.row).set i (y.row.set 6 (.bool false))):=len_set hL rfl
 have X0:((ps.map Pos.Pos.row).set i (y.row.set 6 (.bool false)))[i]? = some (y.row.set 6 (.bool false)):=by rw [List.getElem?_set_self (by simpa using (List.getElem?_eq_some_iff.1 hx1).1)]
 have s1:=st_row (lo:=lo) (i:=i) (k:=7) (t:=3) (c:=.int .i64 (y.closed+1)) G0 hlo L0 X0 (by decide) (by kernel_rfl) rfl rfl
 have G1:(((H.push (.cells (evC num kind [p] [tk,v] text) 70)).set id (.row (((ps.map Pos.Pos.row).set i (y.row.set 6 (.bool false))).flatten++cs) 10 141)).set id (.row ((((ps.map Pos.Pos.row).set i (y.row.set 6 (.bool false))).set i ((y.row.set 6 (.bool false)).set 7 (.int .i64 (y.closed+1)))).flatten++cs) 10 141)).get id=.row ((((ps.map Pos.Pos.row).set i (y.row.set 6 (.bool false))).set i ((y.row.set 6 (.bool false)).set 7 (.int .i64 (y.closed+1)))).flatten++cs) 10 141:=by rw [Heap.get_set,if_pos rfl]
 have L1:Len 10 (((ps.map Pos.Pos.row).set i (y.row.set 6 (.bool false))).set i ((y.row.set 6 (.bool false)).set 7 (.int .i64 (y.closed+1)))):=len_set L0 rfl
 have X1:(((ps.map Pos.Pos.row).set i (y.row.set 6 (.bool false))).set i ((y.row.set 6 (.bool false)).set 7 (.int .i64 (y.closed+1))))[i]? = some ((y.row.set 6 (.bool false)).set 7 (.int .i64 (y.closed+1))):=by rw [List.getElem?_set_self (by simpa using (List.getElem?_eq_some_iff.1 X0).1)]
 have s2:=st_row (lo:=lo) (i:=i) (k:=9) (t:=3) (c:=.int .i64 v) G1 hlo L1 X1 (by decide) (by kernel_rfl) rfl rfl
 have hfin:((ps.set i { y with opn:=false,closed:=y.closed+1,speed:=v }).map Pos.Pos.row)=((((ps.map Pos.Pos.row).set i (y.row.set 6 (.bool false))).set i ((y.row.set 6 (.bool false)).set 7 (.int .i64 (y.closed+1)))).set i (((y.row.set 6 (.bool false)).set 7 (.int .i64 (y.closed+1))).set 9 (.int .i64 v))):=by
  rw [List.map_set]
  simp only [List.set_set];rfl
 simp (config:={ maxDischargeDepth:=12 }) only [go_sem,reduceIte,reduceEqDiff,reduceAdd,reduceMul,reduceSub,reduceLeDiff,reduceLT,Nat.reduceBEq,reduceCtorEq,g0,hg,hidn,hid1,hidl,hl7,s0,s1,s2,hw]
 rw [hfin]
 refine ⟨rfl,fun j hj hne => ?_⟩
 have e1:j ≠ H.n:=by omega
 simp only [hne,e1,if_false]
theorem g_27 {lo id i:Nat} {H:Heap} {ps:List Pos} {cs:List AV} {y:Pos} {num tk  : Int} {kind text p:Nm} (hlo:lo≤id) (hid:id < H.n) (hg:H.get id=.row ((ps.map Pos.Pos.row).flatten++cs) 10 141) (hx:ps[i]? = some y)  : ∃ w H',R PT (.call lo 137 [.ptr id (i * 10),.agg (evC num kind [p] [tk] text)] H)=some (.ofVal w H')∧H'.n=H.n+1∧H'.get id=.row (((ps.set i { y with ret:=true }).map Pos.Pos.row).flatten++cs) 10 141 ∧ ∀ j,j < H.n→j ≠ id→H'.get j=H.get j:=by
 refine R_of_body (C:=PT) (f:=137) (lo:=lo) (args:=[.ptr id (i * 10),.agg (evC num kind [p] [tk] text)]) (H:=H) (fn:=Tryz.f137) (Q:=fun _ H'=>H'.n=H.n+1∧H'.get id=.row (((ps.set i { y with ret:=true }).map Pos.Pos.row).flatten++cs) 10 141 ∧ ∀ j,j < H.n→j ≠ id→H'.get j=H.get j) (by kernel_rfl) Tryz.func137 rfl rfl ?_
 have hL:Len 10 (ps.map Pos.Pos.row):=rows_Len (by intro x;rfl) _
 have hx1:(ps.map Pos.Pos.row)[i]? = some y.row:=map_at hx
 have hidn:(id=H.n)=False:=eq_false (by omega)
 have hid1:=eq_true hid
 have hidl:(id < H.n+1)=True:=eq_true (by omega)
 have g0:(H.push (.cells (evC num kind [p] [tk] text) 70)).get id=.row ((ps.map Pos.Pos.row).flatten++cs) 10 141:=by rw [Heap.get_push,if_neg (by omega)];exact hg
 have s0:=st_row (lo:=lo) (i:=i) (k:=4) (t:=4) (c:=.bool true) g0 hlo hL hx1 (by decide) (by kernel_rfl) rfl rfl
 have hfin:((ps.set i { y with ret:=true }).map Pos.Pos.row)=((ps.map Pos.Pos.row).set i (y.row.set 4 (.bool true))):=by
  rw [List.map_set]
  rfl
 simp (config:={ maxDischargeDepth:=12 }) only [go_sem,reduceIte,reduceEqDiff,reduceAdd,reduceMul,reduceSub,reduceLeDiff,reduceLT,Nat.reduceBEq,reduceCtorEq,g0,hg,hidn,hid1,hidl,s0]
 rw [hfin]
 refine ⟨rfl,fun j hj hne => ?_⟩
 have e1:j ≠ H.n:=by omega
 simp only [hne,e1,if_false]
theorem g_29 {lo id i:Nat} {H:Heap} {ps:List Pos} {cs:List AV} {y:Pos} {num tk v:Int} {kind text p:Nm} (hlo:lo≤id) (hid:id < H.n) (hg:H.get id=.row ((ps.map Pos.Pos.row).flatten++cs) 10 141) (hx:ps[i]? = some y)  : ∃ w H',R PT (.call lo 140 [.ptr id (i * 10),.agg (evC num kind [p] [tk,v] text)] H)=some (.ofVal w H')∧H'.n=H.n+1∧H'.get id=.row (((ps.set i { y with speed:=v }).map Pos.Pos.row).flatten++cs) 10 141 ∧ ∀ j,j < H.n→j ≠ id→H'.get j=H.get j:=by
 refine R_of_body (C:=PT) (f:=140) (lo:=lo) (args:=[.ptr id (i * 10),.agg (evC num kind [p] [tk,v] text)]) (H:=H) (fn:=Tryz.f140) (Q:=fun _ H'=>H'.n=H.n+1∧H'.get id=.row (((ps.set i { y with speed:=v }).map Pos.Pos.row).flatten++cs) 10 141 ∧ ∀ j,j < H.n→j ≠ id→H'.get j=H.get j) (by kernel_rfl) Tryz.func140 rfl rfl ?_
 have hL:Len 10 (ps.map Pos.Pos.row):=rows_Len (by intro x;rfl) _
 have hx1:(ps.map Pos.Pos.row)[i]? = some y.row:=map_at hx
 have hidn:(id=H.n)=False:=eq_false (by omega)
 have hid1:=eq_true hid
 have hidl:(id < H.n+1)=True:=eq_true (by omega)
 have g0:(H.push (.cells (evC num kind [p] [tk,v] text) 70)).get id=.row ((ps.map Pos.Pos.row).flatten++cs) 10 141:=by rw [Heap.get_push,if_neg (by omega)];exact hg
 have s0:=st_row (lo:=lo) (i:=i) (k:=9) (t:=3) (c:=.int .i64 v) g0 hlo hL hx1 (by decide) (by kernel_rfl) rfl rfl
 have hfin:((ps.set i { y with speed:=v }).map Pos.Pos.row)=((ps.map Pos.Pos.row).set i (y.row.set 9 (.int .i64 v))):=by
  rw [List.map_set]
  rfl
 simp (config:={ maxDischargeDepth:=12 }) only [go_sem,reduceIte,reduceEqDiff,reduceAdd,reduceMul,reduceSub,reduceLeDiff,reduceLT,Nat.reduceBEq,reduceCtorEq,g0,hg,hidn,hid1,hidl,s0]
 rw [hfin]
 refine ⟨rfl,fun j hj hne => ?_⟩
 have e1:j ≠ H.n:=by omega
 simp only [hne,e1,if_false]
section
variable {lo:Nat} {H H':Heap} {b:Nat} {pre post:List AV} {e:TypeId} {r:Reg} {V:RegV}
theorem RegW.reF (h:RegW lo H b pre post e r V) (c:Chg lo b (rowX 7 97) H H') (hb:H'.get b=H.get b) {xs:List Flt} (hv:SW lo H' V.vF 7 97 (xs.map Pos.Flt.row)) (hl:xs.length≤maxRows):RegW lo H' b pre post e { r with faults:=xs } V∧Chg lo b regX H H':=by
 have hcb:∃ cs e,H.get b=.cells cs e:=⟨_,_,h.blk⟩
 exact ⟨⟨Nat.lt_of_lt_of_le h.bn c.n,h.lob,hb.trans h.blk,h.aT.chg c (fun cs ⟨_,hx⟩=>by cases hx) hcb,hv,h.aR.chg c (fun cs ⟨_,hx⟩=>by cases hx) hcb,h.aP.chg c (fun cs ⟨_,hx⟩=>by cases hx) hcb,h.aM.chg c (fun cs ⟨_,hx⟩=>by cases hx) hcb,h.lT,hl,h.lR,h.lP,h.lM⟩,c.mono fun x ⟨cs,hx⟩=>⟨cs,_,_,hx,by decide⟩⟩
theorem RegW.reP (h:RegW lo H b pre post e r V) (c:Chg lo b (rowX 10 141) H H') (hb:H'.get b=H.get b) {xs:List Pos} (hv:SW lo H' V.vP 10 141 (xs.map Pos.Pos.row)) (hl:xs.length≤maxRows):RegW lo H' b pre post e { r with poss:=xs } V∧Chg lo b regX H H':=by
 have hcb:∃ cs e,H.get b=.cells cs e:=⟨_,_,h.blk⟩
 exact ⟨⟨Nat.lt_of_lt_of_le h.bn c.n,h.lob,hb.trans h.blk,h.aT.chg c (fun cs ⟨_,hx⟩=>by cases hx) hcb,h.aF.chg c (fun cs ⟨_,hx⟩=>by cases hx) hcb,h.aR.chg c (fun cs ⟨_,hx⟩=>by cases hx) hcb,hv,h.aM.chg c (fun cs ⟨_,hx⟩=>by cases hx) hcb,h.lT,h.lF,h.lR,hl,h.lM⟩,c.mono fun x ⟨cs,hx⟩=>⟨cs,_,_,hx,by decide⟩⟩
end
theorem w_Answer {lo:Nat} {H:Heap} {b:Nat} {pre post:List AV} {e:TypeId} {r:Reg} {V:RegV} (h:RegW lo H b pre post e r V) {num tk:Int} {kind text f p:Nm} {i:Nat} {y:Flt} (hf:At (·.name) r.faults f i y):∃ w H',R PT (.call lo 104 [.ptr b pre.length,.agg (evC num kind [f] [tk] text)] H)=some (.ofVal w H')∧RegW lo H' b pre post e { r with faults:=r.faults.set i { y with ans:=true } } V∧Chg lo b regX H H':=by
 refine R_of_body (C:=PT) (f:=104) (lo:=lo) (args:=[.ptr b pre.length,.agg (evC num kind [f] [tk] text)]) (H:=H) (fn:=Tryz.f104) (Q:=fun _ H'=>RegW lo H' b pre post e { r with faults:=r.faults.set i { y with ans:=true } } V∧Chg lo b regX H H') (by kernel_rfl) Tryz.func104 rfl rfl ?_
 have ho:Old H.n H (H.push (.cells (evC num kind [f] [tk] text) 70)):=(Old.refl H).push _
 have h1:=h.old ho
 have hfa:=fun lo K=>e_fault h.is hf.idx hf.lt ho (lo:=lo) (K:=K)
 obtain ⟨hr,_⟩ | ⟨id,cs,m,hv,hid,hg,hcs⟩:=h1.aF.1
 · have:=hf.at'
   rw [List.map_eq_nil_iff.1 hr] at this
   cases this
 have hlo:lo≤id:=h1.aF.2 _ _ _ _ _ hv
 have hL:Len 7 (r.faults.map Pos.Flt.row):=rows_Len (by intro x;rfl) _
 have hx1:(r.faults.map Pos.Flt.row)[i]? = some y.row:=map_at hf.at'
 have hel:elA V.vF 7 i=.ptr id (i * 7):=by rw [hv];show AV.ptr id (0+i * 7)=_;rw [Nat.zero_add]
 have hst:=st_row (lo:=lo) (i:=i) (k:=5) (t:=4) (c:=.bool true) hg hlo hL hx1 (by decide) (by kernel_rfl) rfl rfl
 have hbn:=eq_true h.bn
 have hidb:id ≠ b:=fun he=>by rw [he,h1.blk] at hg;cases hg
 have hc:Chg lo b (rowX 7 97) (H.push (.cells (evC num kind [f] [tk] text) 70)) ((H.push (.cells (evC num kind [f] [tk] text) 70)).set id (.row (((r.faults.map Pos.Flt.row).set i (y.row.set 5 (.bool true))).flatten++cs) 7 97)):=(Chg.refl _).set hlo (.inr (.inl ⟨_,hg⟩)) _
 have hfin:((r.faults.set i { y with ans:=true }).map Pos.Flt.row)=((r.faults.map Pos.Flt.row).set i (y.row.set 5 (.bool true))):=by rw [List.map_set];rfl
 obtain ⟨g1,g2⟩:=h1.reF (xs:=r.faults.set i { y with ans:=true }) hc (by rw [Heap.get_set,if_neg (Ne.symm hidb)]) (by
  rw [hv,hfin]
  exact sw_set hlo (by simpa using hid) (by rw [List.length_set]) hcs (by rw [Heap.get_set,if_pos rfl])) (by rw [List.length_set];exact h.lF)
 simp (config:={ maxDischargeDepth:=12 }) only [go_sem,reduceIte,reduceEqDiff,reduceAdd,reduceMul,reduceSub,reduceLeDiff,reduceLT,Nat.reduceBEq,reduceCtorEq,hfa,hbn,hel,hst]
 exact ⟨g1,((Chg.refl H).push _).to g2⟩
theorem w_Repair {lo:Nat} {H:Heap} {b:Nat} {pre post:List AV} {e:TypeId} {r:Reg} {V:RegV} (h:RegW lo H b pre post e r V) {num tk:Int} {kind text f p:Nm} {i:Nat} {y:Flt} (hf:At (·.name) r.faults f i y):∃ w H',R PT (.call lo 106 [.ptr b pre.length,.agg (evC num kind [f,p] [tk] text)] H)=some (.ofVal w H')∧RegW lo H' b pre post e { r with faults:=r.faults.set i { y with rep:=true } } V∧Chg lo b regX H H':=by
 refine R_of_body (C:=PT) (f:=106) (lo:=lo) (args:=[.ptr b pre.length,.agg (evC num kind [f,p] [tk] text)]) (H:=H) (fn:=Tryz.f106) (Q:=fun _ H'=>RegW lo H' b pre post e { r with faults:=r.faults.set i { y with rep:=true } } V∧Chg lo b regX H H') (by kernel_rfl) Tryz.func106 rfl rfl ?_
 have ho:Old H.n H (H.push (.cells (evC num kind [f,p] [tk] text) 70)):=(Old.refl H).push _
 have h1:=h.old ho
 have hfa:=fun lo K=>e_fault h.is hf.idx hf.lt ho (lo:=lo) (K:=K)
 obtain ⟨hr,_⟩ | ⟨id,cs,m,hv,hid,hg,hcs⟩:=h1.aF.1
 · have:=hf.at'
   rw [List.map_eq_nil_iff.1 hr] at this
   cases this
 have hlo:lo≤id:=h1.aF.2 _ _ _ _ _ hv
 have hL:Len 7 (r.faults.map Pos.Flt.row):=rows_Len (by intro x;rfl) _
 have hx1:(r.faults.map Pos.Flt.row)[i]? = some y.row:=map_at hf.at'
 have hel:elA V.vF 7 i=.ptr id (i * 7):=by rw [hv];show AV.ptr id (0+i * 7)=_;rw [Nat.zero_add]
 have hst:=st_row (lo:=lo) (i:=i) (k:=6) (t:=4) (c:=.bool true) hg hlo hL hx1 (by decide) (by kernel_rfl) rfl rfl
 have hbn:=eq_true h.bn
 have hidb:id ≠ b:=fun he=>by rw [he,h1.blk] at hg;cases hg
 have hc:Chg lo b (rowX 7 97) (H.push (.cells (evC num kind [f,p] [tk] text) 70)) ((H.push (.cells (evC num kind [f,p] [tk] text) 70)).set id (.row (((r.faults.map Pos.Flt.row).set i (y.row.set 6 (.bool true))).flatten++cs) 7 97)):=(Chg.refl _).set hlo (.inr (.inl ⟨_,hg⟩)) _
 have hfin:((r.faults.set i { y with rep:=true }).map Pos.Flt.row)=((r.faults.map Pos.Flt.row).set i (y.row.set 6 (.bool true))):=by rw [List.map_set];rfl
 obtain ⟨g1,g2⟩:=h1.reF (xs:=r.faults.set i { y with rep:=true }) hc (by rw [Heap.get_set,if_neg (Ne.symm hidb)]) (by
  rw [hv,hfin]
  exact sw_set hlo (by simpa using hid) (by rw [List.length_set]) hcs (by rw [Heap.get_set,if_pos rfl])) (by rw [List.length_set];exact h.lF)
 simp (config:={ maxDischargeDepth:=12 }) only [go_sem,reduceIte,reduceEqDiff,reduceAdd,reduceMul,reduceSub,reduceLeDiff,reduceLT,Nat.reduceBEq,reduceCtorEq,hfa,hbn,hel,hst]
 exact ⟨g1,((Chg.refl H).push _).to g2⟩
theorem w_on {lo:Nat} {H:Heap} {b:Nat} {pre post:List AV} {e:TypeId} {r:Reg} {V:RegV} (h:RegW lo H b pre post e r V) {num:Int} {kind text p:Nm} {vals:List Int} {i:Nat} {y:Pos} (hf:At (·.name) r.poss p i y) {bx:Nat} (hbx:bx < H.n) {g:FuncId} (hgb:H.get bx=.cells [.fn g [] []] 186) {f:Pos→Pos}
 (hen:∀ {lo:Nat} {args:List AV} {H:Heap} {K:AV→Heap→Prop},VO (aenter PT (R PT) lo g args H) K=AO (R PT (.call lo g args H)) fun o=>K o.val o.s.H)
 (hg:∀ (id:Nat) (H:Heap) (cs:List AV),lo≤id→id < H.n→H.get id=.row ((r.poss.map Pos.Pos.row).flatten++cs) 10 141 → ∃ w H',R PT (.call lo g [.ptr id (i * 10),.agg (evC num kind [p] vals text)] H)=some (.ofVal w H')∧H'.n=H.n+1∧H'.get id=.row (((r.poss.set i (f y)).map Pos.Pos.row).flatten++cs) 10 141 ∧ ∀ j,j < H.n→j ≠ id→H'.get j=H.get j) :
 ∃ w H',R PT (.call lo 146 [.ptr b pre.length,.agg (evC num kind [p] vals text),.ptr bx 0] H)=some (.ofVal w H')∧RegW lo H' b pre post e { r with poss:=r.poss.set i (f y) } V∧Chg lo b regX H H':=by
 refine R_of_body (C:=PT) (f:=146) (lo:=lo) (args:=[.ptr b pre.length,.agg (evC num kind [p] vals text),.ptr bx 0]) (H:=H) (fn:=Tryz.f146) (Q:=fun _ H'=>RegW lo H' b pre post e { r with poss:=r.poss.set i (f y) } V∧Chg lo b regX H H') (by kernel_rfl) Tryz.func146 rfl rfl ?_
 have ho:Old H.n H (H.push (.cells (evC num kind [p] vals text) 70)):=(Old.refl H).push _
 have h1:=h.old ho
 have hfa:=fun lo K=>e_poss h.is hf.idx hf.lt ho (lo:=lo) (K:=K)
 obtain ⟨hr,_⟩ | ⟨id,cs,m,hv,hid,hgi,hcs⟩:=h1.aP.1
 · have:=hf.at'
   rw [List.map_eq_nil_iff.1 hr] at this
   cases this
 have hlo:lo≤id:=h1.aP.2 _ _ _ _ _ hv
 have hel:elA V.vP 10 i=.ptr id (i * 10):=by rw [hv];show AV.ptr id (0+i * 10)=_;rw [Nat.zero_add]
 obtain ⟨w,H2,hR,hn,hg2,hoth⟩:=hg id _ cs hlo hid hgi
 have hcall:=fun K=>enter_f (K:=K) hen hR
 have hbn:=eq_true h.bn
 have hidb:id ≠ b:=fun he=>by rw [he,h1.blk] at hgi;cases hgi
 have hc:Chg lo b (rowX 10 141) (H.push (.cells (evC num kind [p] vals text) 70)) H2:=⟨by rw [hn];exact Nat.le_succ _,fun j hj=>by
  by_cases hji:j=id
  · exact .inr ⟨by rw [hji];exact hlo,.inr ⟨_,by rw [hji];exact hgi⟩⟩
  · exact .inl (hoth j hj hji)⟩
 obtain ⟨g1,g2⟩:=h1.reP (xs:=r.poss.set i (f y)) hc (hoth b h1.bn (Ne.symm hidb)) (by
  rw [hv]
  have:=sw_set (lo:=lo) (rows:=r.poss.map Pos.Pos.row) (rows':=(r.poss.set i (f y)).map Pos.Pos.row) hlo (by rw [hn];omega) (by simp) hcs hg2
  exact this) (by rw [List.length_set];exact h.lP)
 have hbx':=eq_true hbx
 have hbxn:(bx=H.n)=False:=eq_false (by omega)
 simp (config:={ maxDischargeDepth:=12 }) only [go_sem,reduceIte,reduceEqDiff,reduceAdd,reduceMul,reduceSub,reduceLeDiff,reduceLT,Nat.reduceBEq,reduceCtorEq,hfa,hbn,hel,hgb,hbx',hbxn,hcall]
 exact ⟨g1,((Chg.refl H).push _).to g2⟩
theorem en112 {P:FuncId→Option (List AV→Option AV)} (hP:P 112=none) {lo:Nat} {args:List AV} {H:Heap} {K:AV→Heap→Prop}:VO (aenter (NC.withPrims P) (R (NC.withPrims P)) lo 112 args H) K=AO (R (NC.withPrims P) (.call H.n 112 args H)) fun o=>o.val.strip.pure=true∧K o.val.strip H:=by
 refine enter_pure rfl ?_ (by kernel_rfl) (by kernel_rfl) (by kernel_rfl)
 show (match NC.prim 112 with | some p=>some p | none=>P 112)=none
 rw [hP];kernel_rfl
theorem en126 {P:FuncId→Option (List AV→Option AV)} (hP:P 126=none) {lo:Nat} {args:List AV} {H:Heap} {K:AV→Heap→Prop}:VO (aenter (NC.withPrims P) (R (NC.withPrims P)) lo 126 args H) K=AO (R (NC.withPrims P) (.call H.n 126 args H)) fun o=>o.val.strip.pure=true∧K o.val.strip H:=by
 refine enter_pure rfl ?_ (by kernel_rfl) (by kernel_rfl) (by kernel_rfl)
 show (match NC.prim 126 with | some p=>some p | none=>P 126)=none
 rw [hP];kernel_rfl
theorem e_not_Leave {H : Heap} {z : Trn} {id : Nat} {num tk : Int} {kind text x : Nm} (hid : id < H.n) (hg : H.get id = .cells (evC num kind [x] [tk] text) 70) {lo : Nat} {K : AV → Heap → Prop} : VO (aenter PT (R PT) lo 112 [.agg [.str z.name, .str z.track, .int .i64 z.speed], .ptr id 0] H) K = K (.bool (decide (z.name ≠ x))) H := by
 obtain ⟨w, H2, h1, h2⟩ := R_of_body (C := PT) (f := 112) (lo := H.n) (args := [.agg [.str z.name, .str z.track, .int .i64 z.speed], .ptr id 0]) (H := H) (fn := Tryz.f112) (Q := fun w _ => w = .bool (decide (z.name ≠ x))) (by kernel_rfl) Tryz.func112 rfl rfl (by
  have hne : (id = H.n) = False := eq_false (by omega)
  have hid1 := eq_true hid
  by_cases c : z.name = x
  · have c1 : decide (z.name = x) = true := decide_eq_true c
    have c2 : decide (z.name ≠ x) = false := decide_eq_false (by simpa using c)
    simp (config := { maxDischargeDepth := 12 }) only [go_sem, reduceIte, reduceEqDiff, reduceAdd, reduceMul, reduceSub, reduceLeDiff, reduceLT, Nat.reduceBEq, reduceCtorEq, hne, hid1, hg, beqL_dec, c1, c2]
  · have c1 : decide (z.name = x) = false := decide_eq_false c
    have c2 : decide (z.name ≠ x) = true := decide_eq_true c
    simp (config := { maxDischargeDepth := 12 }) only [go_sem, reduceIte, reduceEqDiff, reduceAdd, reduceMul, reduceSub, reduceLeDiff, reduceLT, Nat.reduceBEq, reduceCtorEq, hne, hid1, hg, beqL_dec, c1, c2])
 exact enter_p (en112 rfl) ⟨H2, h1⟩ (by rw [h2]; rfl) rfl
theorem w_Leave {lo:Nat} {H:Heap} {b:Nat} {pre post:List AV} {e:TypeId} {r:Reg} {V:RegV} (h:RegW lo H b pre post e r V) {num tk:Int} {kind text x:Nm}:∃ w H',R PT (.call lo 110 [.ptr b pre.length,.agg (evC num kind [x] [tk] text)] H)=some (.ofVal w H') ∧ ∃ V',RegW lo H' b pre post e { r with trains:=r.trains.filter fun z=>decide (z.name ≠ x) } V'∧Chg lo b regX H H':=by
 refine R_of_body (C:=PT) (f:=110) (lo:=lo) (args:=[.ptr b pre.length,.agg (evC num kind [x] [tk] text)]) (H:=H) (fn:=Tryz.f110) (Q:=fun _ H'=>∃ V',RegW lo H' b pre post e { r with trains:=r.trains.filter fun z=>decide (z.name ≠ x) } V'∧Chg lo b regX H H') (by kernel_rfl) Tryz.func110 rfl rfl ?_
 have hlo:lo≤H.n:=Nat.le_of_lt (Nat.lt_of_le_of_lt h.lob h.bn)
 have ho:Old H.n H (H.push (.cells (evC num kind [x] [tk] text) 70)):=(Old.refl H).push _
 have h1:=h.old ho
 obtain ⟨t,H2,hk,hA,hO⟩:=x_keptR h1.aR.pa.sl h.lR (g:=112) (caps:=[.ptr H.n 0]) (q:=fun z=>decide (z.name ≠ x)) rfl (fun z _ Hc hoc lo K=>e_not_Leave (Nat.lt_of_lt_of_le (by simp) hoc.1) (by rw [hoc.2 _ (by simp),Heap.get_push,if_pos rfl]))
 have hv:PW lo H2 (.ps t ((r.trains.filter fun z=>decide (z.name ≠ x)).map Pos.Trn.row)) 3 165 ((r.trains.filter fun z=>decide (z.name ≠ x)).map Pos.Trn.row):=by
  rcases hA with hA | ⟨j,a1,a2,a3,a4⟩
  · exact ⟨t,rfl,.inl hA⟩
  · exact ⟨t,rfl,.inr ⟨j,a1,a2,by simp at a3;omega,a4⟩⟩
 have hc:Chg lo b (rowX 3 165) (H.push (.cells (evC num kind [x] [tk] text) 70)) H2:=⟨hO.1,fun i hi=>.inl (hO.2 i hi)⟩
 have hcb:=hO.2 b h1.bn
 have hst:sst lo H2 100 (.ptr b (pre.length+3)) _=_:=st_cell (hcb.trans h1.blk) h.lob (by show 3 < 6;decide) (by kernel_rfl) hv.cells1 hv.one1
 obtain ⟨g1,g2⟩:=h1.putR hc hcb (xs:=r.trains.filter fun z=>decide (z.name ≠ x)) hv (Nat.le_trans (List.length_filter_le _ _) h.lR)
 have l1:=fun H'=>h.is.l3 (H':=H')
 have hbn:=eq_true h.bn
 simp (config:={ maxDischargeDepth:=12 }) only [go_sem,reduceIte,reduceEqDiff,reduceAdd,reduceMul,reduceSub,reduceLeDiff,reduceLT,Nat.reduceBEq,reduceCtorEq,l1,hbn,hk,hst]
 exact ⟨_,g1,((Chg.refl H).push _).to g2⟩
theorem e_not_Out {H : Heap} {z : Mch} {id : Nat} {num tk : Int} {kind text x : Nm} (hid : id < H.n) (hg : H.get id = .cells (evC num kind [x] [tk] text) 70) {lo : Nat} {K : AV → Heap → Prop} : VO (aenter PT (R PT) lo 126 [.agg [.str z.name, .str z.poss], .ptr id 0] H) K = K (.bool (decide (z.name ≠ x))) H := by
 obtain ⟨w, H2, h1, h2⟩ := R_of_body (C := PT) (f := 126) (lo := H.n) (args := [.agg [.str z.name, .str z.poss], .ptr id 0]) (H := H) (fn := Tryz.f126) (Q := fun w _ => w = .bool (decide (z.name ≠ x))) (by kernel_rfl) Tryz.func126 rfl rfl (by
  have hne : (id = H.n) = False := eq_false (by omega)
  have hid1 := eq_true hid
  by_cases c : z.name = x
  · have c1 : decide (z.name = x) = true := decide_eq_true c
    have c2 : decide (z.name ≠ x) = false := decide_eq_false (by simpa using c)
    simp (config := { maxDischargeDepth := 12 }) only [go_sem, reduceIte, reduceEqDiff, reduceAdd, reduceMul, reduceSub, reduceLeDiff, reduceLT, Nat.reduceBEq, reduceCtorEq, hne, hid1, hg, beqL_dec, c1, c2]
  · have c1 : decide (z.name = x) = false := decide_eq_false c
    have c2 : decide (z.name ≠ x) = true := decide_eq_true c
    simp (config := { maxDischargeDepth := 12 }) only [go_sem, reduceIte, reduceEqDiff, reduceAdd, reduceMul, reduceSub, reduceLeDiff, reduceLT, Nat.reduceBEq, reduceCtorEq, hne, hid1, hg, beqL_dec, c1, c2])
 exact enter_p (en126 rfl) ⟨H2, h1⟩ (by rw [h2]; rfl) rfl
theorem w_Out {lo:Nat} {H:Heap} {b:Nat} {pre post:List AV} {e:TypeId} {r:Reg} {V:RegV} (h:RegW lo H b pre post e r V) {num tk:Int} {kind text x:Nm}:∃ w H',R PT (.call lo 124 [.ptr b pre.length,.agg (evC num kind [x] [tk] text)] H)=some (.ofVal w H') ∧ ∃ V',RegW lo H' b pre post e { r with machs:=r.machs.filter fun z=>decide (z.name ≠ x) } V'∧Chg lo b regX H H':=by
 refine R_of_body (C:=PT) (f:=124) (lo:=lo) (args:=[.ptr b pre.length,.agg (evC num kind [x] [tk] text)]) (H:=H) (fn:=Tryz.f124) (Q:=fun _ H'=>∃ V',RegW lo H' b pre post e { r with machs:=r.machs.filter fun z=>decide (z.name ≠ x) } V'∧Chg lo b regX H H') (by kernel_rfl) Tryz.func124 rfl rfl ?_
 have hlo:lo≤H.n:=Nat.le_of_lt (Nat.lt_of_le_of_lt h.lob h.bn)
 have ho:Old H.n H (H.push (.cells (evC num kind [x] [tk] text) 70)):=(Old.refl H).push _
 have h1:=h.old ho
 obtain ⟨t,H2,hk,hA,hO⟩:=x_keptM h1.aM.pa.sl h.lM (g:=126) (caps:=[.ptr H.n 0]) (q:=fun z=>decide (z.name ≠ x)) rfl (fun z _ Hc hoc lo K=>e_not_Out (Nat.lt_of_lt_of_le (by simp) hoc.1) (by rw [hoc.2 _ (by simp),Heap.get_push,if_pos rfl]))
 have hv:PW lo H2 (.ps t ((r.machs.filter fun z=>decide (z.name ≠ x)).map Pos.Mch.row)) 2 171 ((r.machs.filter fun z=>decide (z.name ≠ x)).map Pos.Mch.row):=by
  rcases hA with hA | ⟨j,a1,a2,a3,a4⟩
  · exact ⟨t,rfl,.inl hA⟩
  · exact ⟨t,rfl,.inr ⟨j,a1,a2,by simp at a3;omega,a4⟩⟩
 have hc:Chg lo b (rowX 2 171) (H.push (.cells (evC num kind [x] [tk] text) 70)) H2:=⟨hO.1,fun i hi=>.inl (hO.2 i hi)⟩
 have hcb:=hO.2 b h1.bn
 have hst:sst lo H2 102 (.ptr b (pre.length+5)) _=_:=st_cell (hcb.trans h1.blk) h.lob (by show 5 < 6;decide) (by kernel_rfl) hv.cells1 hv.one1
 obtain ⟨g1,g2⟩:=h1.putM hc hcb (xs:=r.machs.filter fun z=>decide (z.name ≠ x)) hv (Nat.le_trans (List.length_filter_le _ _) h.lM)
 have l1:=fun H'=>h.is.l5 (H':=H')
 have hbn:=eq_true h.bn
 simp (config:={ maxDischargeDepth:=12 }) only [go_sem,reduceIte,reduceEqDiff,reduceAdd,reduceMul,reduceSub,reduceLeDiff,reduceLT,Nat.reduceBEq,reduceCtorEq,l1,hbn,hk,hst]
 exact ⟨_,g1,((Chg.refl H).push _).to g2⟩
def AppOk (r:Reg) (a:Pos.Act) (num:Int) (kind:Nm) (names:List Nm) (vals:List Int) (text:Nm) (n:Nat):Prop :=
 ∃ nm fv f1 l1 f2 l2,lkS kind (formsM n)=some (.agg [.str nm,.int .i64 fv,.fn f1 [] l1,.fn f2 [] l2])∧(l1.map strp=l1∧l2.map strp=l2)∧(∀ m,n+17≤m→underAll m l1=true∧underAll m l2=true) ∧
   ∀ lo H b pre post e V,FormsAt n H→n+17≤H.n→RegW lo H b pre post e r V → ∃ w H' V',(∀ K,VO (aenter PT (R PT) lo f2 (.ptr b pre.length :: .agg (evC num kind names vals text)::l2) H) K=K w H')∧RegW lo H' b pre post e (Pos.doA r r.tick a) V'∧Chg lo b regX H H'
theorem upd_at {α:Type} {nm:α→Nm} {g:α→α} {l:List α} {s:Nm} {i:Nat} {y:α} (u:Pos.Uniq nm l) (h:At nm l s i y):l.set i (g y)=l.map fun z=>if nm z=s then g z else z:=by
 rw [Pos.set_upd (g:=g) u h.at',h.nm']
theorem ok_staff {r:Reg} {tk v:Int} {p:Nm} {y:Pos} (S:Pos.Safe r) (hy:r.poss? p=some y) (hok:Pos.okA r tk (.staff p v)=0):0≤y.pers∧y.pers≤100∧1≤v∧v≤100:=by
 have hp:=S.pers y (Pos.poss_mem hy).1
 unfold Pos.okA at hok
 split at hok
 · cases hok
 simp only [Pos.inOpen,hy] at hok
 split at hok
 · cases hok
 split at hok
 · cases hok
 omega
theorem ok_off {r:Reg} {tk v:Int} {p:Nm} {y:Pos} (S:Pos.Safe r) (hy:r.poss? p=some y) (hok:Pos.okA r tk (.off p v)=0):0≤y.pers∧y.pers≤100∧1≤v∧v≤100:=by
 have hp:=S.pers y (Pos.poss_mem hy).1
 unfold Pos.okA at hok
 split at hok
 · cases hok
 simp only [Pos.inOpen,hy] at hok
 split at hok
 · cases hok
 split at hok
 · cases hok
 omega
theorem en118 {P:FuncId→Option (List AV→Option AV)} (hP:P 118=none) {lo:Nat} {args:List AV} {H:Heap} {K:AV→Heap→Prop}:VO (aenter (NC.withPrims P) (R (NC.withPrims P)) lo 118 args H) K=AO (R (NC.withPrims P) (.call lo 118 args H)) fun o=>K o.val o.s.H:=by
 refine enter_free rfl ?_ (by kernel_rfl) (by kernel_rfl) (by kernel_rfl)
 show (match NC.prim 118 with | some p=>some p | none=>P 118)=none
 rw [hP];kernel_rfl
theorem en121 {P:FuncId→Option (List AV→Option AV)} (hP:P 121=none) {lo:Nat} {args:List AV} {H:Heap} {K:AV→Heap→Prop}:VO (aenter (NC.withPrims P) (R (NC.withPrims P)) lo 121 args H) K=AO (R (NC.withPrims P) (.call lo 121 args H)) fun o=>K o.val o.s.H:=by
 refine enter_free rfl ?_ (by kernel_rfl) (by kernel_rfl) (by kernel_rfl)
 show (match NC.prim 121 with | some p=>some p | none=>P 121)=none
 rw [hP];kernel_rfl
theorem en128 {P:FuncId→Option (List AV→Option AV)} (hP:P 128=none) {lo:Nat} {args:List AV} {H:Heap} {K:AV→Heap→Prop}:VO (aenter (NC.withPrims P) (R (NC.withPrims P)) lo 128 args H) K=AO (R (NC.withPrims P) (.call lo 128 args H)) fun o=>K o.val o.s.H:=by
 refine enter_free rfl ?_ (by kernel_rfl) (by kernel_rfl) (by kernel_rfl)
 show (match NC.prim 128 with | some p=>some p | none=>P 128)=none
 rw [hP];kernel_rfl
theorem en130 {P:FuncId→Option (List AV→Option AV)} (hP:P 130=none) {lo:Nat} {args:List AV} {H:Heap} {K:AV→Heap→Prop}:VO (aenter (NC.withPrims P) (R (NC.withPrims P)) lo 130 args H) K=AO (R (NC.withPrims P) (.call lo 130 args H)) fun o=>K o.val o.s.H:=by
 refine enter_free rfl ?_ (by kernel_rfl) (by kernel_rfl) (by kernel_rfl)
 show (match NC.prim 130 with | some p=>some p | none=>P 130)=none
 rw [hP];kernel_rfl
theorem en132 {P:FuncId→Option (List AV→Option AV)} (hP:P 132=none) {lo:Nat} {args:List AV} {H:Heap} {K:AV→Heap→Prop}:VO (aenter (NC.withPrims P) (R (NC.withPrims P)) lo 132 args H) K=AO (R (NC.withPrims P) (.call lo 132 args H)) fun o=>K o.val o.s.H:=by
 refine enter_free rfl ?_ (by kernel_rfl) (by kernel_rfl) (by kernel_rfl)
 show (match NC.prim 132 with | some p=>some p | none=>P 132)=none
 rw [hP];kernel_rfl
theorem en134 {P:FuncId→Option (List AV→Option AV)} (hP:P 134=none) {lo:Nat} {args:List AV} {H:Heap} {K:AV→Heap→Prop}:VO (aenter (NC.withPrims P) (R (NC.withPrims P)) lo 134 args H) K=AO (R (NC.withPrims P) (.call lo 134 args H)) fun o=>K o.val o.s.H:=by
 refine enter_free rfl ?_ (by kernel_rfl) (by kernel_rfl) (by kernel_rfl)
 show (match NC.prim 134 with | some p=>some p | none=>P 134)=none
 rw [hP];kernel_rfl
theorem en137 {P:FuncId→Option (List AV→Option AV)} (hP:P 137=none) {lo:Nat} {args:List AV} {H:Heap} {K:AV→Heap→Prop}:VO (aenter (NC.withPrims P) (R (NC.withPrims P)) lo 137 args H) K=AO (R (NC.withPrims P) (.call lo 137 args H)) fun o=>K o.val o.s.H:=by
 refine enter_free rfl ?_ (by kernel_rfl) (by kernel_rfl) (by kernel_rfl)
 show (match NC.prim 137 with | some p=>some p | none=>P 137)=none
 rw [hP];kernel_rfl
theorem en140 {P:FuncId→Option (List AV→Option AV)} (hP:P 140=none) {lo:Nat} {args:List AV} {H:Heap} {K:AV→Heap→Prop}:VO (aenter (NC.withPrims P) (R (NC.withPrims P)) lo 140 args H) K=AO (R (NC.withPrims P) (.call lo 140 args H)) fun o=>K o.val o.s.H:=by
 refine enter_free rfl ?_ (by kernel_rfl) (by kernel_rfl) (by kernel_rfl)
 show (match NC.prim 140 with | some p=>some p | none=>P 140)=none
 rw [hP];kernel_rfl
theorem ap_Track {r:Reg} (I:Pos.Inv r) (S:Pos.Safe r) {num tk:Int} {t:Nm} {v:Int} (hok:Pos.okA r tk (.track t v)=0) (n:Nat):AppOk r (.track t v) num (Pos.evOf num tk (.track t v)).kind (Pos.evOf num tk (.track t v)).names (Pos.evOf num tk (.track t v)).vals [] n:=by
 refine ⟨_,_,_,[],98,[],rfl,⟨rfl,rfl⟩,fun m hm=>⟨rfl,rfl⟩,fun lo H b pre post e V hF hn h => ?_⟩
 obtain ⟨w,H',hR,V',g1,g2⟩:=w_Track h (num:=num) (tk:=tk) (text:=[]) (kind:=(Pos.evOf num tk (.track t v)).kind) (t:=t) (v:=v) (by have:=S.nT;unfold maxRows;omega)
 exact ⟨w,H',V',fun K=>enter_f (en98 rfl) hR,g1,g2⟩
theorem ap_Fault {r:Reg} (I:Pos.Inv r) (S:Pos.Safe r) {num tk:Int} {f t:Nm} {x y v:Int} (hok:Pos.okA r tk (.fault f t x y v)=0) (n:Nat):AppOk r (.fault f t x y v) num (Pos.evOf num tk (.fault f t x y v)).kind (Pos.evOf num tk (.fault f t x y v)).names (Pos.evOf num tk (.fault f t x y v)).vals [] n:=by
 refine ⟨_,_,_,[],101,[],rfl,⟨rfl,rfl⟩,fun m hm=>⟨rfl,rfl⟩,fun lo H b pre post e V hF hn h => ?_⟩
 obtain ⟨w,H',hR,V',g1,g2⟩:=w_Fault h (num:=num) (tk:=tk) (text:=[]) (kind:=(Pos.evOf num tk (.fault f t x y v)).kind) (f:=f) (t:=t) (x:=x) (y:=y) (v:=v) (by have:=S.nF;unfold maxRows;omega)
 exact ⟨w,H',V',fun K=>enter_f (en101 rfl) hR,g1,g2⟩
theorem ap_Answer {r:Reg} (I:Pos.Inv r) (S:Pos.Safe r) {num tk:Int} {f:Nm} (hok:Pos.okA r tk (.answer f)=0) (n:Nat):AppOk r (.answer f) num (Pos.evOf num tk (.answer f)).kind (Pos.evOf num tk (.answer f)).names (Pos.evOf num tk (.answer f)).vals [] n:=by
 refine ⟨_,_,_,[],104,[],rfl,⟨rfl,rfl⟩,fun m hm=>⟨rfl,rfl⟩,fun lo H b pre post e V hF hn h => ?_⟩
 obtain ⟨y,hy⟩:=Pos.ok_fault (.inl hok)
 obtain ⟨i,hi⟩:=At.of (nm:=Flt.name) hy
 obtain ⟨w,H',hR,g1,g2⟩:=w_Answer h (num:=num) (tk:=tk) (text:=[]) (kind:=(Pos.evOf num tk (.answer f)).kind) (p:=[]) hi
 have hu:=upd_at (g:=fun y:Flt=>{ y with ans:=true }) I.uF hi
 rw [hu] at g1
 exact ⟨w,H',V,fun K=>enter_f (en104 rfl) hR,g1,g2⟩
theorem ap_Repair {r:Reg} (I:Pos.Inv r) (S:Pos.Safe r) {num tk:Int} {f p:Nm} (hok:Pos.okA r tk (.repair f p)=0) (n:Nat):AppOk r (.repair f p) num (Pos.evOf num tk (.repair f p)).kind (Pos.evOf num tk (.repair f p)).names (Pos.evOf num tk (.repair f p)).vals [] n:=by
 refine ⟨_,_,_,[],106,[],rfl,⟨rfl,rfl⟩,fun m hm=>⟨rfl,rfl⟩,fun lo H b pre post e V hF hn h => ?_⟩
 obtain ⟨y,hy⟩:=Pos.ok_fault (.inr ⟨_,hok⟩)
 obtain ⟨i,hi⟩:=At.of (nm:=Flt.name) hy
 obtain ⟨w,H',hR,g1,g2⟩:=w_Repair h (num:=num) (tk:=tk) (text:=[]) (kind:=(Pos.evOf num tk (.repair f p)).kind) (p:=p) hi
 have hu:=upd_at (g:=fun y:Flt=>{ y with rep:=true }) I.uF hi
 rw [hu] at g1
 exact ⟨w,H',V,fun K=>enter_f (en106 rfl) hR,g1,g2⟩
theorem ap_Enter {r:Reg} (I:Pos.Inv r) (S:Pos.Safe r) {num tk:Int} {x t:Nm} {v:Int} (hok:Pos.okA r tk (.enter x t v)=0) (n:Nat):AppOk r (.enter x t v) num (Pos.evOf num tk (.enter x t v)).kind (Pos.evOf num tk (.enter x t v)).names (Pos.evOf num tk (.enter x t v)).vals [] n:=by
 refine ⟨_,_,_,[],108,[],rfl,⟨rfl,rfl⟩,fun m hm=>⟨rfl,rfl⟩,fun lo H b pre post e V hF hn h => ?_⟩
 obtain ⟨w,H',hR,V',g1,g2⟩:=w_Enter h (num:=num) (tk:=tk) (text:=[]) (kind:=(Pos.evOf num tk (.enter x t v)).kind) (x:=x) (t:=t) (v:=v) (by have:=S.nN;unfold maxRows;omega)
 exact ⟨w,H',V',fun K=>enter_f (en108 rfl) hR,g1,g2⟩
theorem ap_Leave {r:Reg} (I:Pos.Inv r) (S:Pos.Safe r) {num tk:Int} {x:Nm} (hok:Pos.okA r tk (.leave x)=0) (n:Nat):AppOk r (.leave x) num (Pos.evOf num tk (.leave x)).kind (Pos.evOf num tk (.leave x)).names (Pos.evOf num tk (.leave x)).vals [] n:=by
 refine ⟨_,_,_,[],110,[],rfl,⟨rfl,rfl⟩,fun m hm=>⟨rfl,rfl⟩,fun lo H b pre post e V hF hn h => ?_⟩
 obtain ⟨w,H',hR,V',g1,g2⟩:=w_Leave h (num:=num) (tk:=tk) (text:=[]) (kind:=(Pos.evOf num tk (.leave x)).kind) (x:=x)
 exact ⟨w,H',V',fun K=>enter_f (en110 rfl) hR,g1,g2⟩
theorem ap_Take {r:Reg} (I:Pos.Inv r) (S:Pos.Safe r) {num tk:Int} {p t:Nm} {x y:Int} (hok:Pos.okA r tk (.take p t x y)=0) (n:Nat):AppOk r (.take p t x y) num (Pos.evOf num tk (.take p t x y)).kind (Pos.evOf num tk (.take p t x y)).names (Pos.evOf num tk (.take p t x y)).vals [] n:=by
 refine ⟨_,_,_,[],114,[],rfl,⟨rfl,rfl⟩,fun m hm=>⟨rfl,rfl⟩,fun lo H b pre post e V hF hn h => ?_⟩
 obtain ⟨w,H',hR,V',g1,g2⟩:=w_Take h (num:=num) (tk:=tk) (text:=[]) (kind:=(Pos.evOf num tk (.take p t x y)).kind) (p:=p) (t:=t) (x:=x) (y:=y) (by have:=S.nP;unfold maxRows;omega)
 exact ⟨w,H',V',fun K=>enter_f (en114 rfl) hR,g1,g2⟩
theorem ap_Prot {r:Reg} (I:Pos.Inv r) (S:Pos.Safe r) {num tk:Int} {p:Nm} (hok:Pos.okA r tk (.prot p)=0) (n:Nat):AppOk r (.prot p) num (Pos.evOf num tk (.prot p)).kind (Pos.evOf num tk (.prot p)).names (Pos.evOf num tk (.prot p)).vals [] n:=by
 refine ⟨_,_,_,[.ptr (n+1) 0],146,[.ptr (n+2) 0],rfl,⟨rfl,rfl⟩,fun m hm=>⟨under_1 (by omega),under_1 (by omega)⟩,fun lo H b pre post e V hF hn h => ?_⟩
 obtain ⟨y,hy⟩:=Pos.ok_poss hok (p:=p) rfl
 obtain ⟨i,hi⟩:=At.of (nm:=Pos.name) hy
 obtain ⟨w,H',hR,g1,g2⟩:=w_on h (num:=num) (text:=[]) (kind:=(Pos.evOf num tk (.prot p)).kind) (vals:=(Pos.evOf num tk (.prot p)).vals) hi (bx:=n+2) (by omega) (hF.box 2 (by omega) (by omega)) (f:=fun y=>{ y with prot:=true }) (en118 rfl) (fun id H cs h1 h2 h3=>g_12 h1 h2 h3 hi.at')
 have hu:=upd_at (g:=fun y:Pos=>{ y with prot:=true }) I.uP hi
 rw [hu] at g1
 exact ⟨w,H',V,fun K=>enter_f (en146 rfl) hR,g1,g2⟩
theorem ap_Clear {r:Reg} (I:Pos.Inv r) (S:Pos.Safe r) {num tk:Int} {p:Nm} (hok:Pos.okA r tk (.clear p)=0) (n:Nat):AppOk r (.clear p) num (Pos.evOf num tk (.clear p)).kind (Pos.evOf num tk (.clear p)).names (Pos.evOf num tk (.clear p)).vals [] n:=by
 refine ⟨_,_,_,[.ptr (n+3) 0],146,[.ptr (n+4) 0],rfl,⟨rfl,rfl⟩,fun m hm=>⟨under_1 (by omega),under_1 (by omega)⟩,fun lo H b pre post e V hF hn h => ?_⟩
 obtain ⟨y,hy⟩:=Pos.ok_poss hok (p:=p) rfl
 obtain ⟨i,hi⟩:=At.of (nm:=Pos.name) hy
 obtain ⟨w,H',hR,g1,g2⟩:=w_on h (num:=num) (text:=[]) (kind:=(Pos.evOf num tk (.clear p)).kind) (vals:=(Pos.evOf num tk (.clear p)).vals) hi (bx:=n+4) (by omega) (hF.box 4 (by omega) (by omega)) (f:=fun y=>{ y with prot:=false }) (en121 rfl) (fun id H cs h1 h2 h3=>g_14 h1 h2 h3 hi.at')
 have hu:=upd_at (g:=fun y:Pos=>{ y with prot:=false }) I.uP hi
 rw [hu] at g1
 exact ⟨w,H',V,fun K=>enter_f (en146 rfl) hR,g1,g2⟩
theorem ap_In {r:Reg} (I:Pos.Inv r) (S:Pos.Safe r) {num tk:Int} {m p:Nm} (hok:Pos.okA r tk (.into m p)=0) (n:Nat):AppOk r (.into m p) num (Pos.evOf num tk (.into m p)).kind (Pos.evOf num tk (.into m p)).names (Pos.evOf num tk (.into m p)).vals [] n:=by
 refine ⟨_,_,_,[.ptr (n+5) 0],123,[],rfl,⟨rfl,rfl⟩,fun m hm=>⟨under_1 (by omega),rfl⟩,fun lo H b pre post e V hF hn h => ?_⟩
 obtain ⟨w,H',hR,V',g1,g2⟩:=w_In h (num:=num) (tk:=tk) (text:=[]) (kind:=(Pos.evOf num tk (.into m p)).kind) (m:=m) (p:=p) (by have:=S.nM;unfold maxRows;omega)
 exact ⟨w,H',V',fun K=>enter_f (en123 rfl) hR,g1,g2⟩
theorem ap_Out {r:Reg} (I:Pos.Inv r) (S:Pos.Safe r) {num tk:Int} {x:Nm} (hok:Pos.okA r tk (.out x)=0) (n:Nat):AppOk r (.out x) num (Pos.evOf num tk (.out x)).kind (Pos.evOf num tk (.out x)).names (Pos.evOf num tk (.out x)).vals [] n:=by
 refine ⟨_,_,_,[],124,[],rfl,⟨rfl,rfl⟩,fun m hm=>⟨rfl,rfl⟩,fun lo H b pre post e V hF hn h => ?_⟩
 obtain ⟨w,H',hR,V',g1,g2⟩:=w_Out h (num:=num) (tk:=tk) (text:=[]) (kind:=(Pos.evOf num tk (.out x)).kind) (x:=x)
 exact ⟨w,H',V',fun K=>enter_f (en124 rfl) hR,g1,g2⟩
theorem ap_Staff {r:Reg} (I:Pos.Inv r) (S:Pos.Safe r) {num tk:Int} {p:Nm} {v:Int} (hok:Pos.okA r tk (.staff p v)=0) (n:Nat):AppOk r (.staff p v) num (Pos.evOf num tk (.staff p v)).kind (Pos.evOf num tk (.staff p v)).names (Pos.evOf num tk (.staff p v)).vals [] n:=by
 refine ⟨_,_,_,[.ptr (n+6) 0],146,[.ptr (n+7) 0],rfl,⟨rfl,rfl⟩,fun m hm=>⟨under_1 (by omega),under_1 (by omega)⟩,fun lo H b pre post e V hF hn h => ?_⟩
 obtain ⟨y,hy⟩:=Pos.ok_poss hok (p:=p) rfl
 obtain ⟨i,hi⟩:=At.of (nm:=Pos.name) hy
 have hpv:=ok_staff S hy hok
 have hw:wrapq .i64 (Int.add y.pers v)=y.pers+v:=by
  show wrapq .i64 (y.pers+v)=_
  exact wrapq_i64 (by omega) (by omega)
 obtain ⟨w,H',hR,g1,g2⟩:=w_on h (num:=num) (text:=[]) (kind:=(Pos.evOf num tk (.staff p v)).kind) (vals:=(Pos.evOf num tk (.staff p v)).vals) hi (bx:=n+7) (by omega) (hF.box 7 (by omega) (by omega)) (f:=fun y=>{ y with pers:=y.pers+v }) (en128 rfl) (fun id H cs h1 h2 h3=>g_19 h1 h2 h3 hi.at' hw)
 have hu:=upd_at (g:=fun y:Pos=>{ y with pers:=y.pers+v }) I.uP hi
 rw [hu] at g1
 exact ⟨w,H',V,fun K=>enter_f (en146 rfl) hR,g1,g2⟩
theorem ap_Off {r:Reg} (I:Pos.Inv r) (S:Pos.Safe r) {num tk:Int} {p:Nm} {v:Int} (hok:Pos.okA r tk (.off p v)=0) (n:Nat):AppOk r (.off p v) num (Pos.evOf num tk (.off p v)).kind (Pos.evOf num tk (.off p v)).names (Pos.evOf num tk (.off p v)).vals [] n:=by
 refine ⟨_,_,_,[.ptr (n+8) 0],146,[.ptr (n+9) 0],rfl,⟨rfl,rfl⟩,fun m hm=>⟨under_1 (by omega),under_1 (by omega)⟩,fun lo H b pre post e V hF hn h => ?_⟩
 obtain ⟨y,hy⟩:=Pos.ok_poss hok (p:=p) rfl
 obtain ⟨i,hi⟩:=At.of (nm:=Pos.name) hy
 have hpv:=ok_off S hy hok
 have hw:wrapq .i64 (Int.sub y.pers v)=y.pers - v:=by
  show wrapq .i64 (y.pers - v)=_
  exact wrapq_i64 (by omega) (by omega)
 obtain ⟨w,H',hR,g1,g2⟩:=w_on h (num:=num) (text:=[]) (kind:=(Pos.evOf num tk (.off p v)).kind) (vals:=(Pos.evOf num tk (.off p v)).vals) hi (bx:=n+9) (by omega) (hF.box 9 (by omega) (by omega)) (f:=fun y=>{ y with pers:=y.pers - v }) (en130 rfl) (fun id H cs h1 h2 h3=>g_21 h1 h2 h3 hi.at' hw)
 have hu:=upd_at (g:=fun y:Pos=>{ y with pers:=y.pers - v }) I.uP hi
 rw [hu] at g1
 exact ⟨w,H',V,fun K=>enter_f (en146 rfl) hR,g1,g2⟩
theorem ap_Open {r:Reg} (I:Pos.Inv r) (S:Pos.Safe r) {num tk:Int} {p:Nm} (hok:Pos.okA r tk (.opn p)=0) (n:Nat):AppOk r (.opn p) num (Pos.evOf num tk (.opn p)).kind (Pos.evOf num tk (.opn p)).names (Pos.evOf num tk (.opn p)).vals [] n:=by
 refine ⟨_,_,_,[.ptr (n+10) 0],146,[.ptr (n+11) 0],rfl,⟨rfl,rfl⟩,fun m hm=>⟨under_1 (by omega),under_1 (by omega)⟩,fun lo H b pre post e V hF hn h => ?_⟩
 obtain ⟨y,hy⟩:=Pos.ok_poss hok (p:=p) rfl
 obtain ⟨i,hi⟩:=At.of (nm:=Pos.name) hy
 obtain ⟨w,H',hR,g1,g2⟩:=w_on h (num:=num) (text:=[]) (kind:=(Pos.evOf num tk (.opn p)).kind) (vals:=(Pos.evOf num tk (.opn p)).vals) hi (bx:=n+11) (by omega) (hF.box 11 (by omega) (by omega)) (f:=fun y=>{ y with opn:=true }) (en132 rfl) (fun id H cs h1 h2 h3=>g_23 h1 h2 h3 hi.at')
 have hu:=upd_at (g:=fun y:Pos=>{ y with opn:=true }) I.uP hi
 rw [hu] at g1
 exact ⟨w,H',V,fun K=>enter_f (en146 rfl) hR,g1,g2⟩
theorem ap_Close {r:Reg} (I:Pos.Inv r) (S:Pos.Safe r) {num tk:Int} {p:Nm} {v:Int} (hok:Pos.okA r tk (.close p v)=0) (n:Nat):AppOk r (.close p v) num (Pos.evOf num tk (.close p v)).kind (Pos.evOf num tk (.close p v)).names (Pos.evOf num tk (.close p v)).vals [] n:=by
 refine ⟨_,_,_,[.ptr (n+12) 0],146,[.ptr (n+13) 0],rfl,⟨rfl,rfl⟩,fun m hm=>⟨under_1 (by omega),under_1 (by omega)⟩,fun lo H b pre post e V hF hn h => ?_⟩
 obtain ⟨y,hy⟩:=Pos.ok_poss hok (p:=p) rfl
 obtain ⟨i,hi⟩:=At.of (nm:=Pos.name) hy
 have hcl:=S.closed y (Pos.poss_mem hy).1
 have hw:wrapq .i64 (Int.add y.closed 1)=y.closed+1:=by
  show wrapq .i64 (y.closed+1)=_
  exact wrapq_i64 (by omega) (by omega)
 obtain ⟨w,H',hR,g1,g2⟩:=w_on h (num:=num) (text:=[]) (kind:=(Pos.evOf num tk (.close p v)).kind) (vals:=(Pos.evOf num tk (.close p v)).vals) hi (bx:=n+13) (by omega) (hF.box 13 (by omega) (by omega)) (f:=fun y=>{ y with opn:=false,closed:=y.closed+1,speed:=v }) (en134 rfl) (fun id H cs h1 h2 h3=>g_25 h1 h2 h3 hi.at' hw)
 have hu:=upd_at (g:=fun y:Pos=>{ y with opn:=false,closed:=y.closed+1,speed:=v }) I.uP hi
 rw [hu] at g1
 exact ⟨w,H',V,fun K=>enter_f (en146 rfl) hR,g1,g2⟩
theorem ap_Return {r:Reg} (I:Pos.Inv r) (S:Pos.Safe r) {num tk:Int} {p:Nm} (hok:Pos.okA r tk (.ret p)=0) (n:Nat):AppOk r (.ret p) num (Pos.evOf num tk (.ret p)).kind (Pos.evOf num tk (.ret p)).names (Pos.evOf num tk (.ret p)).vals [] n:=by
 refine ⟨_,_,_,[.ptr (n+14) 0],146,[.ptr (n+15) 0],rfl,⟨rfl,rfl⟩,fun m hm=>⟨under_1 (by omega),under_1 (by omega)⟩,fun lo H b pre post e V hF hn h => ?_⟩
 obtain ⟨y,hy⟩:=Pos.ok_poss hok (p:=p) rfl
 obtain ⟨i,hi⟩:=At.of (nm:=Pos.name) hy
 obtain ⟨w,H',hR,g1,g2⟩:=w_on h (num:=num) (text:=[]) (kind:=(Pos.evOf num tk (.ret p)).kind) (vals:=(Pos.evOf num tk (.ret p)).vals) hi (bx:=n+15) (by omega) (hF.box 15 (by omega) (by omega)) (f:=fun y=>{ y with ret:=true }) (en137 rfl) (fun id H cs h1 h2 h3=>g_27 h1 h2 h3 hi.at')
 have hu:=upd_at (g:=fun y:Pos=>{ y with ret:=true }) I.uP hi
 rw [hu] at g1
 exact ⟨w,H',V,fun K=>enter_f (en146 rfl) hR,g1,g2⟩
theorem ap_Raise {r:Reg} (I:Pos.Inv r) (S:Pos.Safe r) {num tk:Int} {p:Nm} {v:Int} (hok:Pos.okA r tk (.raise p v)=0) (n:Nat):AppOk r (.raise p v) num (Pos.evOf num tk (.raise p v)).kind (Pos.evOf num tk (.raise p v)).names (Pos.evOf num tk (.raise p v)).vals [] n:=by
 refine ⟨_,_,_,[],146,[.ptr (n+16) 0],rfl,⟨rfl,rfl⟩,fun m hm=>⟨rfl,under_1 (by omega)⟩,fun lo H b pre post e V hF hn h => ?_⟩
 obtain ⟨y,hy⟩:=Pos.ok_poss hok (p:=p) rfl
 obtain ⟨i,hi⟩:=At.of (nm:=Pos.name) hy
 obtain ⟨w,H',hR,g1,g2⟩:=w_on h (num:=num) (text:=[]) (kind:=(Pos.evOf num tk (.raise p v)).kind) (vals:=(Pos.evOf num tk (.raise p v)).vals) hi (bx:=n+16) (by omega) (hF.box 16 (by omega) (by omega)) (f:=fun y=>{ y with speed:=v }) (en140 rfl) (fun id H cs h1 h2 h3=>g_29 h1 h2 h3 hi.at')
 have hu:=upd_at (g:=fun y:Pos=>{ y with speed:=v }) I.uP hi
 rw [hu] at g1
 exact ⟨w,H',V,fun K=>enter_f (en146 rfl) hR,g1,g2⟩
theorem ap_all {r:Reg} (I:Pos.Inv r) (S:Pos.Safe r) {num tk:Int} {a:Pos.Act} (hok:Pos.okA r tk a=0) (n:Nat):AppOk r a num (Pos.evOf num tk a).kind (Pos.evOf num tk a).names (Pos.evOf num tk a).vals [] n:=by
 cases a
 case track=>exact ap_Track I S hok n
 case fault=>exact ap_Fault I S hok n
 case answer=>exact ap_Answer I S hok n
 case repair=>exact ap_Repair I S hok n
 case enter=>exact ap_Enter I S hok n
 case leave=>exact ap_Leave I S hok n
 case take=>exact ap_Take I S hok n
 case prot=>exact ap_Prot I S hok n
 case clear=>exact ap_Clear I S hok n
 case into=>exact ap_In I S hok n
 case out=>exact ap_Out I S hok n
 case staff=>exact ap_Staff I S hok n
 case off=>exact ap_Off I S hok n
 case opn=>exact ap_Open I S hok n
 case close=>exact ap_Close I S hok n
 case ret=>exact ap_Return I S hok n
 case raise=>exact ap_Raise I S hok n
end Go.Sim

namespace Go.Sim.Pos
open Go.Sim
theorem do_tick (r:Reg) (tk:Int) (a:Act):{ doA r r.tick a with tick:=tk }=doA r tk a:=by cases a<;>rfl
theorem ev_parts (num tk:Int) (a:Act):∃ kind names vs,evOf num tk a=⟨num,kind,names,tk::vs,[]⟩:=by cases a<;>exact ⟨_,_,_,rfl⟩
theorem run_next (nm:Nm→Bool) {cs:List Ev} {r r':Reg} (hrun:runO zReg (acts cs)=some r) (hc:∀ e ∈ cs,chkE nm e=0∧e.kind ≠ kUndo) {k:Nat} {e:Ev} (he:cs[k]? = some e) (hk:runO zReg (acts (cs.take k))=some r') :
 ∃ tk a,e=evOf e.num tk a∧okA r' tk a=0∧runO zReg (acts (cs.take (k+1)))=some (doA r' tk a)∧Inv r'∧Safe r':=by
 have hlt:k < cs.length:=(List.getElem?_eq_some_iff.1 he).1
 have hm:e ∈ cs:=List.mem_of_getElem? he
 obtain ⟨h1,h2⟩:=hc e hm
 obtain ⟨tk,a,ha,hev,_,_⟩:=chk_ev nm h1 h2
 have hsplit:cs=cs.take k++e::cs.drop (k+1):=by
  have:=List.take_append_drop k cs
  rw [List.drop_eq_getElem_cons hlt,(List.getElem?_eq_some_iff.1 he).2] at this
  exact this.symm
 have hr:=hrun
 rw [hsplit] at hr
 unfold acts at hr hk
 rw [List.filterMap_append,run_app,hk] at hr
 simp only [Option.bind_some,List.filterMap_cons,ha] at hr
 obtain ⟨h3,h4⟩:=run_cons hr
 obtain ⟨I,S⟩:=run_safe inv_zero safe_zero hk
 refine ⟨tk,a,hev,h3, ?_,I,S⟩
 have ht:cs.take (k+1)=cs.take k++[e]:=by
  rw [List.take_add_one,he];rfl
 rw [ht]
 unfold acts
 rw [List.filterMap_append,run_app,hk]
 simp only [Option.bind_some,List.filterMap_cons,ha,List.filterMap_nil]
 rw [run_ok h3]
 rfl
end Go.Sim.Pos
namespace Go.Sim
open Go Go.Proofs
open Go.Sim.Pos (Nm Trk Flt Trn Pos Mch Reg Ev Len flat_len flat_take flat_drop flat_at flat_set)
set_option maxRecDepth 100000
set_option maxHeartbeats 8000000
def V0:RegV:=⟨.ps .nil [],.ps .nil [],.ps .nil [],.ps .nil [],.ps .nil []⟩
theorem regX_rows:∀ x,regX x→rowsX x:=fun _ ⟨cs,sz,te,h,_⟩=>⟨cs,sz,te,h⟩
theorem regw_zero {lo b:Nat} {H:Heap} {pre post:List AV} {e:TypeId} (hb:b < H.n) (hlo:lo≤b) (hblk:H.get b=.cells (pre++(regC Pos.zReg V0++post)) e):RegW lo H b pre post e Pos.zReg V0 :=
 ⟨hb,hlo,hblk,⟨.nil,rfl,.inl ⟨rfl,rfl⟩⟩,⟨.inl ⟨rfl,rfl⟩,fun i a b c d h=>by cases h⟩,⟨.nil,rfl,.inl ⟨rfl,rfl⟩⟩,⟨.inl ⟨rfl,rfl⟩,fun i a b c d h=>by cases h⟩,⟨.nil,rfl,.inl ⟨rfl,rfl⟩⟩,Nat.zero_le _,Nat.zero_le _,Nat.zero_le _,Nat.zero_le _,Nat.zero_le _⟩
theorem RegW.cells {lo:Nat} {H:Heap} {b:Nat} {pre post:List AV} {e:TypeId} {r:Reg} {V:RegV} (h:RegW lo H b pre post e r V) {j:Nat} {cs:List AV} {te:TypeId} (hj:H.get j=.cells cs te) (hl:lo≤j) (hne:j ≠ b) (cs':List AV) (te':TypeId):RegW lo (H.set j (.cells cs' te')) b pre post e r V:=by
 have c:Chg lo b (fun x=>∃ c e,x=.cells c e) H (H.set j (.cells cs' te')):=(Chg.refl H).set hl (.inr (.inl ⟨_,_,hj⟩)) _
 have hb:∃ cs e,H.get b=.cells cs e:=⟨_,_,h.blk⟩
 have hx:∀ (a:List AV) (n:Nat) (t:TypeId) (cs:List AV),¬ (fun x=>∃ c e,x=ABlk.cells c e) (ABlk.row cs n t):=fun _ _ _ _ ⟨_,_,h⟩=>by cases h
 exact ⟨by simpa using h.bn,h.lob,by rw [Heap.get_set,if_neg (Ne.symm hne)];exact h.blk,h.aT.chg c (hx [] _ _) hb,h.aF.chg c (hx [] _ _) hb,h.aR.chg c (hx [] _ _) hb,h.aP.chg c (hx [] _ _) hb,h.aM.chg c (hx [] _ _) hb,h.lT,h.lF,h.lR,h.lP,h.lM⟩
theorem RegW.tick {lo:Nat} {H:Heap} {b:Nat} {pre post:List AV} {e:TypeId} {r:Reg} {V:RegV} (h:RegW lo H b pre post e r V) (tk:Int):sst lo H 3 (.ptr b pre.length) (.int .i64 tk)=some (H.set b (.cells (pre++(regC { r with tick:=tk } V++post)) e))∧RegW lo (H.set b (.cells (pre++(regC { r with tick:=tk } V++post)) e)) b pre post e { r with tick:=tk } V:=by
 refine ⟨st_cell (k:=0) h.blk h.lob (by show 0 < 6;decide) (by kernel_rfl) rfl rfl, ?_⟩
 have c:Chg lo b (fun _=>False) H (H.set b (.cells (pre++(regC { r with tick:=tk } V++post)) e)):=chg_b H h.lob _
 have hb:∃ cs e,H.get b=.cells cs e:=⟨_,_,h.blk⟩
 exact ⟨by simpa using h.bn,h.lob,by rw [Heap.get_set,if_pos rfl],h.aT.chg c (fun _=>id) hb,h.aF.chg c (fun _=>id) hb,h.aR.chg c (fun _=>id) hb,h.aP.chg c (fun _=>id) hb,h.aM.chg c (fun _=>id) hb,h.lT,h.lF,h.lR,h.lP,h.lM⟩
noncomputable def sfl (t:TypeId) (v:AV) (f:Nat):Option AV:=afield NC.P t v f
theorem op_flS {rec:Rec} {fid lo:Nat} {T:TT AV} {H:Heap} {K:AV→Heap→Prop} {d:Option Tmp} {t:TypeId} {p:String} {af:Array Edge} {gd:Option (Nat × Bool)} (t':TypeId) (x:Operand) (f:Nat):VO (aop PT rec fid lo ⟨d,.field t' x f,t,p,af,gd⟩ T H) K=AO (evalO PT T x) fun v=>AO (sfl t' v f) fun v=>K v H:=op_field t' x f
attribute [go_sem ↓ 2000] op_flS
theorem sfl_agg (t:TypeId) (cs:List AV) (f:Nat):sfl t (.agg cs) f=afield NC.P t (.agg cs) f:=rfl
attribute [go_sem 100] sfl_agg
theorem sfl_form (a b c d:AV):sfl 149 (.agg [a,b,c,d]) 3=some d:=by kernel_rfl
attribute [go_sem] sfl_form
theorem en82 {P:FuncId→Option (List AV→Option AV)} (hP:P 82=none) {lo:Nat} {args:List AV} {H:Heap} {K:AV→Heap→Prop}:VO (aenter (NC.withPrims P) (R (NC.withPrims P)) lo 82 args H) K=AO (R (NC.withPrims P) (.call H.n 82 args H)) fun o=>K o.val o.s.H:=by
 refine enter_fresh rfl ?_ (by kernel_rfl) (by kernel_rfl) (by kernel_rfl)
 show (match NC.prim 82 with | some p=>some p | none=>P 82)=none
 rw [hP];kernel_rfl
theorem r_made (nm : Nm → Bool) {H : Heap} {v : AV} {cs : List Ev} {r : Reg} (hs : Sl H v 5 70 (cs.map Pos.Ev.row)) (hl : cs.length ≤ 1000) (hrun : Pos.runO Pos.zReg (Pos.acts cs) = some r) (hc : ∀ e ∈ cs, Pos.chkE nm e = 0 ∧ e.kind ≠ Pos.kUndo) :
 ∃ w H', R PT (.call H.n 82 [v] H) = some (.ofVal w H') ∧ ∃ V, w = .agg (regC r V) ∧ Old H.n H H' ∧ RegW H.n H' (H.n + 1) [] [] 104 r V := by
 refine R_of_body (C := PT) (f := 82) (lo := H.n) (args := [v]) (H := H) (fn := Tryz.f82) (Q := fun w H' => ∃ V, w = .agg (regC r V) ∧ Old H.n H H' ∧ RegW H.n H' (H.n + 1) [] [] 104 r V) (by kernel_rfl) Tryz.func82 rfl rfl ?_
 have hlen := fun H' => hs.len (t := 25) (by kernel_rfl) H'
 simp only [List.length_map] at hlen
 simp (config := { maxDischargeDepth := 12 }) only [go_sem, reduceIte, reduceEqDiff, reduceAdd, reduceMul, reduceSub, reduceLeDiff, reduceLT, Nat.reduceBEq, reduceCtorEq, hlen]
 refine W_for (fun k T Hc M => M = [] ∧ getT T 2 = .ptr H.n 0 ∧ getT T 3 = .ptr (H.n + 1) 0 ∧ getT T 6 = v ∧ getT T 7 = i64 (cs.length : Nat) ∧ getT T 8 = i64 k ∧ Old H.n H Hc ∧ Hc.get H.n = .cells (regC Pos.zReg V0) 104 ∧ ∃ r' V, Pos.runO Pos.zReg (Pos.acts (cs.take k)) = some r' ∧ RegW H.n Hc (H.n + 1) [] [] 104 r' V) cs.length ?_ ?_ ?_
 · simp (config := { maxDischargeDepth := 12 }) only [go_sem, reduceIte, reduceEqDiff, reduceAdd, reduceMul, reduceSub, reduceLeDiff, reduceLT, Nat.reduceBEq, reduceCtorEq]
   exact ⟨rfl, _, V0, rfl, regw_zero (by simp) (by omega) (by rw [Heap.get_push, if_pos (by simp)]; rfl)⟩
 · rintro k T Hc M hk ⟨rfl, g2, g3, g6, g7, g8, hO, hz, r', V, hr', hW⟩
   obtain ⟨e, he⟩ : ∃ e, cs[k]? = some e := ⟨cs[k], by simp⟩
   obtain ⟨tk, a, hev, hok, hrn, I, S⟩ := Pos.run_next nm hrun hc he hr'
   obtain ⟨kind, names, vs, hp⟩ := Pos.ev_parts e.num tk a
   have hA := fun n => ap_all I S (num := e.num) hok n
   rw [hp] at hev
   simp only [hp] at hA
   generalize e.num = num at hev hA
   subst hev
   have hw := wrap_succ hk (by unfold maxRows; omega : cs.length ≤ maxRows)
   have hi := hs.idx (t := 25) (by kernel_rfl) (by kernel_rfl) (rows_Len (by intro x; rfl) cs) (by rw [List.length_map]; exact hk) .i64
   have hd := hs.ld (by kernel_rfl) (by kernel_rfl) (rows_Len (by intro x; rfl) cs) (map_at he) hO
   have hHn : H.n + 1 < Hc.n := hW.bn
   obtain ⟨H1, hH1⟩ : ∃ H1, H1 = (Hc.push (.cells [.int .i64 0, .str [], .ps .nil [], .ps .nil [], .str []] 70)).set Hc.n (.cells (evC num kind names (tk :: vs) []) 70) := ⟨_, rfl⟩
   have hn1 : H1.n = Hc.n + 1 := by rw [hH1]; simp
   have hO1 : Old Hc.n Hc H1 := by rw [hH1]; exact (Old.refl Hc).new _ _
   have hg1 : H1.get Hc.n = .cells (evC num kind names (tk :: vs) []) 70 := by rw [hH1, Heap.get_set, if_pos rfl]
   obtain ⟨H2, hr2, hn2, hk2, hF⟩ := r_forms (P := PPT) (by rfl) (by rfl) H1.n H1 (Nat.le_refl _)
   have hg2 : H2.get Hc.n = .cells (evC num kind names (tk :: vs) []) 70 := by rw [hk2 _ (by omega), hg1]
   have hW2 := (hW.old hO1).old ⟨by omega, hk2⟩
   obtain ⟨nm', fv, f1, l1, f2, l2, hlk, ⟨hst1, hst2⟩, hu, happ⟩ := hA H1.n
   obtain ⟨w, H3, V3, hcall, hW3, hch⟩ := happ H.n H2 (H.n + 1) [] [] 104 V hF (by omega) hW2
   have hlk2 := (look_S hF.map (keys_forms _) kind).2
   rw [hlk] at hlk2
   have hu1 := (hu _ (Nat.le_of_eq hn2.symm)).1
   have hu2 := (hu _ (Nat.le_of_eq hn2.symm)).2
   have hch' := hch.mono regX_rows
   have hg3 : H3.get Hc.n = .cells (evC num kind names (tk :: vs) []) 70 := hch'.cells (by omega) (by omega) hg2
   obtain ⟨ht1, ht2⟩ := hW3.tick tk
   rw [Pos.do_tick] at ht1 ht2
   have hz3 : H3.get H.n = .cells (regC Pos.zReg V0) 104 := hch'.cells (by omega) (by omega) (by rw [hk2 _ (by omega), hO1.2 _ (by omega), hz])
   have hei : (ints (tk :: vs))[0]? = some [.int .i64 tk] := rfl
   have hel : (0 < (ints (tk :: vs)).length) = True := eq_true (by rw [ints_len]; exact Nat.succ_pos _)
   have hO3 : Old H.n H H3 := (hO.trans (Old.trans ⟨by omega, fun i hi => hO1.2 i (by omega)⟩ ⟨by omega, fun i hi => hk2 i (by omega)⟩)).trans (hch.old (by omega))
   simp only [Pos.Ev.row] at hd
   have hkc := eq_true hk
   have hle := eq_true hO.1
   have hn1' : (Hc.n < H1.n) = True := eq_true (by omega)
   have hn2' : (H1.n < H2.n) = True := eq_true (by omega)
   have hn3' : (Hc.n < H2.n) = True := eq_true (by omega)
   simp only [List.length_nil] at ht1
   simp only [List.length_nil] at hcall
   simp (config := { maxDischargeDepth := 12 }) only [go_sem, reduceIte, reduceEqDiff, reduceAdd, reduceMul, reduceSub, reduceLeDiff, reduceLT, Nat.reduceBEq, reduceCtorEq, g2, g3, g6, g7, g8, hkc, hle, hn1', hn2', hn3', hw, hi, hd, ← hH1, en70 (P := PPT) rfl, hr2, hg1, hg2, hlk2, hu1, hu2, hst1, hst2, hcall, hg3, hei, hel, ht1]
   refine ⟨hO3.set (by omega) _, hz3, _, V3, hrn, ?_⟩
   simpa only [List.nil_append, List.append_nil] using ht2
 · rintro T Hc M ⟨rfl, g2, g3, g6, g7, g8, hO, hz, r', V, hr', hW⟩
   rw [List.take_length, hrun] at hr'
   cases hr'
   have hblk := hW.blk
   simp only [List.nil_append, List.append_nil] at hblk
   have hHn : H.n + 1 < Hc.n := hW.bn
   have oT := hW.aT.one1
   have oF := hW.aF.one1
   have oR := hW.aR.one1
   have oP := hW.aP.one1
   have oM := hW.aM.one1
   have hne : (H.n + 1 = H.n) = False := eq_false (by omega)
   obtain ⟨L, hL⟩ : ∃ L, L = sld Hc 104 (.ptr (H.n + 1) 0) := ⟨_, rfl⟩
   have hld : sld Hc 104 (.ptr (H.n + 1) 0) = some (.agg (regC r V)) := by
    simp (config := { maxDischargeDepth := 12 }) only [go_sem, reduceIte, reduceEqDiff, reduceAdd, reduceMul, reduceSub, reduceLeDiff, reduceLT, Nat.reduceBEq, reduceCtorEq, hblk, regC]
   have hst : sst H.n Hc 104 (.ptr H.n 0) (.agg (regC r V)) = some (Hc.set H.n (.cells (regC r V) 104)) := by
    unfold AV.one at oT oF oR oP oM
    simp (config := { maxDischargeDepth := 12 }) only [go_sem, reduceIte, reduceEqDiff, reduceAdd, reduceMul, reduceSub, reduceLeDiff, reduceLT, Nat.reduceBEq, reduceCtorEq, hz, regC, V0, oT, oF, oR, oP, oM]
   have hld2 : aload NC.P (Hc.set H.n (.cells (regC r V) 104)) 104 (.ptr H.n 0) = some (.agg (regC r V)) := by
    simp (config := { maxDischargeDepth := 12 }) only [go_sem, reduceIte, reduceEqDiff, reduceAdd, reduceMul, reduceSub, reduceLeDiff, reduceLT, Nat.reduceBEq, reduceCtorEq, regC]
   have hlt : (cs.length < cs.length) = False := eq_false (Nat.lt_irrefl _)
   have hlt' : ((cs.length : Int) < (cs.length : Int)) = False := eq_false (Int.lt_irrefl _)
   have h6 : (6 ≤ (regC r V).length) = True := eq_true (Nat.le_refl 6)
   have ht6 : List.take 6 (regC r V) = regC r V := rfl
   simp (config := { maxDischargeDepth := 12 }) only [go_sem, reduceIte, reduceEqDiff, reduceAdd, reduceMul, reduceSub, reduceLeDiff, reduceLT, Nat.reduceBEq, reduceCtorEq, g2, g3, g6, g7, g8, hlt, hlt', hld, hst, h6, ht6]
   exact ⟨V, rfl, hO.set (Nat.le_refl _) _, hW.cells hz (Nat.le_refl _) (by omega) _ _⟩
end Go.Sim

namespace Go.Sim
open Go Go.Proofs
open Go.Sim.Pos (Nm Trk Flt Trn Pos Mch Reg Ev Len flat_len flat_take flat_drop flat_at flat_set)
set_option maxRecDepth 100000
set_option maxHeartbeats 8000000
theorem app_e {lo sz:Nat} {te:TypeId} {H:Heap} {v:AV} {rows:List (List AV)} (r:List AV) (h:SW lo H v sz te rows) (hlo:lo≤H.n) (hL:Len sz rows) (hr:r.length=sz) (ho:r.all AV.one=true) (hs:0 < sz) (hm:rows.length+1≤maxRows) :
 ∃ v' H',appR lo H sz te v [r]=some (v',H')∧SW lo H' v' sz te (rows++[r])∧Chg lo H.n (rowX sz te) H H'∧(∀ i,i < H.n→(∀ a b c d,v ≠ .rs i a b c d)→H'.get i=H.get i)∧(∀ i a b c d,v'=.rs i a b c d→i=H.n ∨ ∃ a b c d,v=.rs i a b c d):=by
 have hf:=flat_len hL
 obtain ⟨h,hid⟩:=h
 rcases h with ⟨rfl,rfl⟩ | ⟨id,cs,m,rfl,h2,h3,h4⟩
 · refine ⟨.rs H.n 0 1 sz none,H.push (.row r sz te), ?_,⟨.inr ⟨H.n,[],0,rfl,by simp,by rw [Heap.get_push,if_pos rfl];simp,by simp⟩,fun i a b c d he=>by cases he;exact hlo⟩,(Chg.refl H).push _,fun i hi _=>by rw [Heap.get_push,if_neg (by omega)],fun i a b c d he=>by cases he;exact .inl rfl⟩
   unfold appR
   simp only [Tok.full,List.length_nil,Nat.zero_add,List.length_cons,List.all_cons,ho,List.all_nil,hs,decide_true,Bool.and_true,Bool.true_and]
   rw [if_pos (by simpa using hm)]
   simp
 · have hil:=hid _ _ _ _ _ rfl
   by_cases hc:m=0
   · subst hc
     have hcs:cs=[]:=List.length_eq_zero_iff.1 (by omega)
     subst hcs
     rw [List.append_nil] at h3
     refine ⟨.rs H.n 0 (rows.length+1) sz none,(H.set id .dead).push (.row (rows++[r]).flatten sz te), ?_,⟨.inr ⟨H.n,[],0,by simp,by simp,by rw [Heap.get_push,if_pos (by simp)];simp,by simp⟩,fun i a b c d he=>by cases he;exact hlo⟩,((Chg.refl H).set hil (.inr (.inl ⟨_,h3⟩)) _).push _,fun i hi hne=>by rw [Heap.get_push,if_neg (by simp;omega),Heap.get_set,if_neg (fun he=>hne _ _ _ _ (by rw [he]))],fun i a b c d he=>by cases he;exact .inl rfl⟩
     unfold appR
     simp only [List.length_cons,List.length_nil,Nat.zero_add,List.all_cons,ho,List.all_nil,hs,hil,decide_true,Bool.and_true,Option.isNone_none,h3,hf,if_true]
     rw [if_pos (by simpa using hm)]
     simp
   · have hm1:sz≤cs.length:=by
      rw [h4]
      calc sz=1 * sz:=(Nat.one_mul _).symm
       _≤m * sz:=Nat.mul_le_mul_right _ (by omega)
     have hov:=Pos.over_app (A:=rows.flatten) (B:=cs) (r:=r)
     rw [hf] at hov
     refine ⟨.rs id 0 (rows.length+1) sz none,H.set id (.row ((rows++[r]).flatten++cs.drop sz) sz te), ?_,⟨.inr ⟨id,cs.drop sz,m - 1,by simp,by simpa using h2,by rw [Heap.get_set,if_pos rfl],by rw [List.length_drop,h4,Nat.sub_mul];omega⟩,fun i a b c d he=>by cases he;exact hil⟩,(Chg.refl H).set hil (.inr (.inl ⟨_,h3⟩)) _,fun i hi hne=>by rw [Heap.get_set,if_neg (fun he=>hne _ _ _ _ (by rw [he]))],fun i a b c d he=>by cases he;exact .inr ⟨_,_,_,_,rfl⟩⟩
     unfold appR
     simp only [List.length_cons,List.length_nil,Nat.zero_add,List.all_cons,ho,List.all_nil,hs,hil,decide_true,Bool.and_true,Option.isNone_none,h3,if_true]
     rw [if_pos (by simpa using hm)]
     have c1':¬ (rows.length * sz=(rows.flatten++cs).length):=by rw [List.length_append,hf];omega
     have c2':(rows.length+1) * sz≤(rows.flatten++cs).length:=by rw [List.length_append,hf,Nat.succ_mul];omega
     simp only [c1',c2',decide_true,decide_false,Bool.and_false,Bool.and_true,Bool.false_eq_true,if_false,if_true]
     have:[r].flatten=r:=by simp
     rw [this,hov,hr]
     simp
structure HisW (lo:Nat) (H:Heap) (hb:Nat) (es cs:List Ev) (r:Reg) (V:RegV) (vE vC:AV):Prop where
 reg:RegW lo H hb [vE,vC] [] 106 r V
 aE:SW lo H vE 5 70 (es.map Pos.Ev.row)
 aC:SW lo H vC 5 70 (cs.map Pos.Ev.row)
 dis:∀ i j a b c d a' b' c' d',vE=.rs i a b c d→vC=.rs j a' b' c' d'→i ≠ j
 lE:es.length≤1000
 lCE:cs.length≤es.length
section
variable {lo lo':Nat} {H H':Heap} {b b' hb:Nat} {pre pre' post post':List AV} {e e':TypeId} {r:Reg} {V:RegV} {es cs:List Ev} {vE vC:AV}
theorem HisW.is (h:HisW lo H hb es cs r V vE vC):HisIs H hb es cs r V vE vC:=⟨h.reg.blk,h.reg.is,h.aE.1,h.aC.1,h.dis,h.lE,Nat.le_trans h.lCE h.lE⟩
theorem HisW.old (h:HisW lo H hb es cs r V vE vC) (ho:Old H.n H H'):HisW lo H' hb es cs r V vE vC:=⟨h.reg.old ho,h.aE.old ho,h.aC.old ho,h.dis,h.lE,h.lCE⟩
theorem PW.mono {sz:Nat} {te:TypeId} {v:AV} {rows:List (List AV)} (h:PW lo' H v sz te rows) (hl:lo≤lo'):PW lo H v sz te rows:=by
 obtain ⟨t,h1,h2 | ⟨j,h2,h3,h4,h5⟩⟩:=h
 · exact ⟨t,h1,.inl h2⟩
 · exact ⟨t,h1,.inr ⟨j,h2,h3,Nat.le_trans hl h4,h5⟩⟩
theorem SW.mono {sz:Nat} {te:TypeId} {v:AV} {rows:List (List AV)} (h:SW lo' H v sz te rows) (hl:lo≤lo'):SW lo H v sz te rows:=⟨h.1,fun i a b c d he=>Nat.le_trans hl (h.2 i a b c d he)⟩
theorem RegW.fore (h:RegW lo H b pre post e r V):RegW lo (H.set b (.cells (pre'++(regC r V++post)) e)) b pre' post e r V:=by
 have c:Chg lo b (fun _=>False) H (H.set b (.cells (pre'++(regC r V++post)) e)):=chg_b H h.lob _
 have hb:∃ cs e,H.get b=.cells cs e:=⟨_,_,h.blk⟩
 exact ⟨by simpa using h.bn,h.lob,by rw [Heap.get_set,if_pos rfl],h.aT.chg c (fun _=>id) hb,h.aF.chg c (fun _=>id) hb,h.aR.chg c (fun _=>id) hb,h.aP.chg c (fun _=>id) hb,h.aM.chg c (fun _=>id) hb,h.lT,h.lF,h.lR,h.lP,h.lM⟩
theorem RegW.chgE (h:RegW lo H b pre post e r V) (c0:Chg lo H.n (rowX 5 70) H H') (hbb:H'.get b=H.get b):RegW lo H' b pre post e r V:=by
 have c:Chg lo b (rowX 5 70) H H':=chg_up c0
 have hb:∃ cs e,H.get b=.cells cs e:=⟨_,_,h.blk⟩
 exact ⟨Nat.lt_of_lt_of_le h.bn c.n,h.lob,hbb.trans h.blk,h.aT.chg c (fun cs ⟨_,hx⟩=>by cases hx) hb,h.aF.chg c (fun cs ⟨_,hx⟩=>by cases hx) hb,h.aR.chg c (fun cs ⟨_,hx⟩=>by cases hx) hb,h.aP.chg c (fun cs ⟨_,hx⟩=>by cases hx) hb,h.aM.chg c (fun cs ⟨_,hx⟩=>by cases hx) hb,h.lT,h.lF,h.lR,h.lP,h.lM⟩
theorem RegW.move (h:RegW lo' H b' pre' post' e' r V) (hl:lo≤lo') (hb:b < H.n) (hlb:lo≤b) {cs:List AV} {te:TypeId} (hg:H.get b=.cells cs te):RegW lo (H.set b (.cells (pre++(regC r V++post)) e)) b pre post e r V:=by
 have c:Chg lo b (fun _=>False) H (H.set b (.cells (pre++(regC r V++post)) e)):=chg_b H hlb _
 have hb':∃ cs e,H.get b=.cells cs e:=⟨_,_,hg⟩
 exact ⟨by simpa using hb,hlb,by rw [Heap.get_set,if_pos rfl],(h.aT.mono hl).chg c (fun _=>id) hb',(h.aF.mono hl).chg c (fun _=>id) hb',(h.aR.mono hl).chg c (fun _=>id) hb',(h.aP.mono hl).chg c (fun _=>id) hb',(h.aM.mono hl).chg c (fun _=>id) hb',h.lT,h.lF,h.lR,h.lP,h.lM⟩
theorem SW.keep {sz:Nat} {te:TypeId} {v:AV} {rows:List (List AV)} (h:SW lo H v sz te rows) (hn:H.n≤H'.n) (hg:∀ i a b c d,v=.rs i a b c d→i < H.n→H'.get i=H.get i):SW lo H' v sz te rows :=
 ⟨h.1.keep hn fun i hi hv=>hg _ _ _ _ _ hv hi,h.2⟩
theorem SW.row {sz:Nat} {te:TypeId} {v:AV} {rows:List (List AV)} (h:SW lo H v sz te rows) {i a b c:Nat} {d:Option Nat} (hv:v=.rs i a b c d):i < H.n ∧ ∃ cs,H.get i=.row cs sz te:=by
 obtain ⟨⟨_,h2⟩ | ⟨id,cs,m,h2,h3,h4,_⟩,_⟩:=h
 · rw [hv] at h2;cases h2
 · rw [hv] at h2
   cases h2
   exact ⟨h3,_,h4⟩
end
theorem en60 {P:FuncId→Option (List AV→Option AV)} (hP:P 60=none) {lo:Nat} {args:List AV} {H:Heap} {K:AV→Heap→Prop}:VO (aenter (NC.withPrims P) (R (NC.withPrims P)) lo 60 args H) K=AO (R (NC.withPrims P) (.call lo 60 args H)) fun o=>K o.val o.s.H:=by
 refine enter_free rfl ?_ (by kernel_rfl) (by kernel_rfl) (by kernel_rfl)
 show (match NC.prim 60 with | some p=>some p | none=>P 60)=none
 rw [hP];kernel_rfl
theorem add_first {lo:Nat} {H:Heap} {hb:Nat} {es cs:List Ev} {r:Reg} {V:RegV} {vE vC:AV} (h:HisW lo H hb es cs r V vE vC) (e:Ev) (hl:es.length+1≤1000) :
 ∃ v1 H1 H2,appR lo H 5 70 vE [e.row]=some (v1,H1)∧H1.get hb=H.get hb∧sst lo H1 25 (.ptr hb 0) v1=some H2∧HisW lo H2 hb (es++[e]) cs r V v1 vC∧Chg lo hb rowsX H H2∧H1.n≤H2.n∧(∀ i,i < H.n→(∀ a b c d,vE ≠ .rs i a b c d)→H1.get i=H.get i)∧H.n≤H1.n:=by
 obtain ⟨v1,H1,ha,hv,hc,ho,hi⟩:=app_e e.row h.aE (Nat.le_of_lt (Nat.lt_of_le_of_lt h.reg.lob h.reg.bn)) (rows_Len (by intro x;rfl) _) rfl rfl (by decide) (by rw [List.length_map];unfold maxRows;omega)
 have hbb:H1.get hb=H.get hb:=chg_none hc h.reg.bn (fun ⟨_,hx⟩=>by rw [h.reg.blk] at hx;cases hx)
 have hst:=st_cell (lo:=lo) (k:=0) (pre:=[]) (cs:=[vE,vC]) (post:=regC r V++[]) (t:=25) (v:=v1) (hbb.trans h.reg.blk) h.reg.lob (by show 0 < 2;decide) (by kernel_rfl) hv.cells1 hv.one1
 have hr1:=h.reg.chgE hc hbb
 have hr2:=hr1.fore (pre':=[v1,vC])
 have hC1:SW lo H1 vC 5 70 (cs.map Pos.Ev.row):=h.aC.keep hc.n fun i a b c d hv' hi'=>ho i hi' fun a b c d he=>h.dis _ _ _ _ _ _ _ _ _ _ he hv' rfl
 have hcell:∃ cs e,H1.get hb=.cells cs e:=⟨_,_,hbb.trans h.reg.blk⟩
 have hcb:Chg lo hb (fun _=>False) H1 (H1.set hb (.cells ([v1,vC]++(regC r V++[])) 106)):=chg_b H1 h.reg.lob _
 refine ⟨v1,H1,_,ha,hbb,hst,⟨hr2, ?_, ?_, ?_,by simpa using hl,by have:=h.lCE;simp;omega⟩, ?_,by simp,ho,hc.n⟩
 · rw [List.map_append];exact hv.chg hcb (fun _=>id) hcell
 · exact hC1.chg hcb (fun _=>id) hcell
 · intro i j a b c d a' b' c' d' h1 h2 hij
   subst hij
   rcases hi _ _ _ _ _ h1 with h3 | ⟨_,_,_,_,h3⟩
   · have:=(h.aC.row h2).1;omega
   · exact h.dis _ _ _ _ _ _ _ _ _ _ h3 h2 rfl
 · exact ((chg_up hc).mono fun x ⟨cs,hx⟩=>⟨cs,_,_,hx⟩).set h.reg.lob (.inl rfl) _
theorem add_second {lo:Nat} {H:Heap} {hb:Nat} {es cs:List Ev} {r:Reg} {V:RegV} {vE vC:AV} (h:HisW lo H hb es cs r V vE vC) (e:Ev) (hl:cs.length+1≤es.length) :
 ∃ v1 H1 H2,appR lo H 5 70 vC [e.row]=some (v1,H1)∧H1.get hb=H.get hb∧sst lo H1 25 (.ptr hb 1) v1=some H2∧HisW lo H2 hb es (cs++[e]) r V vE v1∧Chg lo hb rowsX H H2∧H1.n≤H2.n∧H.n≤H1.n:=by
 obtain ⟨v1,H1,ha,hv,hc,ho,hi⟩:=app_e e.row h.aC (Nat.le_of_lt (Nat.lt_of_le_of_lt h.reg.lob h.reg.bn)) (rows_Len (by intro x;rfl) _) rfl rfl (by decide) (by have:=h.lE;rw [List.length_map];unfold maxRows;omega)
 have hbb:H1.get hb=H.get hb:=chg_none hc h.reg.bn (fun ⟨_,hx⟩=>by rw [h.reg.blk] at hx;cases hx)
 have hst:=st_cell (lo:=lo) (k:=1) (pre:=[]) (cs:=[vE,vC]) (post:=regC r V++[]) (t:=25) (v:=v1) (hbb.trans h.reg.blk) h.reg.lob (by show 1 < 2;decide) (by kernel_rfl) hv.cells1 hv.one1
 have hr1:=h.reg.chgE hc hbb
 have hr2:=hr1.fore (pre':=[vE,v1])
 have hE1:SW lo H1 vE 5 70 (es.map Pos.Ev.row):=h.aE.keep hc.n fun i a b c d hv' hi'=>ho i hi' fun a b c d he=>h.dis _ _ _ _ _ _ _ _ _ _ hv' he rfl
 have hcell:∃ cs e,H1.get hb=.cells cs e:=⟨_,_,hbb.trans h.reg.blk⟩
 have hcb:Chg lo hb (fun _=>False) H1 (H1.set hb (.cells ([vE,v1]++(regC r V++[])) 106)):=chg_b H1 h.reg.lob _
 refine ⟨v1,H1,_,ha,hbb,hst,⟨hr2, ?_, ?_, ?_,h.lE,by simpa using hl⟩, ?_,by simp,hc.n⟩
 · exact hE1.chg hcb (fun _=>id) hcell
 · rw [List.map_append];exact hv.chg hcb (fun _=>id) hcell
 · intro i j a b c d a' b' c' d' h1 h2 hij
   subst hij
   rcases hi _ _ _ _ _ h2 with h3 | ⟨_,_,_,_,h3⟩
   · have:=(h.aE.row h1).1;omega
   · exact h.dis _ _ _ _ _ _ _ _ _ _ h1 h3 rfl
 · exact ((chg_up hc).mono fun x ⟨cs,hx⟩=>⟨cs,_,_,hx⟩).set h.reg.lob (.inl rfl) _
theorem acc_sv {lo sz:Nat} {te:TypeId} {H:Heap} {v:AV} {rows:List (List AV)} (h:SW lo H v sz te rows) {b:Nat} {cs:List AV} {e:TypeId} (hb:H.get b=.cells cs e):accS (some v)=none ∨ ∃ j,accS (some v)=some (.wr j)∧j < H.n∧j ≠ b:=by
 obtain ⟨⟨_,rfl⟩ | ⟨id,cs',m,rfl,h2,h3,_⟩,_⟩:=h
 · exact .inl rfl
 · exact .inr ⟨id,rfl,h2,fun he=>by rw [he,hb] at h3;cases h3⟩
theorem w_add_more {lo : Nat} {H : Heap} {hb : Nat} {es cs : List Ev} {r : Reg} {V : RegV} {vE vC : AV} (h : HisW lo H hb es cs r V vE vC) {num tk : Int} {kind : Nm} {names : List Nm} {vs : List Int} {a : Pos.Act} (hk : kind ≠ Pos.kUndo) (hA : ∀ n, AppOk r a num kind names (tk :: vs) [] n) (hn : names.length ≤ maxRows ∧ (tk :: vs).length ≤ maxRows) (hle : es.length + 1 ≤ 1000) :
 ∃ w H', R PT (.call lo 60 [.ptr hb 0, .agg (evC num kind names (tk :: vs) [])] H) = some (.ofVal w H') ∧ ∃ vE' vC' V', HisW lo H' hb (es ++ [⟨num, kind, names, tk :: vs, []⟩]) (cs ++ [⟨num, kind, names, tk :: vs, []⟩]) (Pos.doA r tk a) V' vE' vC' ∧ Chg lo hb rowsX H H' := by
 refine R_of_body (C := PT) (f := 60) (lo := lo) (args := [.ptr hb 0, .agg (evC num kind names (tk :: vs) [])]) (H := H) (fn := Tryz.f60) (Q := fun _ H' => ∃ vE' vC' V', HisW lo H' hb (es ++ [⟨num, kind, names, tk :: vs, []⟩]) (cs ++ [⟨num, kind, names, tk :: vs, []⟩]) (Pos.doA r tk a) V' vE' vC' ∧ Chg lo hb rowsX H H') (by kernel_rfl) Tryz.func60 rfl rfl ?_
 have hlo : lo ≤ H.n := Nat.le_of_lt (Nat.lt_of_le_of_lt h.reg.lob h.reg.bn)
 have hlo' := eq_true hlo
 have hbn := eq_true h.reg.bn
 have hku : beqL kind [117, 110, 100, 111] = false := by rw [beqL_dec]; exact decide_eq_false hk
 obtain ⟨H0, hH0⟩ : ∃ H0, H0 = (H.push (.cells (evC num kind names (tk :: vs) []) 70)).set H.n (.cells (evC num kind names (tk :: vs) []) 70) := ⟨_, rfl⟩
 have hst0 : sst lo (H.push (.cells (evC num kind names (tk :: vs) []) 70)) 70 (.ptr H.n 0) (.agg (evC num kind names (tk :: vs) [])) = some H0 := by
  simp (config := { maxDischargeDepth := 12 }) only [go_sem, reduceIte, reduceEqDiff, reduceAdd, reduceMul, reduceSub, reduceLeDiff, reduceLT, Nat.reduceBEq, reduceCtorEq, hlo', hH0]
 have hn0 : H0.n = H.n + 1 := by rw [hH0]; simp
 have hO0 : Old H.n H H0 := by rw [hH0]; exact (Old.refl H).new _ _
 have hc0 : Chg lo hb rowsX H H0 := ⟨by omega, fun i hi => .inl (hO0.2 i hi)⟩
 have hp0 : H0.get H.n = .cells (evC num kind names (tk :: vs) []) 70 := by rw [hH0, Heap.get_set, if_pos rfl]
 have h0 := h.old hO0
 obtain ⟨v1, H1, H2, ha1, hb1, hst1, h2, hc2, hn12, ho1, hn01⟩ := add_first h0 ⟨num, kind, names, tk :: vs, []⟩ hle
 obtain ⟨v2, H3, H4, ha2, hb2, hst2, h4, hc4, hn34, hn23⟩ := add_second h2 ⟨num, kind, names, tk :: vs, []⟩ (by have := h.lCE; simp; omega)
 simp only [Pos.Ev.row] at ha1 ha2
 have hp2 : H2.get H.n = .cells (evC num kind names (tk :: vs) []) 70 := hc2.cells (by omega) (by have := h.reg.bn; omega) hp0
 have hn2 := hc2.n
 have hn4 := hc4.n
 have hp4 : H4.get H.n = .cells (evC num kind names (tk :: vs) []) 70 := hc4.cells (by omega) (by have := h.reg.bn; omega) hp2
 have hg0 := h0.reg.blk
 have hg2 := h2.reg.blk
 simp only [regC, List.append_nil, List.cons_append, List.nil_append] at hg0 hg2
 have hg1 := hb1.trans hg0
 have hg3 := hb2.trans hg2
 obtain ⟨H5, hr5, hn5, hk5, hF⟩ := r_forms (P := PPT) (by rfl) (by rfl) H4.n H4 (Nat.le_refl _)
 have hp5 : H5.get H.n = .cells (evC num kind names (tk :: vs) []) 70 := by rw [hk5 _ (by omega), hp4]
 have hO5 : Old H4.n H4 H5 := ⟨by omega, hk5⟩
 obtain ⟨nm', fv, f1, l1, f2, l2, hlk, ⟨hs1, hs2⟩, hu, happ⟩ := hA H4.n
 have h5 := h4.old hO5
 obtain ⟨w, H6, V', hcall, hW6, hc6⟩ := happ lo H5 hb [v1, v2] [] 106 V hF (by omega) h5.reg
 have hlk2 := (look_S hF.map (keys_forms _) kind).2
 rw [hlk] at hlk2
 have hu1 := (hu _ (Nat.le_of_eq hn5.symm)).1
 have hu2 := (hu _ (Nat.le_of_eq hn5.symm)).2
 have hc6' := hc6.mono regX_rows
 have hp6 : H6.get H.n = .cells (evC num kind names (tk :: vs) []) 70 := hc6'.cells (by omega) (by have := h.reg.bn; omega) hp5
 obtain ⟨ht1, ht2⟩ := hW6.tick tk
 rw [Pos.do_tick] at ht1 ht2
 have hei : (ints (tk :: vs))[0]? = some [.int .i64 tk] := rfl
 have hel : (0 < (ints (tk :: vs)).length) = True := eq_true (by rw [ints_len]; exact Nat.succ_pos _)
 have hown := pe81 ⟨num, kind, names, tk :: vs, []⟩ hn
 simp only [Pos.Ev.row] at hown
 simp only [List.length_cons, List.length_nil, Nat.zero_add, reduceAdd] at ht1 hcall
 try simp only [List.length_nil, Nat.zero_add, Nat.add_zero] at hst1 hst2
 have q1 : (H.n < H0.n) = True := eq_true (by omega)
 have q2 : (H.n < H1.n) = True := eq_true (by omega)
 have q3 : (H.n < H2.n) = True := eq_true (by omega)
 have q4 : (H.n < H4.n) = True := eq_true (by omega)
 have q5 : (H4.n < H5.n) = True := eq_true (by omega)
 have q6 : (H.n < H5.n) = True := eq_true (by omega)
 have q7 : (hb < H0.n) = True := eq_true (by have := h.reg.bn; omega)
 have q8 : (hb < H2.n) = True := eq_true (by have := h.reg.bn; omega)
 have q9 : (hb < H5.n) = True := eq_true (by have := h.reg.bn; omega)
 have q10 : (hb = H.n) = False := eq_false (by have := h.reg.bn; omega)
 have q11 : (H.n = hb) = False := eq_false (by have := h.reg.bn; omega)
 have hfin : HisW lo (H6.set hb (.cells ([v1, v2] ++ (regC (Pos.doA r tk a) V' ++ [])) 106)) hb (es ++ [⟨num, kind, names, tk :: vs, []⟩]) (cs ++ [⟨num, kind, names, tk :: vs, []⟩]) (Pos.doA r tk a) V' v1 v2 := by
  have hcb : Chg lo hb (fun _ => False) H6 (H6.set hb (.cells ([v1, v2] ++ (regC (Pos.doA r tk a) V' ++ [])) 106)) := chg_b H6 h.reg.lob _
  have hx : ∀ cs, ¬ regX (.row cs 5 70) := fun cs ⟨_, _, _, h1, h2⟩ => by cases h1; exact h2 rfl
  exact ⟨ht2, (h5.aE.chg hc6 hx ⟨_, _, h5.reg.blk⟩).chg hcb (fun _ => id) ⟨_, _, hW6.blk⟩, (h5.aC.chg hc6 hx ⟨_, _, h5.reg.blk⟩).chg hcb (fun _ => id) ⟨_, _, hW6.blk⟩, h5.dis, h5.lE, h5.lCE⟩
 have hchg : Chg lo hb rowsX H (H6.set hb (.cells ([v1, v2] ++ (regC (Pos.doA r tk a) V' ++ [])) 106)) := ((((hc0.to hc2).to hc4).to ⟨by omega, fun i hi => .inl (hk5 i hi)⟩).to hc6').set h.reg.lob (.inl rfl) _
 rcases acc_sv h0.aE hg0 with aE | ⟨jE, aE, jE1, jE2⟩ <;> rcases acc_sv h2.aC hg2 with aC | ⟨jC, aC, jC1, jC2⟩
 · skip
   simp (config := { maxDischargeDepth := 12 }) only [go_sem, reduceIte, reduceEqDiff, reduceAdd, reduceMul, reduceSub, reduceLeDiff, reduceLT, Nat.reduceBEq, reduceCtorEq, appO, hst0, hst1, hst2, ha1, ha2, hp0, hp2, hp4, hp5, hp6, hg0, hg1, hg2, hg3, hlk2, hu1, hu2, hs1, hs2, hcall, ht1, hei, hel, hown, hbn, hlo', hku, en70 (P := PPT) rfl, hr5, q1, q2, q3, q4, q5, q6, q7, q8, q9, q10, q11, aE, aC]
   exact ⟨v1, v2, V', hfin, hchg⟩
 · skip
   have f1 : (jC = hb) = False := eq_false jC2
   have f2 : (hb = jC) = False := eq_false (Ne.symm jC2)
   have f3 : (jC = H.n) = False := eq_false (fun he => by
    rcases h2.aC.1 with ⟨_, hv⟩ | ⟨id, cs, m, hv, _, hg, _⟩
    · rw [hv] at aC; cases aC
    · rw [hv] at aC
      cases aC
      rw [he, hp2] at hg; cases hg)
   have f4 : (H.n = jC) = False := eq_false (fun he => by rw [he] at f3; simp at f3)
   simp (config := { maxDischargeDepth := 12 }) only [go_sem, reduceIte, reduceEqDiff, reduceAdd, reduceMul, reduceSub, reduceLeDiff, reduceLT, Nat.reduceBEq, reduceCtorEq, appO, hst0, hst1, hst2, ha1, ha2, hp0, hp2, hp4, hp5, hp6, hg0, hg1, hg2, hg3, hlk2, hu1, hu2, hs1, hs2, hcall, ht1, hei, hel, hown, hbn, hlo', hku, en70 (P := PPT) rfl, hr5, q1, q2, q3, q4, q5, q6, q7, q8, q9, q10, q11, aE, aC, f1, f2, f3, f4]
   exact ⟨v1, v2, V', hfin, hchg⟩
 · skip
   have e1 : (jE = hb) = False := eq_false jE2
   have e2 : (hb = jE) = False := eq_false (Ne.symm jE2)
   have e3 : (jE = H.n) = False := eq_false (fun he => by
    rcases h0.aE.1 with ⟨_, hv⟩ | ⟨id, cs, m, hv, _, hg, _⟩
    · rw [hv] at aE; cases aE
    · rw [hv] at aE
      cases aE
      rw [he, hp0] at hg; cases hg)
   have e4 : (H.n = jE) = False := eq_false (fun he => by rw [he] at e3; simp at e3)
   simp (config := { maxDischargeDepth := 12 }) only [go_sem, reduceIte, reduceEqDiff, reduceAdd, reduceMul, reduceSub, reduceLeDiff, reduceLT, Nat.reduceBEq, reduceCtorEq, appO, hst0, hst1, hst2, ha1, ha2, hp0, hp2, hp4, hp5, hp6, hg0, hg1, hg2, hg3, hlk2, hu1, hu2, hs1, hs2, hcall, ht1, hei, hel, hown, hbn, hlo', hku, en70 (P := PPT) rfl, hr5, q1, q2, q3, q4, q5, q6, q7, q8, q9, q10, q11, aE, aC, e1, e2, e3, e4]
   exact ⟨v1, v2, V', hfin, hchg⟩
 · skip
   have e1 : (jE = hb) = False := eq_false jE2
   have e2 : (hb = jE) = False := eq_false (Ne.symm jE2)
   have e3 : (jE = H.n) = False := eq_false (fun he => by
    rcases h0.aE.1 with ⟨_, hv⟩ | ⟨id, cs, m, hv, _, hg, _⟩
    · rw [hv] at aE; cases aE
    · rw [hv] at aE
      cases aE
      rw [he, hp0] at hg; cases hg)
   have e4 : (H.n = jE) = False := eq_false (fun he => by rw [he] at e3; simp at e3)
   have f1 : (jC = hb) = False := eq_false jC2
   have f2 : (hb = jC) = False := eq_false (Ne.symm jC2)
   have f3 : (jC = H.n) = False := eq_false (fun he => by
    rcases h2.aC.1 with ⟨_, hv⟩ | ⟨id, cs, m, hv, _, hg, _⟩
    · rw [hv] at aC; cases aC
    · rw [hv] at aC
      cases aC
      rw [he, hp2] at hg; cases hg)
   have f4 : (H.n = jC) = False := eq_false (fun he => by rw [he] at f3; simp at f3)
   simp (config := { maxDischargeDepth := 12 }) only [go_sem, reduceIte, reduceEqDiff, reduceAdd, reduceMul, reduceSub, reduceLeDiff, reduceLT, Nat.reduceBEq, reduceCtorEq, appO, hst0, hst1, hst2, ha1, ha2, hp0, hp2, hp4, hp5, hp6, hg0, hg1, hg2, hg3, hlk2, hu1, hu2, hs1, hs2, hcall, ht1, hei, hel, hown, hbn, hlo', hku, en70 (P := PPT) rfl, hr5, q1, q2, q3, q4, q5, q6, q7, q8, q9, q10, q11, aE, aC, e1, e2, e3, e4, f1, f2, f3, f4]
   exact ⟨v1, v2, V', hfin, hchg⟩
theorem slice_rs {id n:Nat}:aslice NC.P 25 (.rs id 0 (n+1) 5 none) none (some (.int .i64 (n:Nat))) none=some (.rs id 0 n 5 none):=by
 have hu:NC.P.underlying 25=some (.slice 70):=by kernel_rfl
 have hz:szOf NC.P 70=some 5:=by kernel_rfl
 have hn:natOf (n+1+1) (.int .i64 (n:Nat))=some n:=by rw [natOf_cast,if_pos (by omega)]
 have h0:∀ k,boundOf 0 k none=some 0:=fun k=>rfl
 have hb:boundOf (n+1) (n+1) (some (.int .i64 (n:Nat)))=some n:=by
  unfold boundOf
  simp only [hn]
 unfold aslice
 simp only [hu,hz,if_true,hb,h0]
 simp
theorem w_add_undo (nm : Nm → Bool) {lo : Nat} {H : Heap} {hb : Nat} {es cs : List Ev} {r r' : Reg} {V : RegV} {vE vC : AV} (h : HisW lo H hb es cs r V vE vC) {num : Int} {l : Ev} {ds : List Ev} (hcs : cs = ds ++ [l]) (hrun : Pos.runO Pos.zReg (Pos.acts ds) = some r') (hc : ∀ e ∈ ds, Pos.chkE nm e = 0 ∧ e.kind ≠ Pos.kUndo) (hle : es.length + 1 ≤ 1000) :
 ∃ w H', R PT (.call lo 60 [.ptr hb 0, .agg (evC num Pos.kUndo [] [] [])] H) = some (.ofVal w H') ∧ ∃ vE' vC' V', HisW lo H' hb (es ++ [⟨num, Pos.kUndo, [], [], []⟩]) ds r' V' vE' vC' ∧ Chg lo hb rowsX H H' := by
 refine R_of_body (C := PT) (f := 60) (lo := lo) (args := [.ptr hb 0, .agg (evC num Pos.kUndo [] [] [])]) (H := H) (fn := Tryz.f60) (Q := fun _ H' => ∃ vE' vC' V', HisW lo H' hb (es ++ [⟨num, Pos.kUndo, [], [], []⟩]) ds r' V' vE' vC' ∧ Chg lo hb rowsX H H') (by kernel_rfl) Tryz.func60 rfl rfl ?_
 have hlo : lo ≤ H.n := Nat.le_of_lt (Nat.lt_of_le_of_lt h.reg.lob h.reg.bn)
 have hlo' := eq_true hlo
 have hbn := eq_true h.reg.bn
 have hbn0 := h.reg.bn
 have hku : beqL Pos.kUndo [117, 110, 100, 111] = true := by decide
 obtain ⟨H0, hH0⟩ : ∃ H0, H0 = (H.push (.cells (evC num Pos.kUndo [] [] []) 70)).set H.n (.cells (evC num Pos.kUndo [] [] []) 70) := ⟨_, rfl⟩
 have hst0 : sst lo (H.push (.cells (evC num Pos.kUndo [] [] []) 70)) 70 (.ptr H.n 0) (.agg (evC num Pos.kUndo [] [] [])) = some H0 := by
  simp (config := { maxDischargeDepth := 12 }) only [go_sem, reduceIte, reduceEqDiff, reduceAdd, reduceMul, reduceSub, reduceLeDiff, reduceLT, Nat.reduceBEq, reduceCtorEq, hlo', hH0]
 have hn0 : H0.n = H.n + 1 := by rw [hH0]; simp
 have hO0 : Old H.n H H0 := by rw [hH0]; exact (Old.refl H).new _ _
 have hc0 : Chg lo hb rowsX H H0 := ⟨by omega, fun i hi => .inl (hO0.2 i hi)⟩
 have hp0 : H0.get H.n = .cells (evC num Pos.kUndo [] [] []) 70 := by rw [hH0, Heap.get_set, if_pos rfl]
 have h0 := h.old hO0
 obtain ⟨v1, H1, H2, ha1, hb1, hst1, h2, hc2, hn12, ho1, hn01⟩ := add_first h0 ⟨num, Pos.kUndo, [], [], []⟩ hle
 simp only [Pos.Ev.row] at ha1
 have hp2 : H2.get H.n = .cells (evC num Pos.kUndo [] [] []) 70 := hc2.cells (by omega) (by omega) hp0
 have hn2 := hc2.n
 have hg0 := h0.reg.blk
 have hg2 := h2.reg.blk
 simp only [regC, List.append_nil, List.cons_append, List.nil_append] at hg0 hg2
 have hg1 := hb1.trans hg0
 subst hcs
 obtain ⟨hr0, _⟩ | ⟨idC, tl, m, hvC, hid, hgi, htl⟩ := h2.aC.1
 · simp at hr0
 have hll : ((ds ++ [l]).map Pos.Ev.row).length = ds.length + 1 := by simp
 rw [hll] at hvC
 have hidl := h2.aC.2 _ _ _ _ _ hvC
 have hlC := h2.lCE
 have hlE := h2.lE
 simp only [List.length_append, List.length_cons, List.length_nil] at hlC hlE
 have hw2 : wrapq .i64 (Int.sub ((ds.length + 1 : Nat) : Int) 1) = (ds.length : Int) := wrap_pred (k := ds.length + 1) (by omega) (Nat.le_refl _) (by unfold maxRows; omega)
 have hsl := slice_rs (id := idC) (n := ds.length)
 have hst2 := st_cell (lo := lo) (k := 1) (pre := []) (cs := [v1, vC]) (post := regC r V ++ []) (t := 25) (v := .rs idC 0 ds.length 5 none) h2.reg.blk h.reg.lob (by show 1 < 2; decide) (by kernel_rfl) rfl rfl
 have hr3 := h2.reg.fore (pre' := [v1, .rs idC 0 ds.length 5 none])
 obtain ⟨H3, hH3⟩ : ∃ H3, H3 = H2.set hb (.cells ([v1, .rs idC 0 ds.length 5 none] ++ (regC r V ++ [])) 106) := ⟨_, rfl⟩
 have hst2' : sst lo H2 25 (.ptr hb 1) (.rs idC 0 ds.length 5 none) = some H3 := by rw [hH3]; exact hst2
 rw [← hH3] at hr3
 have hn3 : H3.n = H2.n := by rw [hH3]; simp
 have hidb : idC ≠ hb := fun he => by rw [he, h2.reg.blk] at hgi; cases hgi
 have hg3' : H3.get idC = .row (((ds ++ [l]).map Pos.Ev.row).flatten ++ tl) 5 70 := by rw [hH3, Heap.get_set, if_neg hidb]; exact hgi
 have hC3 : SW lo H3 (.rs idC 0 ds.length 5 none) 5 70 (ds.map Pos.Ev.row) := ⟨.inr ⟨idC, l.row ++ tl, m + 1, by rw [List.length_map], by omega, by rw [hg3']; simp, by rw [List.length_append, htl, Nat.succ_mul]; show 5 + m * 5 = _; omega⟩, fun i a b c d he => by cases he; exact hidl⟩
 have hcb3 : Chg lo hb (fun _ => False) H2 H3 := by rw [hH3]; exact chg_b H2 h.reg.lob _
 have hE3 : SW lo H3 v1 5 70 ((es ++ [(⟨num, Pos.kUndo, [], [], []⟩ : Ev)]).map Pos.Ev.row) := h2.aE.chg hcb3 (fun _ => id) ⟨_, _, h2.reg.blk⟩
 obtain ⟨w, H4, hm, V', rfl, hO4, hW4⟩ := r_made nm (sv_sl hC3.1) (by omega) hrun hc
 have hmade := fun lo K => enter_n (K := K) (en82 (lo := lo) rfl) hm
 have hn4 := hO4.1
 have hg4 : H4.get hb = .cells ([v1, .rs idC 0 ds.length 5 none] ++ (regC r V ++ [])) 106 := by rw [hO4.2 _ (by omega)]; exact hr3.blk
 have hr5 := hW4.move (lo := lo) (b := hb) (pre := [v1, .rs idC 0 ds.length 5 none]) (post := []) (e := 106) (by omega) (by omega) h.reg.lob hg4
 have hg4' := hg4
 simp only [regC, List.append_nil, List.cons_append, List.nil_append] at hg4'
 obtain ⟨H5, hH5⟩ : ∃ H5, H5 = H4.set hb (.cells ([v1, .rs idC 0 ds.length 5 none] ++ (regC r' V' ++ [])) 106) := ⟨_, rfl⟩
 rw [← hH5] at hr5
 have hlob := eq_true h.reg.lob
 have oT := hW4.aT.one1
 have oF := hW4.aF.one1
 have oR := hW4.aR.one1
 have oP := hW4.aP.one1
 have oM := hW4.aM.one1
 have hst4 : sst lo H4 104 (.ptr hb 2) (.agg (regC r' V')) = some H5 := by
  unfold AV.one at oT oF oR oP oM
  rw [hH5]
  simp (config := { maxDischargeDepth := 12 }) only [go_sem, reduceIte, reduceEqDiff, reduceAdd, reduceMul, reduceSub, reduceLeDiff, reduceLT, Nat.reduceBEq, reduceCtorEq, hg4', regC, oT, oF, oR, oP, oM, hlob]
 have hcb5 : Chg lo hb (fun _ => False) H4 H5 := by rw [hH5]; exact chg_b H4 h.reg.lob _
 have hfin : HisW lo H5 hb (es ++ [⟨num, Pos.kUndo, [], [], []⟩]) ds r' V' v1 (.rs idC 0 ds.length 5 none) := by
  refine ⟨hr5, (hE3.old hO4).chg hcb5 (fun _ => id) ⟨_, _, hg4⟩, (hC3.old hO4).chg hcb5 (fun _ => id) ⟨_, _, hg4⟩, ?_, h2.lE, by simp; omega⟩
  intro i j a b c d a' b' c' d' e1 e2
  cases e2
  exact h2.dis _ _ _ _ _ _ _ _ _ _ e1 hvC
 have hchg : Chg lo hb rowsX H H5 := (((hc0.to hc2).to (hcb3.mono fun _ hx => hx.elim)).to ⟨hn4, fun i hi => .inl (hO4.2 i hi)⟩).to (hcb5.mono fun _ hx => hx.elim)
 have hown := pe81 ⟨num, Pos.kUndo, [], [], []⟩ ⟨Nat.zero_le _, Nat.zero_le _⟩
 simp only [Pos.Ev.row] at hown
 have q1 : (H.n < H0.n) = True := eq_true (by omega)
 have q2 : (H.n < H2.n) = True := eq_true (by omega)
 have q7 : (hb < H0.n) = True := eq_true (by omega)
 have q8 : (hb < H2.n) = True := eq_true (by omega)
 have q9 : (idC < H2.n) = True := eq_true hid
 have q10 : (hb = H.n) = False := eq_false (by omega)
 have q11 : (H.n = hb) = False := eq_false (by omega)
 have hun : (AV.rs idC 0 (ds.length + 1) 5 none).under H2.n = true := Nat.ble_eq.symm ▸ (show idC < H2.n from hid)
 have hg2n := hg2
 rw [hvC] at hg2n
 have hg3n := hr3.blk
 simp only [regC, List.append_nil, List.cons_append, List.nil_append] at hg3n
 try simp only [List.length_nil, Nat.zero_add, Nat.add_zero] at hst1
 rcases acc_sv h0.aE hg0 with aE | ⟨jE, aE, jE1, jE2⟩
 · simp (config := { maxDischargeDepth := 12 }) only [go_sem, reduceIte, reduceEqDiff, reduceAdd, reduceMul, reduceSub, reduceLeDiff, reduceLT, Nat.reduceBEq, reduceCtorEq, appO, hst0, hst1, hst2', hst4, ha1, hp0, hp2, hg0, hg1, hg2n, hg3n, hown, hbn, hlo', hku, hw2, hsl, hmade, q1, q2, q7, q8, q9, q10, q11, hun, aE]
   exact ⟨v1, _, V', hfin, hchg⟩
 · have e1 : (jE = hb) = False := eq_false jE2
   have e2 : (hb = jE) = False := eq_false (Ne.symm jE2)
   have e3 : (jE = H.n) = False := eq_false (fun he => by
    rcases h0.aE.1 with ⟨_, hv⟩ | ⟨id, cs, m, hv, _, hg, _⟩
    · rw [hv] at aE; cases aE
    · rw [hv] at aE
      cases aE
      rw [he, hp0] at hg; cases hg)
   have e4 : (H.n = jE) = False := eq_false (fun he => by rw [he] at e3; simp at e3)
   simp (config := { maxDischargeDepth := 12 }) only [go_sem, reduceIte, reduceEqDiff, reduceAdd, reduceMul, reduceSub, reduceLeDiff, reduceLT, Nat.reduceBEq, reduceCtorEq, appO, hst0, hst1, hst2', hst4, ha1, hp0, hp2, hg0, hg1, hg2n, hg3n, hown, hbn, hlo', hku, hw2, hsl, hmade, q1, q2, q7, q8, q9, q10, q11, hun, aE, e1, e2, e3, e4]
   exact ⟨v1, _, V', hfin, hchg⟩
theorem form_small {k:Nm} {a b:Nat} (h:Pos.formE k=some (a,b)):a≤4∧b≤4:=by
 have go:∀ {p:Prop} [Decidable p] {x:Nat × Nat} {v:Option (Nat × Nat)},(if p then some x else v)=some (a,b)→x=(a,b)∨v=some (a,b):=fun {p} _ {x v} h=>by
  split at h
  · exact .inl (Option.some.inj h)
  · exact .inr h
 unfold Pos.formE at h
 iterate 18
  rcases go h with h1 | h
  · cases h1;decide
 cases h
theorem w_add (nm : Nm → Bool) {lo : Nat} {H : Heap} {hb : Nat} {es cs : List Ev} {r : Reg} {V : RegV} {vE vC : AV} (h : HisW lo H hb es cs r V vE vC) (J : Pos.JOk nm ⟨cs, r⟩) {e : Ev} (hw : Pos.wrongJ nm ⟨cs, r⟩ es.length e = 0) (hle : es.length + 1 ≤ 1000) :
 ∃ w H', R PT (.call lo 60 [.ptr hb 0, .agg e.row] H) = some (.ofVal w H') ∧ ∃ vE' vC' V', HisW lo H' hb (es ++ [e]) (Pos.addJ ⟨cs, r⟩ e).cs (Pos.addJ ⟨cs, r⟩ e).reg V' vE' vC' ∧ Chg lo hb rowsX H H' := by
 have J' := Pos.jok_add nm J hw
 have h1 : Pos.chkE nm e = 0 := by
  unfold Pos.wrongJ at hw
  split at hw
  · rename_i h; exact absurd hw h
  · rename_i h; simpa using h
 have hacc : Pos.accJ ⟨cs, r⟩ es.length e = 0 := by
  unfold Pos.wrongJ at hw
  rw [if_neg (by simpa using h1)] at hw
  exact hw
 by_cases hk : e.kind = Pos.kUndo
 · have he := Pos.chk_undo nm h1 hk
   generalize e.num = num at he
   subst he
   unfold Pos.accJ at hacc
   by_cases hnum : num ≠ (es.length : Int) + 1
   · rw [if_pos hnum] at hacc; cases hacc
   rw [if_neg hnum, if_pos rfl] at hacc
   rcases List.eq_nil_or_concat cs with rfl | ⟨ds, l, rfl⟩
   · cases hacc
   rw [List.concat_eq_append] at *
   have hadd : Pos.addJ ⟨ds ++ [l], r⟩ ⟨num, Pos.kUndo, [], [], []⟩ = ⟨ds, Pos.regOf ds⟩ := by
    unfold Pos.addJ
    rw [if_pos rfl]
    simp
   rw [hadd] at J' ⊢
   exact w_add_undo nm h rfl J'.run J'.chk hle
 · obtain ⟨tk, a, ha, hev, h0, h9⟩ := Pos.chk_ev nm h1 hk
   obtain ⟨kind, names, vs, hp⟩ := Pos.ev_parts e.num tk a
   have hok : Pos.okA r tk a = 0 := by
    unfold Pos.accJ at hacc
    by_cases hnum : e.num ≠ (es.length : Int) + 1
    · rw [if_pos hnum] at hacc; cases hacc
    rw [if_neg hnum, if_neg hk] at hacc
    simpa only [ha] using hacc
   obtain ⟨I, S⟩ := Pos.jok_inv nm J
   have hA := fun n => ap_all I S (num := e.num) hok n
   have hadd : Pos.addJ ⟨cs, r⟩ e = ⟨cs ++ [e], Pos.doA r tk a⟩ := by
    unfold Pos.addJ
    rw [if_neg hk]
    unfold Pos.doE
    simp only [ha]
   obtain ⟨a1, a2, hf, hl1, hl2, _⟩ := Pos.chk_form nm h1
   rw [hadd]
   rw [hp] at hev
   simp only [hp] at hA
   have hnn : e.names.length ≤ maxRows ∧ e.vals.length ≤ maxRows := by
    have := form_small hf
    unfold maxRows; omega
   generalize e.num = num at hev hA
   subst hev
   exact w_add_more h hk hA hnn hle
def EvS (e:Ev):Prop:=e.names.length≤maxRows∧e.vals.length≤maxRows
theorem rep_cons (nm:Nm→Bool) (j:Pos.Jn) (n:Nat) (e:Ev) (l:List Ev):Pos.repJ nm j n (e::l)=if Pos.wrongJ nm j n e ≠ 0 then (j,n+1,Pos.wrongJ nm j n e) else Pos.repJ nm (Pos.addJ j e) (n+1) l:=rfl
theorem en33 {P:FuncId→Option (List AV→Option AV)} (hP:P 33=none) {lo:Nat} {args:List AV} {H:Heap} {K:AV→Heap→Prop}:VO (aenter (NC.withPrims P) (R (NC.withPrims P)) lo 33 args H) K=AO (R (NC.withPrims P) (.call H.n 33 args H)) fun o=>K o.val o.s.H:=by
 refine enter_fresh rfl ?_ (by kernel_rfl) (by kernel_rfl) (by kernel_rfl)
 show (match NC.prim 33 with | some p=>some p | none=>P 33)=none
 rw [hP];kernel_rfl
theorem r_replayed {H:Heap} {v:AV} {l:List Ev} (hs:Sl H v 5 70 (l.map Pos.Ev.row)) (hl:l.length≤1000) (hsm:∀ e ∈ l,EvS e) :
 ∃ w H',R PT (.call H.n 33 [v] H)=some (.ofVal w H')∧w=.tup [.ptr H.n 0,.int .i64 (Pos.repJ nameB Pos.zJn 0 l).2.1,.int .i64 (Pos.repJ nameB Pos.zJn 0 l).2.2]∧Old H.n H H' ∧
   ∃ es V vE vC,HisW H.n H' H.n es (Pos.repJ nameB Pos.zJn 0 l).1.cs (Pos.repJ nameB Pos.zJn 0 l).1.reg V vE vC∧Pos.JOk nameB (Pos.repJ nameB Pos.zJn 0 l).1∧((Pos.repJ nameB Pos.zJn 0 l).2.2=0→es=l):=by
 have hJz:=Pos.jok_rep nameB (l:=l) (n:=0) (Pos.jok_zero nameB)
 generalize hq:Pos.repJ nameB Pos.zJn 0 l=q at hJz ⊢
 refine R_of_body (C:=PT) (f:=33) (lo:=H.n) (args:=[v]) (H:=H) (fn:=Tryz.f33) (Q:=fun w H'=>w=.tup [.ptr H.n 0,.int .i64 q.2.1,.int .i64 q.2.2]∧Old H.n H H' ∧ ∃ es V vE vC,HisW H.n H' H.n es q.1.cs q.1.reg V vE vC∧Pos.JOk nameB q.1∧(q.2.2=0→es=l)) (by kernel_rfl) Tryz.func33 rfl rfl ?_
 have hlen:=fun H'=>hs.len (t:=25) (by kernel_rfl) H'
 simp only [List.length_map] at hlen
 have hl1:((1000:Int) < (l.length:Int))=False:=eq_false (by omega)
 simp (config:={ maxDischargeDepth:=12 }) only [go_sem,reduceIte,reduceEqDiff,reduceAdd,reduceMul,reduceSub,reduceLeDiff,reduceLT,Nat.reduceBEq,reduceCtorEq,hlen,hl1]
 refine W_for (fun k T Hc M=>M=[]∧getT T 5=.ptr H.n 0∧getT T 15=v∧getT T 16=i64 (l.length:Nat)∧getT T 17=i64 k∧Old H.n H Hc ∧ ∃ j V vE vC,HisW H.n Hc H.n (l.take k) j.cs j.reg V vE vC∧Pos.JOk nameB j∧Pos.repJ nameB j k (l.drop k)=q) l.length ?_ ?_ ?_
 · simp (config:={ maxDischargeDepth:=12 }) only [go_sem,reduceIte,reduceEqDiff,reduceAdd,reduceMul,reduceSub,reduceLeDiff,reduceLT,Nat.reduceBEq,reduceCtorEq]
   refine ⟨Pos.zJn,V0,.ps .nil [],.ps .nil [],⟨regw_zero (by simp) (Nat.le_refl _) (by rw [Heap.get_push,if_pos rfl];rfl),⟨.inl ⟨rfl,rfl⟩,fun i a b c d h=>by cases h⟩,⟨.inl ⟨rfl,rfl⟩,fun i a b c d h=>by cases h⟩,fun i j a b c d a' b' c' d' h1=>by (cases h1),Nat.zero_le _,Nat.zero_le _⟩,Pos.jok_zero nameB,hq⟩
 · rintro k T Hc M hk ⟨rfl,g5,g15,g16,g17,hO,j,V,vE,vC,hW,J,hrep⟩
   obtain ⟨e,he⟩:∃ e,l[k]? = some e:=⟨l[k],by simp⟩
   have hw:=wrap_succ hk (by unfold maxRows;omega:l.length≤maxRows)
   have hi:=hs.idx (t:=25) (by kernel_rfl) (by kernel_rfl) (rows_Len (by intro x;rfl) l) (by rw [List.length_map];exact hk) .i64
   have hd:=hs.ld (by kernel_rfl) (by kernel_rfl) (rows_Len (by intro x;rfl) l) (map_at he) hO
   have hes:=hsm e (List.mem_of_getElem? he)
   have hHn:H.n < Hc.n:=hW.reg.bn
   have hkc:=eq_true hk
   have hle:=eq_true hO.1
   obtain ⟨H1,hH1⟩:∃ H1,H1=(Hc.push (.cells [.int .i64 0,.str [],.ps .nil [],.ps .nil [],.str []] 70)).set Hc.n (.cells e.row 70):=⟨_,rfl⟩
   have hn1:H1.n=Hc.n+1:=by rw [hH1];simp
   have hO1:Old Hc.n Hc H1:=by rw [hH1];exact (Old.refl Hc).new _ _
   have hg1:H1.get Hc.n=.cells e.row 70:=by rw [hH1,Heap.get_set,if_pos rfl]
   have hO1':Old H.n H H1:=hO.trans ⟨by omega,fun i hi=>hO1.2 i (by omega)⟩
   have hW1:=hW.old hO1
   have hck:=pe45 e hes
   rw [drop_at he,rep_cons] at hrep
   have htk:(l.take k).length=k:=by rw [List.length_take];omega
   have hst1:sst H.n (Hc.push (.cells [.int .i64 0,.str [],.ps .nil [],.ps .nil [],.str []] 70)) 70 (.ptr Hc.n 0) (.agg e.row)=some H1:=by
    simp (config:={ maxDischargeDepth:=12 }) only [go_sem,reduceIte,reduceEqDiff,reduceAdd,reduceMul,reduceSub,reduceLeDiff,reduceLT,Nat.reduceBEq,reduceCtorEq,Pos.Ev.row,hle,hH1]
   have hld1:sld H1 70 (.ptr Hc.n 0)=some (.agg e.row):=by
    simp (config:={ maxDischargeDepth:=12 }) only [go_sem,reduceIte,reduceEqDiff,reduceAdd,reduceMul,reduceSub,reduceLeDiff,reduceLT,Nat.reduceBEq,reduceCtorEq,Pos.Ev.row,hg1]
   have hsr:List.map AV.strip0 e.row=e.row:=rfl
   have q1:(Hc.n < H1.n)=True:=eq_true (by omega)
   by_cases c1:Pos.chkE nameB e=0
   · have hwr:Pos.wrongJ nameB j k e=Pos.accJ j k e:=by
      unfold Pos.wrongJ
      rw [if_neg (by simpa using c1)]
     rw [hwr] at hrep
     have hacc:=fun lo K=>e_accepts nameB (e:=e) hW1.is (Pos.jok_inv nameB J).2 c1 (Old.refl H1) (lo:=lo) (K:=K)
     rw [htk] at hacc
     by_cases c2:Pos.accJ j k e=0
     · rw [if_neg (by simpa using c2)] at hrep
       obtain ⟨w,H2,hadd,vE',vC',V',hW2,hch⟩:=w_add nameB hW1 J (e:=e) (by rw [htk,hwr];exact c2) (by rw [htk];omega)
       have hadd':=fun K=>enter_f (K:=K) (en60 rfl) hadd
       have J2:=Pos.jok_add nameB J (n:=k) (e:=e) (by rw [hwr];exact c2)
       simp (config:={ maxDischargeDepth:=12 }) only [go_sem,reduceIte,reduceEqDiff,reduceAdd,reduceMul,reduceSub,reduceLeDiff,reduceLT,Nat.reduceBEq,reduceCtorEq,g5,g15,g16,g17,hkc,hw,hi,hd,hst1,hld1,hsr,hck,c1,hacc,c2,hadd',q1]
       have ht:l.take (k+1)=l.take k++[e]:=by rw [List.take_add_one,he];rfl
       rw [ht]
       exact ⟨hO1'.trans (hch.old (by omega)),_,V',vE',vC',hW2,J2,hrep⟩
     · rw [if_pos (by simpa using c2)] at hrep
       subst hrep
       simp (config:={ maxDischargeDepth:=12 }) only [go_sem,reduceIte,reduceEqDiff,reduceAdd,reduceMul,reduceSub,reduceLeDiff,reduceLT,Nat.reduceBEq,reduceCtorEq,g5,g15,g16,g17,hkc,hw,hi,hd,hst1,hld1,hsr,hck,c1,hacc,c2,q1]
       exact ⟨hO1',l.take k,V,vE,vC,hW1,J,fun h=>h.elim⟩
   · have hwr:Pos.wrongJ nameB j k e=Pos.chkE nameB e:=by
      unfold Pos.wrongJ
      rw [if_pos (by simpa using c1)]
     rw [hwr,if_pos (by simpa using c1)] at hrep
     subst hrep
     simp (config:={ maxDischargeDepth:=12 }) only [go_sem,reduceIte,reduceEqDiff,reduceAdd,reduceMul,reduceSub,reduceLeDiff,reduceLT,Nat.reduceBEq,reduceCtorEq,g5,g15,g16,g17,hkc,hw,hi,hd,hst1,hld1,hsr,hck,c1,q1]
     exact ⟨hO1',l.take k,V,vE,vC,hW1,J,fun h=>h.elim⟩
 · rintro T Hc M ⟨rfl,g5,g15,g16,g17,hO,j,V,vE,vC,hW,J,hrep⟩
   rw [List.drop_length] at hrep
   rw [List.take_length] at hW
   subst hrep
   have hlt:(l.length < l.length)=False:=eq_false (Nat.lt_irrefl _)
   simp (config:={ maxDischargeDepth:=12 }) only [go_sem,reduceIte,reduceEqDiff,reduceAdd,reduceMul,reduceSub,reduceLeDiff,reduceLT,Nat.reduceBEq,reduceCtorEq,g5,g15,g16,g17,hlt]
   exact ⟨rfl,hO,l,V,vE,vC,hW,J,fun _=>rfl⟩
theorem evs_inj {l m:List Ev}:(l.map Pos.Ev.row=m.map Pos.Ev.row)=(l=m):=propext ⟨map_inj (fun a b h=>by rw [Pos.Ev.row_inj] at h;exact h),fun h=>by rw [h]⟩
def acceptsL (l:List Ev) (e:Ev):Int:=if firstI [(Pos.repJ nameB Pos.zJn 0 l).2.2,Pos.chkE nameB e,whenI (decide (1000≤l.length)) 5] ≠ 0 then firstI [(Pos.repJ nameB Pos.zJn 0 l).2.2,Pos.chkE nameB e,whenI (decide (1000≤l.length)) 5] else Pos.accJ (Pos.repJ nameB Pos.zJn 0 l).1 l.length e
theorem c19 (l:List Ev) (e:Ev) (hp:l.length≤1000∧(∀ z ∈ l,EvS z)∧EvS e):∀ lo H,CallOk NC lo 19 [.ps .unk (l.map Pos.Ev.row),.agg e.row] H (i64 (acceptsL l e)) H:=by
 refine contract saneNC primsT (fn:=Tryz.f19) (by kernel_rfl) Tryz.func19 rfl rfl (by rfl) (by first | rfl | (split<;>first | rfl | (split<;>rfl))) ?_
 obtain ⟨hl,hsm,he⟩:=hp
 obtain ⟨w,H2,hr,rfl,hO,es,V,vE,vC,hW,J,hes⟩:=r_replayed (H:=Heap.empty.push (.cells e.row 70)) (v:=.ps .unk (l.map Pos.Ev.row)) (l:=l) (.inl ⟨_,rfl,rfl⟩) hl hsm
 have hrep:=fun lo K=>enter_n (K:=K) (en33 (lo:=lo) rfl) hr
 have hck:=pe45 e he
 have hsr:List.map AV.strip0 e.row=e.row:=rfl
 have hg:H2.get 0=.cells e.row 70:=by rw [hO.2 0 (by simp)];rfl
 have h1000:(!decide ((l.length:Int) < 1000))=decide (1000≤l.length):=by
  by_cases h:1000≤l.length
  · rw [decide_eq_true h,decide_eq_false (by omega)];rfl
  · rw [decide_eq_false h,decide_eq_true (by omega)];rfl
 have hld1:sld H2 70 (.ptr 0 0)=some (.agg e.row):=by
  simp (config:={ maxDischargeDepth:=12 }) only [go_sem,reduceIte,reduceEqDiff,reduceAdd,reduceMul,reduceSub,reduceLeDiff,reduceLT,Nat.reduceBEq,reduceCtorEq,Pos.Ev.row,hg]
 have hn2:=hO.1
 simp only [hn_push] at hn2
 have q1:(0 < H2.n)=True:=eq_true (by omega)
 unfold acceptsL
 generalize hq:Pos.repJ nameB Pos.zJn 0 l=q at *
 have hone:e.row.all AV.one=true:=rfl
 have hO0:=Old.refl H2
 by_cases c1:q.2.2=0
 · have hes1:=hes c1
   subst hes1
   by_cases c2:Pos.chkE nameB e=0
   · by_cases c3:1000≤es.length
     · have hf:firstI [q.2.2,Pos.chkE nameB e,whenI (decide (1000≤es.length)) 5]=5:=by simp [firstI,c1,c2,whenI,c3]
       have hf':firstI [0,0,whenI (decide (1000≤es.length)) 5]=5:=by simp [firstI,whenI,c3]
       have h50:((5:Int)=0)=False:=eq_false (by decide)
       rw [hf,if_pos (by decide)]
       simp (config:={ maxDischargeDepth:=12 }) only [go_sem,reduceIte,reduceEqDiff,reduceAdd,reduceMul,reduceSub,reduceLeDiff,reduceLT,Nat.reduceBEq,reduceCtorEq,hone,hsr,hrep,hck,hg,hld1,h1000,q1,hf,hf',c1,c2,h50]
     · have hf:firstI [q.2.2,Pos.chkE nameB e,whenI (decide (1000≤es.length)) 5]=0:=by simp [firstI,c1,c2,whenI,c3]
       have hf':firstI [0,0,whenI (decide (1000≤es.length)) 5]=0:=by simp [firstI,whenI,c3]
       rw [hf,if_neg (by decide)]
       have hacc:=fun lo K=>e_accepts nameB (e:=e) hW.is (Pos.jok_inv nameB J).2 c2 (Old.refl H2) (lo:=lo) (K:=K)
       simp only [hn_push,empty_n,Nat.zero_add] at hacc
       simp (config:={ maxDischargeDepth:=12 }) only [go_sem,reduceIte,reduceEqDiff,reduceAdd,reduceMul,reduceSub,reduceLeDiff,reduceLT,Nat.reduceBEq,reduceCtorEq,hone,hsr,hrep,hck,hg,hld1,h1000,q1,hf,hf',c1,c2,hacc]
   · have hf:firstI [q.2.2,Pos.chkE nameB e,whenI (decide (1000≤es.length)) 5]=Pos.chkE nameB e:=by simp [firstI,c1,c2]
     have hf':firstI [0,Pos.chkE nameB e,whenI (decide (1000≤es.length)) 5]=Pos.chkE nameB e:=by simp [firstI,c2]
     rw [hf,if_pos c2]
     simp (config:={ maxDischargeDepth:=12 }) only [go_sem,reduceIte,reduceEqDiff,reduceAdd,reduceMul,reduceSub,reduceLeDiff,reduceLT,Nat.reduceBEq,reduceCtorEq,hone,hsr,hrep,hck,hg,hld1,h1000,q1,hf,hf',c1,c2]
 · have hf:firstI [q.2.2,Pos.chkE nameB e,whenI (decide (1000≤l.length)) 5]=q.2.2:=by simp [firstI,c1]
   rw [hf,if_pos c1]
   simp (config:={ maxDischargeDepth:=12 }) only [go_sem,reduceIte,reduceEqDiff,reduceAdd,reduceMul,reduceSub,reduceLeDiff,reduceLT,Nat.reduceBEq,reduceCtorEq,hone,hsr,hrep,hck,hg,hld1,h1000,q1,hf,c1]
noncomputable def p19:List AV→Option AV:=primOf (α:=(List Ev) × (Ev)) (fun x=>[.ps .unk (x.1.map Pos.Ev.row),.agg x.2.row]) (fun x=>x.1.length≤1000∧(∀ z ∈ x.1,EvS z)∧EvS x.2) (fun x=>i64 (acceptsL x.1 x.2))
theorem pok19:∀ args v,p19 args=some v → ∀ lo H,CallOk NC lo 19 args H v H:=by
 intro args v h
 obtain ⟨x,rfl,hp,rfl⟩:=primOf_inv h
 exact c19 x.1 x.2 hp
theorem pe19 (l:List Ev) (e:Ev) (hp:l.length≤1000∧(∀ z ∈ l,EvS z)∧EvS e):p19 [.ps .unk (l.map Pos.Ev.row),.agg e.row]=some (.int .i64 (acceptsL l e)):=primOf_enc (by intro x y h;(simp only [List.cons.injEq,AV.agg.injEq,AV.str.injEq,AV.int.injEq,AV.ps.injEq,AV.bool.injEq,Pos.Ev.row_inj,evs_inj,true_and,and_true] at h;first | simpa only [Prod.ext_iff] using h | simpa only [Prod.ext_iff,and_assoc] using h)) (l,e) hp
attribute [go_sem] pe19
theorem en38 {P:FuncId→Option (List AV→Option AV)} (hP:P 38=none) {lo:Nat} {args:List AV} {H:Heap} {K:AV→Heap→Prop}:VO (aenter (NC.withPrims P) (R (NC.withPrims P)) lo 38 args H) K=AO (R (NC.withPrims P) (.call H.n 38 args H)) fun o=>K o.val o.s.H:=by
 refine enter_fresh rfl ?_ (by kernel_rfl) (by kernel_rfl) (by kernel_rfl)
 show (match NC.prim 38 with | some p=>some p | none=>P 38)=none
 rw [hP];kernel_rfl
theorem r_asked {H:Heap} {l:List Ev} (hl:l.length≤1000) (hsm:∀ e ∈ l,EvS e) (c:Int) (s:Nm) :
 ∃ w H2,R PT (.call H.n 38 [.ps .unk (l.map Pos.Ev.row),.int .u8 c,.str s] H)=some (.ofVal w H2)∧Old H.n H H2 ∧
   ((Pos.repJ nameB Pos.zJn 0 l).2.2 ≠ 0→w=.tup [.nilp,.int .i64 (Pos.repJ nameB Pos.zJn 0 l).2.2]) ∧
   ((Pos.repJ nameB Pos.zJn 0 l).2.2=0→w=.tup [.ptr H.n 2,.int .i64 (whenI (!decide (s ∈ namesR (Pos.repJ nameB Pos.zJn 0 l).1.reg c)) 10)] ∧ ∃ V,RegIs H2 H.n 2 (Pos.repJ nameB Pos.zJn 0 l).1.reg V)∧Pos.JOk nameB (Pos.repJ nameB Pos.zJn 0 l).1:=by
 have hJz:=Pos.jok_rep nameB (l:=l) (n:=0) (Pos.jok_zero nameB)
 obtain ⟨w,H2,hr,rfl,hO,es,V,vE,vC,hW,J,hes⟩:=r_replayed (H:=H) (v:=.ps .unk (l.map Pos.Ev.row)) (l:=l) (.inl ⟨_,rfl,rfl⟩) hl hsm
 have hrep:=fun lo K=>enter_n (K:=K) (en33 (lo:=lo) rfl) hr
 generalize hq:Pos.repJ nameB Pos.zJn 0 l=q at *
 obtain ⟨w,H3,h1,h2,h3,h4⟩:=R_of_body (C:=PT) (f:=38) (lo:=H.n) (args:=[.ps .unk (l.map Pos.Ev.row),.int .u8 c,.str s]) (H:=H) (fn:=Tryz.f38) (Q:=fun w H2=>Old H.n H H2∧(q.2.2 ≠ 0→w=.tup [.nilp,.int .i64 q.2.2])∧(q.2.2=0→w=.tup [.ptr H.n 2,.int .i64 (whenI (!decide (s ∈ namesR q.1.reg c)) 10)] ∧ ∃ V,RegIs H2 H.n 2 q.1.reg V)) (by kernel_rfl) Tryz.func38 rfl rfl (by
  by_cases c1:q.2.2=0
  · have hna:=fun lo K=>e_names hW.reg.is c (Old.refl H2) (lo:=lo) (K:=K)
    simp only [List.length_cons,List.length_nil,Nat.zero_add,reduceAdd] at hna
    have hlen:=names_len (r:=q.1.reg) c hW.reg.lT hW.reg.lF hW.reg.lR hW.reg.lP hW.reg.lM
    have hpc:=pe63 (namesR q.1.reg c) s hlen
    have hbn:(H.n < H2.n)=True:=eq_true hW.reg.bn
    simp (config:={ maxDischargeDepth:=12 }) only [go_sem,reduceIte,reduceEqDiff,reduceAdd,reduceMul,reduceSub,reduceLeDiff,reduceLT,Nat.reduceBEq,reduceCtorEq,hrep,c1,hna,hpc,hbn]
    exact ⟨hO,fun h=>absurd rfl h,fun _=>⟨V,hW.reg.is⟩⟩
  · simp (config:={ maxDischargeDepth:=12 }) only [go_sem,reduceIte,reduceEqDiff,reduceAdd,reduceMul,reduceSub,reduceLeDiff,reduceLT,Nat.reduceBEq,reduceCtorEq,hrep,c1]
    exact ⟨hO,fun _=>trivial,fun h=>h.elim⟩)
 exact ⟨w,H3,h1,h2,h3,h4,hJz⟩
def nextL (l:List Ev) (s:Nm):Int × Int:=if (Pos.repJ nameB Pos.zJn 0 l).2.2 ≠ 0 then (0,(Pos.repJ nameB Pos.zJn 0 l).2.2) else match (Pos.repJ nameB Pos.zJn 0 l).1.reg.track? s with
 | none=>(0,10)
 | some _=>if Pos.nextE (Pos.repJ nameB Pos.zJn 0 l).1.reg s ≠ 0 then (0,Pos.nextE (Pos.repJ nameB Pos.zJn 0 l).1.reg s) else ((Pos.repJ nameB Pos.zJn 0 l).1.reg.permitted s,0)
theorem c16 (l:List Ev) (s:Nm) (hp:l.length≤1000∧(∀ z ∈ l,EvS z)):∀ lo H,CallOk NC lo 16 [.ps .unk (l.map Pos.Ev.row),.str s] H (.tup [i64 (nextL l s).1,i64 (nextL l s).2]) H:=by
 refine contract saneNC primsT (fn:=Tryz.f16) (by kernel_rfl) Tryz.func16 rfl rfl (by rfl) (by first | rfl | (split<;>first | rfl | (split<;>rfl))) ?_
 obtain ⟨hl,hsm⟩:=hp
 obtain ⟨w,H2,hr,hO,ha,hb,J⟩:=r_asked (H:=Heap.empty) hl hsm 116 s
 have hask:=fun lo K=>enter_n (K:=K) (en38 (lo:=lo) rfl) hr
 unfold nextL
 generalize hq:Pos.repJ nameB Pos.zJn 0 l=q at *
 by_cases c1:q.2.2=0
 · rw [if_neg (by simpa using c1)]
   obtain ⟨rfl,V,hR⟩:=hb c1
   simp only [empty_n] at hask hR
   cases ht:q.1.reg.track? s with
   | none =>
     have hin:decide (s ∈ namesR q.1.reg 116)=false:=decide_eq_false (by rw [Pos.in_track,ht];simp)
     have h10:whenI true 10=10:=rfl
     have h100:((10:Int)=0)=False:=eq_false (by decide)
     simp (config:={ maxDischargeDepth:=12 }) only [go_sem,reduceIte,reduceEqDiff,reduceAdd,reduceMul,reduceSub,reduceLeDiff,reduceLT,Nat.reduceBEq,reduceCtorEq,hask,hin,h10,h100]
   | some y =>
     have hin:decide (s ∈ namesR q.1.reg 116)=true:=decide_eq_true (by rw [Pos.in_track,ht];rfl)
     have h10:whenI false 10=0:=rfl
     have hpm:=fun lo K=>e_permitted hR ht (Old.refl H2) (lo:=lo) (K:=K)
     have htk:=fun lo K=>e_taken hR s (Old.refl H2) (lo:=lo) (K:=K)
     have hsi:=fun lo K=>e_silentOn hR s (Old.refl H2) (lo:=lo) (K:=K)
     have hfi:firstI [whenI (q.1.reg.taken s) 31,whenI (q.1.reg.silentOn s) 32,whenI (decide (q.1.reg.permitted s=0)) 7]=Pos.nextE q.1.reg s:=by
      rw [Pos.fst_when _ _ _ (by decide),Pos.fst_when _ _ _ (by decide),Pos.fst_when _ _ _ (by decide),Pos.fst_nil]
      unfold Pos.nextE
      simp only [decide_eq_true_eq]
     by_cases c2:Pos.nextE q.1.reg s=0
     · simp (config:={ maxDischargeDepth:=12 }) only [go_sem,reduceIte,reduceEqDiff,reduceAdd,reduceMul,reduceSub,reduceLeDiff,reduceLT,Nat.reduceBEq,reduceCtorEq,hask,hin,h10,hpm,htk,hsi,hfi,c2]
       rfl
     · simp (config:={ maxDischargeDepth:=12 }) only [go_sem,reduceIte,reduceEqDiff,reduceAdd,reduceMul,reduceSub,reduceLeDiff,reduceLT,Nat.reduceBEq,reduceCtorEq,hask,hin,h10,hpm,htk,hsi,hfi,c2]
       rw [if_pos c2]
 · rw [if_pos c1]
   obtain rfl:=ha c1
   simp (config:={ maxDischargeDepth:=12 }) only [go_sem,reduceIte,reduceEqDiff,reduceAdd,reduceMul,reduceSub,reduceLeDiff,reduceLT,Nat.reduceBEq,reduceCtorEq,hask,c1]
noncomputable def p16:List AV→Option AV:=primOf (α:=(List Ev) × (Nm)) (fun x=>[.ps .unk (x.1.map Pos.Ev.row),.str x.2]) (fun x=>x.1.length≤1000∧(∀ z ∈ x.1,EvS z)) (fun x=>.tup [i64 (nextL x.1 x.2).1,i64 (nextL x.1 x.2).2])
theorem pok16:∀ args v,p16 args=some v → ∀ lo H,CallOk NC lo 16 args H v H:=by
 intro args v h
 obtain ⟨x,rfl,hp,rfl⟩:=primOf_inv h
 exact c16 x.1 x.2 hp
theorem pe16 (l:List Ev) (s:Nm) (hp:l.length≤1000∧(∀ z ∈ l,EvS z)):p16 [.ps .unk (l.map Pos.Ev.row),.str s]=some (.tup [.int .i64 (nextL l s).1,.int .i64 (nextL l s).2]):=primOf_enc (by intro x y h;(simp only [List.cons.injEq,AV.agg.injEq,AV.str.injEq,AV.int.injEq,AV.ps.injEq,AV.bool.injEq,Pos.Ev.row_inj,evs_inj,true_and,and_true] at h;first | simpa only [Prod.ext_iff] using h | simpa only [Prod.ext_iff,and_assoc] using h)) (l,s) hp
attribute [go_sem] pe16
end Go.Sim

namespace Go.Sim.Pos
structure Rst where
 name:Nm
 frm:Int
 to:Int
 speed:Int
deriving DecidableEq,Inhabited
structure Msg where
 num:Int
 wd:Bool
 r:Rst
deriving DecidableEq,Inhabited
structure Off where
 msgs:List Msg
 acked:Nat
deriving DecidableEq,Inhabited
structure Pst where
 heard:Nat
 force:List Rst
deriving DecidableEq,Inhabited
structure Rnd where
 lost:List Int
 deaf:Bool
deriving DecidableEq,Inhabited
def hasR (f:List Rst) (x:Nm):Bool:=f.any fun r=>decide (r.name=x)
def applied (f:List Rst) (m:Msg):List Rst × Bool:=if m.wd ≠ hasR f m.r.name∨(m.wd=false∧64≤f.length) then (f,false) else if m.wd=false then (f++[m.r],true) else (f.filter fun r=>decide (r.name ≠ m.r.name),true)
def afterF (l:List Msg):List Rst:=l.foldl (fun f m=>(applied f m).1) []
theorem after_snoc (l:List Msg) (m:Msg):afterF (l++[m])=(applied (afterF l) m).1:=by
 unfold afterF
 rw [List.foldl_append];rfl
def arrived (p:Pst) (lost:Bool) (m:Msg):Pst:=if lost=true∨m.num ≠ (p.heard:Int)+1 then p else if (applied p.force m).2=true then ⟨p.heard+1,(applied p.force m).1⟩ else p
def hear (lost:List Int) (p:Pst) (l:List Msg):Pst:=l.foldl (fun p m=>arrived p (decide (m.num ∈ lost)) m) p
def round1 (x:Off × Pst) (r:Rnd):Off × Pst:=(⟨x.1.msgs,if r.deaf=true then x.1.acked else max x.1.acked (hear r.lost x.2 (x.1.msgs.drop x.1.acked)).heard⟩,hear r.lost x.2 (x.1.msgs.drop x.1.acked))
def exchF (o:Off) (p:Pst) (l:List Rnd):Off × Pst:=l.foldl round1 (o,p)
structure OffOk (msgs:List Msg):Prop where
 num:∀ (i:Nat) m,msgs[i]? = some m→m.num=(i:Int)+1
 app:∀ (i:Nat) m,msgs[i]? = some m→(applied (afterF (msgs.take i)) m).2=true
structure Heard (o:Off) (p:Pst):Prop where
 le:p.heard≤o.msgs.length
 ack:o.acked≤p.heard
 force:p.force=afterF (o.msgs.take p.heard)
theorem take_snoc {α:Type} {l:List α} {i:Nat} {x:α} (h:l[i]? = some x):l.take (i+1)=l.take i++[x]:=by
 rw [List.take_add_one,h];rfl
theorem arrive_one {msgs:List Msg} (O:OffOk msgs) {p:Pst} (hf:p.force=afterF (msgs.take p.heard)) {i:Nat} {m:Msg} (hm:msgs[i]? = some m) (lost:Bool) :
 arrived p lost m=if lost=false∧i=p.heard then ⟨i+1,afterF (msgs.take (i+1))⟩ else p:=by
 have hn:=O.num i m hm
 unfold arrived
 by_cases hi:i=p.heard
 · subst hi
   have ha:=O.app _ m hm
   cases lost with
   | true=>rw [if_pos (.inl rfl),if_neg (by simp)]
   | false =>
     rw [if_neg (by rw [hn];simp),hf,ha,if_pos rfl,if_pos ⟨rfl,rfl⟩,take_snoc hm,after_snoc]
 · rw [if_pos (.inr (by rw [hn];omega)),if_neg (by simp [hi])]
theorem hear_go {msgs : List Msg} (O : OffOk msgs) (lost : List Int) : ∀ (k i : Nat) (p : Pst), i + k = msgs.length → p.heard ≤ msgs.length → p.force = afterF (msgs.take p.heard) → (hear lost p (msgs.drop i)).heard ≤ msgs.length ∧ p.heard ≤ (hear lost p (msgs.drop i)).heard ∧ (hear lost p (msgs.drop i)).force = afterF (msgs.take (hear lost p (msgs.drop i)).heard)
 | 0, i, p, hk, hle, hf => by
   have : msgs.drop i = [] := List.drop_eq_nil_of_le (by omega)
   rw [this]
   exact ⟨hle, Nat.le_refl _, hf⟩
 | k + 1, i, p, hk, hle, hf => by
   have hi : i < msgs.length := by omega
   have hm : msgs[i]? = some msgs[i] := List.getElem?_eq_getElem hi
   have e : hear lost p (msgs.drop i) = hear lost (arrived p (decide (msgs[i].num ∈ lost)) msgs[i]) (msgs.drop (i + 1)) := by
    rw [List.drop_eq_getElem_cons hi]; rfl
   rw [e, arrive_one O hf hm]
   split
   · rename_i hc
     obtain ⟨h1, h2, h3⟩ := hear_go O lost k (i + 1) ⟨i + 1, afterF (msgs.take (i + 1))⟩ (by omega) (by show i + 1 ≤ _; omega) rfl
     have h2' : i + 1 ≤ (hear lost ⟨i + 1, afterF (msgs.take (i + 1))⟩ (msgs.drop (i + 1))).heard := h2
     exact ⟨h1, by omega, h3⟩
   · exact hear_go O lost k (i + 1) p (by omega) hle hf
theorem hear_ok {msgs:List Msg} (O:OffOk msgs) (lost:List Int) {i:Nat} {p:Pst} (hi:i≤msgs.length) (hle:p.heard≤msgs.length) (hf:p.force=afterF (msgs.take p.heard)):(hear lost p (msgs.drop i)).heard≤msgs.length∧p.heard≤(hear lost p (msgs.drop i)).heard∧(hear lost p (msgs.drop i)).force=afterF (msgs.take (hear lost p (msgs.drop i)).heard):=hear_go O lost (msgs.length - i) i p (by omega) hle hf
theorem hear_all {msgs:List Msg} (O:OffOk msgs):∀ (k i:Nat) (p:Pst),i+k=msgs.length→i≤p.heard→p.heard≤msgs.length→p.force=afterF (msgs.take p.heard)→(hear [] p (msgs.drop i)).heard=msgs.length
 | 0,i,p,hk,h0,hle,hf=>by
   have:msgs.drop i=[]:=List.drop_eq_nil_of_le (by omega)
   rw [this]
   show p.heard=_
   omega
 | k+1,i,p,hk,h0,hle,hf=>by
   have hi:i < msgs.length:=by omega
   have hm:msgs[i]? = some msgs[i]:=List.getElem?_eq_getElem hi
   have e:hear [] p (msgs.drop i)=hear [] (arrived p (decide (msgs[i].num ∈ ([]:List Int))) msgs[i]) (msgs.drop (i+1)):=by
    rw [List.drop_eq_getElem_cons hi];rfl
   rw [e,arrive_one O hf hm]
   split
   · exact hear_all O k (i+1) _ (by omega) (Nat.le_refl _) (by show i+1≤_;omega) rfl
   · rename_i hc
     have hne:i ≠ p.heard:=fun h=>hc ⟨by simp,h⟩
     exact hear_all O k (i+1) p (by omega) (by omega) hle hf
theorem round_ok {o:Off} {p:Pst} (O:OffOk o.msgs) (H:Heard o p) (r:Rnd):Heard (round1 (o,p) r).1 (round1 (o,p) r).2∧(round1 (o,p) r).1.msgs=o.msgs∧o.acked≤(round1 (o,p) r).1.acked:=by
 obtain ⟨h1,h2,h3⟩:=hear_ok O r.lost (Nat.le_trans H.ack H.le) H.le H.force
 have ha:=H.ack
 refine ⟨⟨h1, ?_,h3⟩,rfl, ?_⟩
 · show (if r.deaf=true then o.acked else max o.acked (hear r.lost p (o.msgs.drop o.acked)).heard)≤(hear r.lost p (o.msgs.drop o.acked)).heard
   split<;>omega
 · show o.acked≤(if r.deaf=true then o.acked else max o.acked (hear r.lost p (o.msgs.drop o.acked)).heard)
   split<;>omega
theorem exch_ok:∀ (l:List Rnd) {o:Off} {p:Pst},OffOk o.msgs→Heard o p→Heard (exchF o p l).1 (exchF o p l).2∧(exchF o p l).1.msgs=o.msgs∧o.acked≤(exchF o p l).1.acked
 | [],o,p,_,H=>⟨H,rfl,Nat.le_refl _⟩
 | r::l,o,p,O,H=>by
   obtain ⟨h1,h2,h3⟩:=round_ok O H r
   have e:exchF o p (r::l)=exchF (round1 (o,p) r).1 (round1 (o,p) r).2 l:=rfl
   rw [e]
   obtain ⟨i1,i2,i3⟩:=exch_ok l (by rw [h2];exact O) h1
   exact ⟨i1,i2.trans h2,Nat.le_trans h3 i3⟩
theorem exch_whole {o:Off} {p:Pst} (O:OffOk o.msgs) (H:Heard o p):exchF o p [⟨[],false⟩]=(⟨o.msgs,o.msgs.length⟩,⟨o.msgs.length,afterF o.msgs⟩):=by
 have h1:=hear_all O (o.msgs.length - o.acked) o.acked p (by have:=H.ack;have:=H.le;omega) H.ack H.le H.force
 obtain ⟨_,_,h3⟩:=hear_ok O [] (Nat.le_trans H.ack H.le) H.le H.force
 have e:exchF o p [⟨[],false⟩]=(⟨o.msgs,max o.acked (hear [] p (o.msgs.drop o.acked)).heard⟩,hear [] p (o.msgs.drop o.acked)):=rfl
 rw [e,h1]
 rw [h1,List.take_length] at h3
 have hle:=Nat.le_trans H.ack H.le
 congr 1
 · congr 1;omega
 · generalize hear [] p (o.msgs.drop o.acked)=q at h1 h3
   obtain ⟨a,b⟩:=q
   simp only at h1 h3
   rw [h1,h3]
end Go.Sim.Pos

namespace Go.Sim.Pos
open Go Go.Sim
def Rst.row (x:Rst):List AV:=[.str x.name,i64 x.frm,i64 x.to,i64 x.speed]
def Msg.row (x:Msg):List AV:=[i64 x.num,.bool x.wd,.str x.r.name,i64 x.r.frm,i64 x.r.to,i64 x.r.speed]
theorem Rst.row_inj (a b:Rst):(a.row=b.row)=(a=b):=by
 cases a;cases b;simp [Rst.row]
theorem Msg.row_inj (a b:Msg):(a.row=b.row)=(a=b):=by
 obtain ⟨_,_,⟨⟩⟩:=a;obtain ⟨_,_,⟨⟩⟩:=b;simp [Msg.row]
end Go.Sim.Pos
namespace Go.Sim
open Go Go.Proofs
open Go.Sim.Pos (Nm Rst Msg Pst Rnd Len flat_len flat_take flat_drop flat_at)
set_option maxRecDepth 100000
set_option maxHeartbeats 4000000
noncomputable def PPF48:FuncId→Option (List AV→Option AV):=fun _=>none
theorem primsF48:PrimsOk NC PPF48:=primsOk_none
theorem c48 (b:Bool) (e:Int):∀ lo H,CallOk NC lo 48 [.bool b,i64 e] H (i64 (whenI b e)) H:=by
 refine contract saneNC primsF48 (fn:=Tryz.f48) (by kernel_rfl) Tryz.func48 rfl rfl (by rfl) (by first | rfl | (split<;>first | rfl | (split<;>rfl))) ?_
 cases b<;>simp (config:={ maxDischargeDepth:=12 }) only [go_sem,reduceIte,reduceEqDiff,reduceAdd,reduceMul,reduceSub,reduceLeDiff,reduceLT,Nat.reduceBEq,reduceCtorEq]<;>simp [whenI]
noncomputable def p48:List AV→Option AV:=primOf (α:=(Bool) × (Int)) (fun x=>[.bool x.1,i64 x.2]) (fun x=>True) (fun x=>i64 (whenI x.1 x.2))
theorem pok48:∀ args v,p48 args=some v → ∀ lo H,CallOk NC lo 48 args H v H:=by
 intro args v h
 obtain ⟨x,rfl,hp,rfl⟩:=primOf_inv h
 exact c48 x.1 x.2
theorem pe48 (b:Bool) (e:Int):p48 [.bool b,.int .i64 e]=some (.int .i64 (whenI b e)):=primOf_enc (by intro x y h;(simp only [List.cons.injEq,AV.agg.injEq,AV.str.injEq,AV.int.injEq,AV.ps.injEq,AV.bool.injEq,Pos.Rst.row_inj,Pos.Msg.row_inj,true_and,and_true] at h;first | simpa only [Prod.ext_iff] using h | simpa only [Prod.ext_iff,and_assoc] using h)) (b,e) trivial
attribute [go_sem] pe48
noncomputable def PPF37:FuncId→Option (List AV→Option AV):=addPrim 48 p48 (fun _=>none)
theorem primsF37:PrimsOk NC PPF37:=primsOk_add (primsOk_none) (by kernel_rfl) (by kernel_rfl) pok48
theorem enF37_48:En PPF37 48 p48:=enter_prim (by rfl) (by kernel_rfl)
attribute [go_sem ↓] enF37_48
theorem c37 (n a b:Int):∀ lo H,CallOk NC lo 37 [i64 n,i64 a,i64 b] H (i64 (withinI n a b)) H:=by
 refine contract saneNC primsF37 (fn:=Tryz.f37) (by kernel_rfl) Tryz.func37 rfl rfl (by rfl) (by first | rfl | (split<;>first | rfl | (split<;>rfl))) ?_
 by_cases h1:n < a<;>by_cases h2:b < n<;>simp (config:={ maxDischargeDepth:=12 }) only [go_sem,reduceIte,reduceEqDiff,reduceAdd,reduceMul,reduceSub,reduceLeDiff,reduceLT,Nat.reduceBEq,reduceCtorEq,h1,h2,pe48]<;>simp [withinI,h1,h2]
noncomputable def p37:List AV→Option AV:=primOf (α:=(Int) × (Int) × (Int)) (fun x=>[i64 x.1,i64 x.2.1,i64 x.2.2]) (fun x=>True) (fun x=>i64 (withinI x.1 x.2.1 x.2.2))
theorem pok37:∀ args v,p37 args=some v → ∀ lo H,CallOk NC lo 37 args H v H:=by
 intro args v h
 obtain ⟨x,rfl,hp,rfl⟩:=primOf_inv h
 exact c37 x.1 x.2.1 x.2.2
theorem pe37 (n a b:Int):p37 [.int .i64 n,.int .i64 a,.int .i64 b]=some (.int .i64 (withinI n a b)):=primOf_enc (by intro x y h;(simp only [List.cons.injEq,AV.agg.injEq,AV.str.injEq,AV.int.injEq,AV.ps.injEq,AV.bool.injEq,Pos.Rst.row_inj,Pos.Msg.row_inj,true_and,and_true] at h;first | simpa only [Prod.ext_iff] using h | simpa only [Prod.ext_iff,and_assoc] using h)) (n,a,b) trivial
attribute [go_sem] pe37
noncomputable def PPF20:FuncId→Option (List AV→Option AV):=fun _=>none
theorem primsF20:PrimsOk NC PPF20:=primsOk_none
theorem c20 (l:List Int) (hp:l.length≤maxRows):∀ lo H,CallOk NC lo 20 [.ps .unk (ints l)] H (i64 (firstI l)) H:=by
 refine contract saneNC primsF20 (fn:=Tryz.f20) (by kernel_rfl) Tryz.func20 rfl rfl (by rfl) (by first | rfl | (split<;>first | rfl | (split<;>rfl))) ?_
 simp (config:={ maxDischargeDepth:=12 }) only [go_sem,reduceIte,reduceEqDiff,reduceAdd,reduceMul,reduceSub,reduceLeDiff,reduceLT,Nat.reduceBEq,reduceCtorEq]
 refine W_for (fun k T H M=>M=[]∧getT T 5=.ps .unk (ints l)∧getT T 6=i64 (l.length:Nat)∧getT T 7=i64 k ∧ ∀ i x,i < k→l[i]? = some x→x=0) l.length ?_ ?_ ?_
 · simp (config:={ maxDischargeDepth:=12 }) only [go_sem,reduceIte,reduceEqDiff,reduceAdd,reduceMul,reduceSub,reduceLeDiff,reduceLT,Nat.reduceBEq,reduceCtorEq,ints_len];exact fun i x h=>by omega
 · rintro k T H M hk ⟨rfl,g5,g6,g7,hz⟩
   obtain ⟨x,hx⟩:∃ x,l[k]? = some x:=⟨l[k],by simp⟩
   have hr:=ints_at hx
   have hw:=wrap_succ hk hp
   by_cases h0:x=0
   · subst h0
     simp (config:={ maxDischargeDepth:=12 }) only [go_sem,reduceIte,reduceEqDiff,reduceAdd,reduceMul,reduceSub,reduceLeDiff,reduceLT,Nat.reduceBEq,reduceCtorEq,g5,g6,g7,hk,ints_len,hr,hw]
     intro i y hi hy
     by_cases he:i=k
     · subst he;rw [hx] at hy;cases hy;rfl
     · exact hz i y (by omega) hy
   · simp (config:={ maxDischargeDepth:=12 }) only [go_sem,reduceIte,reduceEqDiff,reduceAdd,reduceMul,reduceSub,reduceLeDiff,reduceLT,Nat.reduceBEq,reduceCtorEq,g5,g6,g7,hk,ints_len,hr,hw,h0]
     rw [first_zero hz (by omega),drop_at hx]
     simp [firstI,h0]
 · rintro T H M ⟨rfl,g5,g6,g7,hz⟩
   simp (config:={ maxDischargeDepth:=12 }) only [go_sem,reduceIte,reduceEqDiff,reduceAdd,reduceMul,reduceSub,reduceLeDiff,reduceLT,Nat.reduceBEq,reduceCtorEq,g5,g6,g7,Nat.lt_irrefl]
   rw [first_zero hz (Nat.le_refl _),List.drop_length];rfl
noncomputable def p20:List AV→Option AV:=primOf (α:=(List Int)) (fun x=>[.ps .unk (ints x)]) (fun x=>x.length≤maxRows) (fun x=>i64 (firstI x))
theorem pok20:∀ args v,p20 args=some v → ∀ lo H,CallOk NC lo 20 args H v H:=by
 intro args v h
 obtain ⟨x,rfl,hp,rfl⟩:=primOf_inv h
 exact c20 x hp
theorem pe20 (l:List Int) (hp:l.length≤maxRows):p20 [.ps .unk (ints l)]=some (.int .i64 (firstI l)):=primOf_enc (by intro x y h;(simp only [List.cons.injEq,AV.agg.injEq,AV.str.injEq,AV.int.injEq,AV.ps.injEq,AV.bool.injEq,ints_inj,Pos.Rst.row_inj,Pos.Msg.row_inj,true_and,and_true] at h;first | simpa only [Prod.ext_iff] using h | simpa only [Prod.ext_iff,and_assoc] using h)) l hp
attribute [go_sem] pe20
theorem ffirst_1 (a:Int):p20 [.ps .unk [[.int .i64 a]]]=some (.int .i64 (firstI [a])):=pe20 [a] (by show 1≤1073741824;decide)
theorem ffirst_2 (a b:Int):p20 [.ps .unk [[.int .i64 a],[.int .i64 b]]]=some (.int .i64 (firstI [a,b])):=pe20 [a,b] (by show 2≤1073741824;decide)
theorem ffirst_3 (a b c:Int):p20 [.ps .unk [[.int .i64 a],[.int .i64 b],[.int .i64 c]]]=some (.int .i64 (firstI [a,b,c])):=pe20 [a,b,c] (by show 3≤1073741824;decide)
theorem ffirst_4 (a b c d:Int):p20 [.ps .unk [[.int .i64 a],[.int .i64 b],[.int .i64 c],[.int .i64 d]]]=some (.int .i64 (firstI [a,b,c,d])):=pe20 [a,b,c,d] (by show 4≤1073741824;decide)
attribute [go_sem] ffirst_1 ffirst_2 ffirst_3 ffirst_4
def fullI (a b:Int):Int:=whenI (decide (a < 0) || !decide (a < b) || decide (100000000 < b)) 14
noncomputable def PPF50:FuncId→Option (List AV→Option AV):=addPrim 48 p48 (fun _=>none)
theorem primsF50:PrimsOk NC PPF50:=primsOk_add (primsOk_none) (by kernel_rfl) (by kernel_rfl) pok48
theorem enF50_48:En PPF50 48 p48:=enter_prim (by rfl) (by kernel_rfl)
attribute [go_sem ↓] enF50_48
theorem c50 (a b:Int):∀ lo H,CallOk NC lo 50 [.agg [i64 a,i64 b]] H (i64 (fullI a b)) H:=by
 refine contract saneNC primsF50 (fn:=Tryz.f50) (by kernel_rfl) Tryz.func50 rfl rfl (by rfl) (by first | rfl | (split<;>first | rfl | (split<;>rfl))) ?_
 by_cases h1:a < 0<;>by_cases h2:a < b<;>by_cases h3:100000000 < b<;>simp (config:={ maxDischargeDepth:=12 }) only [go_sem,reduceIte,reduceEqDiff,reduceAdd,reduceMul,reduceSub,reduceLeDiff,reduceLT,Nat.reduceBEq,reduceCtorEq,h1,h2,h3,pe48]<;>simp [fullI,h1,h2,h3]
noncomputable def p50:List AV→Option AV:=primOf (α:=(Int) × (Int)) (fun x=>[.agg [i64 x.1,i64 x.2]]) (fun x=>True) (fun x=>i64 (fullI x.1 x.2))
theorem pok50:∀ args v,p50 args=some v → ∀ lo H,CallOk NC lo 50 args H v H:=by
 intro args v h
 obtain ⟨x,rfl,hp,rfl⟩:=primOf_inv h
 exact c50 x.1 x.2
theorem pe50 (a b:Int):p50 [.agg [.int .i64 a,.int .i64 b]]=some (.int .i64 (fullI a b)):=primOf_enc (by intro x y h;(simp only [List.cons.injEq,AV.agg.injEq,AV.str.injEq,AV.int.injEq,AV.ps.injEq,AV.bool.injEq,Pos.Rst.row_inj,Pos.Msg.row_inj,true_and,and_true] at h;first | simpa only [Prod.ext_iff] using h | simpa only [Prod.ext_iff,and_assoc] using h)) (a,b) trivial
attribute [go_sem] pe50
noncomputable def PPF44:FuncId→Option (List AV→Option AV):=addPrim 48 p48 (addPrim 69 p69 (fun _=>none))
theorem primsF44:PrimsOk NC PPF44:=primsOk_add (primsOk_add (primsOk_none) (by kernel_rfl) (by kernel_rfl) pok69) (by kernel_rfl) (by kernel_rfl) pok48
theorem enF44_69:En PPF44 69 p69:=enter_prim (by rfl) (by kernel_rfl)
theorem enF44_48:En PPF44 48 p48:=enter_prim (by rfl) (by kernel_rfl)
attribute [go_sem ↓] enF44_69 enF44_48
theorem c44 (s:Nm):∀ lo H,CallOk NC lo 44 [.str s] H (i64 (nmErr s)) H:=by
 refine contract saneNC primsF44 (fn:=Tryz.f44) (by kernel_rfl) Tryz.func44 rfl rfl (by rfl) (by first | rfl | (split<;>first | rfl | (split<;>rfl))) ?_
 simp (config:={ maxDischargeDepth:=12 }) only [go_sem,reduceIte,reduceEqDiff,reduceAdd,reduceMul,reduceSub,reduceLeDiff,reduceLT,Nat.reduceBEq,reduceCtorEq]
 rfl
noncomputable def p44:List AV→Option AV:=primOf (α:=(Nm)) (fun x=>[.str x]) (fun x=>True) (fun x=>i64 (nmErr x))
theorem pok44:∀ args v,p44 args=some v → ∀ lo H,CallOk NC lo 44 args H v H:=by
 intro args v h
 obtain ⟨x,rfl,hp,rfl⟩:=primOf_inv h
 exact c44 x
theorem pe44 (s:Nm):p44 [.str s]=some (.int .i64 (nmErr s)):=primOf_enc (by intro x y h;(simp only [List.cons.injEq,AV.agg.injEq,AV.str.injEq,AV.int.injEq,AV.ps.injEq,AV.bool.injEq,Pos.Rst.row_inj,Pos.Msg.row_inj,true_and,and_true] at h;first | simpa only [Prod.ext_iff] using h | simpa only [Prod.ext_iff,and_assoc] using h)) s trivial
attribute [go_sem] pe44
def rstE (r:Rst):Int:=firstI [nmErr r.name,fullI r.frm r.to,withinI r.speed 0 500]
noncomputable def PPF22:FuncId→Option (List AV→Option AV):=addPrim 20 p20 (addPrim 37 p37 (addPrim 50 p50 (addPrim 44 p44 (fun _=>none))))
theorem primsF22:PrimsOk NC PPF22:=primsOk_add (primsOk_add (primsOk_add (primsOk_add (primsOk_none) (by kernel_rfl) (by kernel_rfl) pok44) (by kernel_rfl) (by kernel_rfl) pok50) (by kernel_rfl) (by kernel_rfl) pok37) (by kernel_rfl) (by kernel_rfl) pok20
theorem enF22_44:En PPF22 44 p44:=enter_prim (by rfl) (by kernel_rfl)
theorem enF22_50:En PPF22 50 p50:=enter_prim (by rfl) (by kernel_rfl)
theorem enF22_37:En PPF22 37 p37:=enter_prim (by rfl) (by kernel_rfl)
theorem enF22_20:En PPF22 20 p20:=enter_prim (by rfl) (by kernel_rfl)
attribute [go_sem ↓] enF22_44 enF22_50 enF22_37 enF22_20
theorem c22 (r:Rst):∀ lo H,CallOk NC lo 22 [.agg r.row] H (i64 (rstE r)) H:=by
 refine contract saneNC primsF22 (fn:=Tryz.f22) (by kernel_rfl) Tryz.func22 rfl rfl (by rfl) (by first | rfl | (split<;>first | rfl | (split<;>rfl))) ?_
 obtain ⟨name,frm,to,speed⟩:=r
 simp (config:={ maxDischargeDepth:=12 }) only [go_sem,reduceIte,reduceEqDiff,reduceAdd,reduceMul,reduceSub,reduceLeDiff,reduceLT,Nat.reduceBEq,reduceCtorEq,Pos.Rst.row]
 rfl
noncomputable def p22:List AV→Option AV:=primOf (α:=(Rst)) (fun x=>[.agg x.row]) (fun x=>True) (fun x=>i64 (rstE x))
theorem pok22:∀ args v,p22 args=some v → ∀ lo H,CallOk NC lo 22 args H v H:=by
 intro args v h
 obtain ⟨x,rfl,hp,rfl⟩:=primOf_inv h
 exact c22 x
theorem pe22 (r:Rst):p22 [.agg r.row]=some (.int .i64 (rstE r)):=primOf_enc (by intro x y h;(simp only [List.cons.injEq,AV.agg.injEq,AV.str.injEq,AV.int.injEq,AV.ps.injEq,AV.bool.injEq,Pos.Rst.row_inj,Pos.Msg.row_inj,true_and,and_true] at h;first | simpa only [Prod.ext_iff] using h | simpa only [Prod.ext_iff,and_assoc] using h)) r trivial
attribute [go_sem] pe22
theorem eqt_rst:eqType NC.P 100 43=true:=by kernel_rfl
def msgE (m:Msg):Int:=if withinI m.num 1 64 ≠ 0 then withinI m.num 1 64 else if m.wd=false then rstE m.r else firstI [nmErr m.r.name,whenI (decide (m.r ≠ ⟨m.r.name,0,0,0⟩)) 1]
noncomputable def PPF56:FuncId→Option (List AV→Option AV):=addPrim 37 p37 (fun _=>none)
theorem primsF56:PrimsOk NC PPF56:=primsOk_add (primsOk_none) (by kernel_rfl) (by kernel_rfl) pok37
theorem enF56_37:En PPF56 37 p37:=enter_prim (by rfl) (by kernel_rfl)
attribute [go_sem ↓] enF56_37
theorem c56 (n:Int):∀ lo H,CallOk NC lo 56 [i64 n] H (i64 (withinI n 1 64)) H:=by
 refine contract saneNC primsF56 (fn:=Tryz.f56) (by kernel_rfl) Tryz.func56 rfl rfl (by rfl) (by first | rfl | (split<;>first | rfl | (split<;>rfl))) ?_
 simp (config:={ maxDischargeDepth:=12 }) only [go_sem,reduceIte,reduceEqDiff,reduceAdd,reduceMul,reduceSub,reduceLeDiff,reduceLT,Nat.reduceBEq,reduceCtorEq]
noncomputable def p56:List AV→Option AV:=primOf (α:=(Int)) (fun x=>[i64 x]) (fun x=>True) (fun x=>i64 (withinI x 1 64))
theorem pok56:∀ args v,p56 args=some v → ∀ lo H,CallOk NC lo 56 args H v H:=by
 intro args v h
 obtain ⟨x,rfl,hp,rfl⟩:=primOf_inv h
 exact c56 x
theorem pe56 (n:Int):p56 [.int .i64 n]=some (.int .i64 (withinI n 1 64)):=primOf_enc (by intro x y h;(simp only [List.cons.injEq,AV.agg.injEq,AV.str.injEq,AV.int.injEq,AV.ps.injEq,AV.bool.injEq,Pos.Rst.row_inj,Pos.Msg.row_inj,true_and,and_true] at h;first | simpa only [Prod.ext_iff] using h | simpa only [Prod.ext_iff,and_assoc] using h)) n trivial
attribute [go_sem] pe56
def ltErr (n:Int):Int:=withinI n 1 64
noncomputable def PPF55:FuncId→Option (List AV→Option AV):=addPrim 56 p56 (fun _=>none)
theorem primsF55:PrimsOk NC PPF55:=primsOk_add (primsOk_none) (by kernel_rfl) (by kernel_rfl) pok56
theorem enF55_56:En PPF55 56 p56:=enter_prim (by rfl) (by kernel_rfl)
attribute [go_sem ↓] enF55_56
theorem c55 (l:List Int) (hp:l.length≤maxRows):∀ lo H,CallOk NC lo 55 [.ps .unk (ints l),.fn 56 [] []] H (.ps .unk (ints (l.map ltErr))) H:=by
 refine contract saneNC primsF55 (fn:=Tryz.f55) (by kernel_rfl) Tryz.func55 rfl rfl (by rfl) (by first | rfl | (split<;>first | rfl | (split<;>rfl))) ?_
 simp (config:={ maxDischargeDepth:=12 }) only [go_sem,reduceIte,reduceEqDiff,reduceAdd,reduceMul,reduceSub,reduceLeDiff,reduceLT,Nat.reduceBEq,reduceCtorEq]
 refine W_for (fun k T H M=>M=[]∧getT T 1=.fn 56 [] []∧getT T 8=.ps .unk (ints l)∧getT T 9=i64 (l.length:Nat)∧getT T 10=i64 k ∧ ∃ t,getT T 5=.ps t (ints ((l.take k).map ltErr))∧AppB 0 H t (ints ((l.take k).map ltErr)) 1 39) l.length ?_ ?_ ?_
 · simp (config:={ maxDischargeDepth:=12 }) only [go_sem,reduceIte,reduceEqDiff,reduceAdd,reduceMul,reduceSub,reduceLeDiff,reduceLT,Nat.reduceBEq,reduceCtorEq,ints_len];exact ⟨.nil,rfl,.inl ⟨rfl,rfl⟩⟩
 · rintro k T H M hk ⟨rfl,g1,g8,g9,g10,t,g5,hA⟩
   obtain ⟨x,hx⟩:∃ x,l[k]? = some x:=⟨l[k],by simp⟩
   have hr:=ints_at hx
   have hw:=wrap_succ hk hp
   obtain ⟨t',H',ha,hA',_⟩:=app_b (lo:=0) hA (Nat.zero_le _) (Nat.le_refl _) (r:=[i64 (ltErr x)]) (by rw [ints_len,List.length_map,List.length_take];omega) rfl (by decide) (ints_all _)
   have e1:[AV.int .i64 (ltErr x)].map AV.strip0=[i64 (ltErr x)]:=rfl
   rw [e1,← ints_take hx] at ha hA'
   have e2:withinI x 1 64=ltErr x:=rfl
   simp (config:={ maxDischargeDepth:=12 }) only [go_sem,reduceIte,reduceEqDiff,reduceAdd,reduceMul,reduceSub,reduceLeDiff,reduceLT,Nat.reduceBEq,reduceCtorEq,g1,g5,g8,g9,g10,hk,ints_len,hr,hw,e2,appO,ha]
   exact ⟨t',rfl,hA'⟩
 · rintro T H M ⟨rfl,g1,g8,g9,g10,t,g5,hA⟩
   rw [List.take_length] at g5
   simp (config:={ maxDischargeDepth:=12 }) only [go_sem,reduceIte,reduceEqDiff,reduceAdd,reduceMul,reduceSub,reduceLeDiff,reduceLT,Nat.reduceBEq,reduceCtorEq,g1,g5,g8,g9,g10,Nat.lt_irrefl]
noncomputable def p55:List AV→Option AV:=primOf (α:=(List Int)) (fun x=>[.ps .unk (ints x),.fn 56 [] []]) (fun x=>x.length≤maxRows) (fun x=>.ps .unk (ints (x.map ltErr)))
theorem pok55:∀ args v,p55 args=some v → ∀ lo H,CallOk NC lo 55 args H v H:=by
 intro args v h
 obtain ⟨x,rfl,hp,rfl⟩:=primOf_inv h
 exact c55 x hp
theorem pe55 (l:List Int) (hp:l.length≤maxRows):p55 [.ps .unk (ints l),.fn 56 [] []]=some (.ps .unk (ints (l.map ltErr))):=primOf_enc (by intro x y h;(simp only [List.cons.injEq,AV.agg.injEq,AV.str.injEq,AV.int.injEq,AV.ps.injEq,AV.bool.injEq,ints_inj,Pos.Rst.row_inj,Pos.Msg.row_inj,true_and,and_true] at h;first | simpa only [Prod.ext_iff] using h | simpa only [Prod.ext_iff,and_assoc] using h)) l hp
attribute [go_sem] pe55
theorem en51 {P:FuncId→Option (List AV→Option AV)} (hP:P 51=none) {lo:Nat} {args:List AV} {H:Heap} {K:AV→Heap→Prop}:VO (aenter (NC.withPrims P) (R (NC.withPrims P)) lo 51 args H) K=AO (R (NC.withPrims P) (.call H.n 51 args H)) fun o=>o.val.strip.pure=true∧K o.val.strip H:=by
 refine enter_pure rfl ?_ (by kernel_rfl) (by kernel_rfl) (by kernel_rfl)
 show (match NC.prim 51 with | some p=>some p | none=>P 51)=none
 rw [hP];kernel_rfl
theorem en80 {P:FuncId→Option (List AV→Option AV)} (hP:P 80=none) {lo:Nat} {args:List AV} {H:Heap} {K:AV→Heap→Prop}:VO (aenter (NC.withPrims P) (R (NC.withPrims P)) lo 80 args H) K=AO (R (NC.withPrims P) (.call H.n 80 args H)) fun o=>o.val.strip.pure=true∧K o.val.strip H:=by
 refine enter_pure rfl ?_ (by kernel_rfl) (by kernel_rfl) (by kernel_rfl)
 show (match NC.prim 80 with | some p=>some p | none=>P 80)=none
 rw [hP];kernel_rfl
theorem en52 {P:FuncId→Option (List AV→Option AV)} (hP:P 52=none) {lo:Nat} {args:List AV} {H:Heap} {K:AV→Heap→Prop}:VO (aenter (NC.withPrims P) (R (NC.withPrims P)) lo 52 args H) K=AO (R (NC.withPrims P) (.call H.n 52 args H)) fun o=>o.val.strip.pure=true∧K o.val.strip H:=by
 refine enter_pure rfl ?_ (by kernel_rfl) (by kernel_rfl) (by kernel_rfl)
 show (match NC.prim 52 with | some p=>some p | none=>P 52)=none
 rw [hP];kernel_rfl
theorem en79 {P:FuncId→Option (List AV→Option AV)} (hP:P 79=none) {lo:Nat} {args:List AV} {H:Heap} {K:AV→Heap→Prop}:VO (aenter (NC.withPrims P) (R (NC.withPrims P)) lo 79 args H) K=AO (R (NC.withPrims P) (.call H.n 79 args H)) fun o=>o.val.strip.pure=true∧K o.val.strip H:=by
 refine enter_pure rfl ?_ (by kernel_rfl) (by kernel_rfl) (by kernel_rfl)
 show (match NC.prim 79 with | some p=>some p | none=>P 79)=none
 rw [hP];kernel_rfl
def idxRst (q:Rst→Bool) (l:List Rst):Int:=match l.findIdx? q with
 | some i=>i
 | none=>-1
theorem r_idxRst {H:Heap} {v:AV} {l:List Rst} (hs:Sl H v 4 43 (l.map Pos.Rst.row)) (hl:l.length≤maxRows) {g:FuncId} {caps:List AV} {q:Rst→Bool} (hc:caps.map strp=caps) (hg:∀ x ∈ l,∀ Hc,Old H.n H Hc → ∀ lo K,VO (aenter PT (R PT) lo g (.agg [.str x.name,.int .i64 x.frm,.int .i64 x.to,.int .i64 x.speed]::caps) Hc) K=K (.bool (q x)) Hc) :
 ∃ w H2,R PT (.call H.n 80 [v,.fn g [] caps] H)=some (.ofVal w H2)∧w=.int .i64 (idxRst q l):=by
 refine R_of_body (C:=PT) (f:=80) (lo:=H.n) (args:=[v,.fn g [] caps]) (H:=H) (fn:=Tryz.f80) (Q:=fun w _=>w=.int .i64 (idxRst q l)) (by kernel_rfl) Tryz.func80 rfl rfl ?_
 have hlen:=fun H'=>hs.len (t:=76) (by kernel_rfl) H'
 simp only [List.length_map] at hlen
 simp (config:={ maxDischargeDepth:=12 }) only [go_sem,reduceIte,reduceEqDiff,reduceAdd,reduceMul,reduceSub,reduceLeDiff,reduceLT,Nat.reduceBEq,reduceCtorEq,hlen]
 refine W_for (fun k T Hc M=>M=[]∧getT T 0=v∧getT T 1=.fn g [] caps∧getT T 7=i64 (l.length:Nat)∧getT T 8=i64 k∧Old H.n H Hc ∧ ∀ x ∈ l.take k,q x=false) l.length ?_ ?_ ?_
 · simp (config:={ maxDischargeDepth:=12 }) only [go_sem,reduceIte,reduceEqDiff,reduceAdd,reduceMul,reduceSub,reduceLeDiff,reduceLT,Nat.reduceBEq,reduceCtorEq];exact fun x hx=>by simp at hx
 · rintro k T Hc M hk ⟨rfl,g0,g1,g7,g8,hO,hn⟩
   obtain ⟨x,hx⟩:∃ x,l[k]? = some x:=⟨l[k],by simp⟩
   have hw:=wrap_succ hk hl
   have hi:=hs.idx (t:=76) (by kernel_rfl) (by kernel_rfl) (rows_Len (by intro x;rfl) l) (by rw [List.length_map];exact hk) .i64
   have hd:=hs.ld (by kernel_rfl) (by kernel_rfl) (rows_Len (by intro x;rfl) l) (map_at hx) hO
   have hg1:=hg x (List.mem_of_getElem? hx)
   simp only [Pos.Rst.row] at hd
   cases hq:q x with
   | true =>
     simp (config:={ maxDischargeDepth:=12 }) only [go_sem,reduceIte,reduceEqDiff,reduceAdd,reduceMul,reduceSub,reduceLeDiff,reduceLT,Nat.reduceBEq,reduceCtorEq,g0,g1,g7,g8,hk,hw,hi,hd,hc,hg1,hO,hq]
     have:l.findIdx? q=some k:=by
      rw [List.findIdx?_eq_some_iff_getElem]
      obtain ⟨hlt,he⟩:=List.getElem?_eq_some_iff.1 hx
      refine ⟨hlt,by rw [he];exact hq,fun j hj => ?_⟩
      have:=hn l[j] (List.mem_take_iff_getElem.2 ⟨j,by omega,rfl⟩)
      simp [this]
     unfold idxRst
     rw [this]
   | false =>
     simp (config:={ maxDischargeDepth:=12 }) only [go_sem,reduceIte,reduceEqDiff,reduceAdd,reduceMul,reduceSub,reduceLeDiff,reduceLT,Nat.reduceBEq,reduceCtorEq,g0,g1,g7,g8,hk,hw,hi,hd,hc,hg1,hO,hq]
     intro y hy
     rw [List.take_add_one,hx] at hy
     rcases List.mem_append.1 hy with hy | hy
     · exact hn y hy
     · simp only [Option.toList,List.mem_singleton] at hy
       rw [hy];exact hq
 · rintro T Hc M ⟨rfl,g0,g1,g7,g8,hO,hn⟩
   rw [List.take_length] at hn
   simp (config:={ maxDischargeDepth:=12 }) only [go_sem,reduceIte,reduceEqDiff,reduceAdd,reduceMul,reduceSub,reduceLeDiff,reduceLT,Nat.reduceBEq,reduceCtorEq,g0,g1,g7,g8,Nat.lt_irrefl]
   have:l.findIdx? q=none:=by
    rw [List.findIdx?_eq_none_iff];exact fun x hx=>by simp [hn x hx]
   unfold idxRst
   rw [this]
theorem idxRst_ge (q:Rst→Bool) (l:List Rst):(idxRst q l < 0)=(l.any q=false):=by
 unfold idxRst
 cases h:l.findIdx? q with
 | none =>
   rw [List.findIdx?_eq_none_iff] at h
   simp only [eq_iff_iff]
   refine ⟨fun _ => ?_,fun _=>by decide⟩
   rw [List.any_eq_false]
   exact fun x hx=>by simp [h x hx]
 | some i =>
   rw [List.findIdx?_eq_some_iff_getElem] at h
   obtain ⟨hlt,hq,_⟩:=h
   simp only [eq_iff_iff]
   refine ⟨fun h=>by omega,fun h => ?_⟩
   rw [List.any_eq_false] at h
   exact absurd hq (h _ (List.getElem_mem hlt))
theorem r_hasRst {H : Heap} {v : AV} {l : List Rst} (hs : Sl H v 4 43 (l.map Pos.Rst.row)) (hl : l.length ≤ maxRows) {g : FuncId} {caps : List AV} {q : Rst → Bool} (hc : caps.map strp = caps) (hg : ∀ x ∈ l, ∀ Hc, Old H.n H Hc → ∀ lo K, VO (aenter PT (R PT) lo g (.agg [.str x.name, .int .i64 x.frm, .int .i64 x.to, .int .i64 x.speed] :: caps) Hc) K = K (.bool (q x)) Hc) :
 ∃ w H2, R PT (.call H.n 51 [v, .fn g [] caps] H) = some (.ofVal w H2) ∧ w = .bool (l.any q) := by
 refine R_of_body (C := PT) (f := 51) (lo := H.n) (args := [v, .fn g [] caps]) (H := H) (fn := Tryz.f51) (Q := fun w _ => w = .bool (l.any q)) (by kernel_rfl) Tryz.func51 rfl rfl ?_
 have e1 : ∀ lo K, VO (aenter PT (R PT) lo 80 [strp v, .fn g [] caps] H) K = K (.int .i64 (idxRst q l)) H := fun lo K => by
  obtain ⟨w, H2, h1, h2⟩ := r_idxRst hs.strip hl hc hg
  exact enter_p (en80 rfl) ⟨H2, h1⟩ (by rw [h2]; rfl) rfl
 simp (config := { maxDischargeDepth := 12 }) only [go_sem, reduceIte, reduceEqDiff, reduceAdd, reduceMul, reduceSub, reduceLeDiff, reduceLT, Nat.reduceBEq, reduceCtorEq, e1, idxRst_ge]
 cases l.any q <;> simp
theorem e_hasRst {H : Heap} {v : AV} {l : List Rst} (hs : Sl H v 4 43 (l.map Pos.Rst.row)) (hl : l.length ≤ maxRows) {g : FuncId} {caps : List AV} {q : Rst → Bool} (hc : caps.map strp = caps) (hg : ∀ x ∈ l, ∀ Hc, Old H.n H Hc → ∀ lo K, VO (aenter PT (R PT) lo g (.agg [.str x.name, .int .i64 x.frm, .int .i64 x.to, .int .i64 x.speed] :: caps) Hc) K = K (.bool (q x)) Hc) {lo : Nat} {K : AV → Heap → Prop} : VO (aenter PT (R PT) lo 51 [strp v, .fn g [] caps] H) K = K (.bool (l.any q)) H := by
 obtain ⟨w, H2, h1, h2⟩ := r_hasRst hs.strip hl hc hg
 exact enter_p (en51 rfl) ⟨H2, h1⟩ (by rw [h2]; rfl) rfl
end Go.Sim

namespace Go.Sim
open Go Go.Proofs
open Go.Sim.Pos (Nm Rst Msg Pst Rnd Len flat_len flat_take flat_drop flat_at)
set_option maxRecDepth 100000
set_option maxHeartbeats 4000000
theorem rsts_inj {l m:List Rst}:(l.map Pos.Rst.row=m.map Pos.Rst.row)=(l=m):=propext ⟨map_inj (fun a b h=>by rw [Pos.Rst.row_inj] at h;exact h),fun h=>by rw [h]⟩
theorem msgs_inj {l m:List Msg}:(l.map Pos.Msg.row=m.map Pos.Msg.row)=(l=m):=propext ⟨map_inj (fun a b h=>by rw [Pos.Msg.row_inj] at h;exact h),fun h=>by rw [h]⟩
theorem e_has_1 {H : Heap} {f : Rst} {id : Nat} {s : Nm} (hid : id < H.n) (hg : H.get id = .cells [.str s] 9) {lo : Nat} {K : AV → Heap → Prop} : VO (aenter PT (R PT) lo 52 [.agg [.str f.name, .int .i64 f.frm, .int .i64 f.to, .int .i64 f.speed], .ptr id 0] H) K = K (.bool (decide (f.name = s))) H := by
 obtain ⟨w, H2, h1, h2⟩ := R_of_body (C := PT) (f := 52) (lo := H.n) (args := [.agg [.str f.name, .int .i64 f.frm, .int .i64 f.to, .int .i64 f.speed], .ptr id 0]) (H := H) (fn := Tryz.f52) (Q := fun w _ => w = .bool (decide (f.name = s))) (by kernel_rfl) Tryz.func52 rfl rfl (by
  have hne : (id = H.n) = False := eq_false (by omega)
  simp (config := { maxDischargeDepth := 12 }) only [go_sem, reduceIte, reduceEqDiff, reduceAdd, reduceMul, reduceSub, reduceLeDiff, reduceLT, Nat.reduceBEq, reduceCtorEq, hne, hg, beqL_dec])
 exact enter_p (en52 rfl) ⟨H2, h1⟩ (by rw [h2]; rfl) rfl
theorem c24 (f:List Rst) (s:Nm) (hp:f.length≤maxRows):∀ lo H,CallOk NC lo 24 [.ps .unk (f.map Pos.Rst.row),.str s] H (.bool (Pos.hasR f s)) H:=by
 refine contract saneNC primsT (fn:=Tryz.f24) (by kernel_rfl) Tryz.func24 rfl rfl (by rfl) (by first | rfl | (split<;>first | rfl | (split<;>rfl))) ?_
 have hh:=fun lo K=>e_hasRst (H:=Heap.empty.push (.cells [.str s] 9)) (v:=.ps .unk (f.map Pos.Rst.row)) (l:=f) (.inl ⟨_,rfl,rfl⟩) hp (g:=52) (caps:=[.ptr 0 0]) (q:=fun r=>decide (r.name=s)) rfl (fun x _ Hc ho lo K=>e_has_1 (Nat.lt_of_lt_of_le (by simp) ho.1) (by rw [ho.2 0 (by simp)];rfl)) (lo:=lo) (K:=K)
 simp only [strp_ps] at hh
 simp (config:={ maxDischargeDepth:=12 }) only [go_sem,reduceIte,reduceEqDiff,reduceAdd,reduceMul,reduceSub,reduceLeDiff,reduceLT,Nat.reduceBEq,reduceCtorEq,hh]
 rfl
noncomputable def p24:List AV→Option AV:=primOf (α:=(List Rst) × (Nm)) (fun x=>[.ps .unk (x.1.map Pos.Rst.row),.str x.2]) (fun x=>x.1.length≤maxRows) (fun x=>.bool (Pos.hasR x.1 x.2))
theorem pok24:∀ args v,p24 args=some v → ∀ lo H,CallOk NC lo 24 args H v H:=by
 intro args v h
 obtain ⟨x,rfl,hp,rfl⟩:=primOf_inv h
 exact c24 x.1 x.2 hp
theorem pe24 (f:List Rst) (s:Nm) (hp:f.length≤maxRows):p24 [.ps .unk (f.map Pos.Rst.row),.str s]=some (.bool (Pos.hasR f s)):=primOf_enc (by intro x y h;(simp only [List.cons.injEq,AV.agg.injEq,AV.str.injEq,AV.int.injEq,AV.ps.injEq,AV.bool.injEq,Pos.Rst.row_inj,Pos.Msg.row_inj,rsts_inj,msgs_inj,true_and,and_true] at h;first | simpa only [Prod.ext_iff] using h | simpa only [Prod.ext_iff,and_assoc] using h)) (f,s) hp
attribute [go_sem] pe24
theorem aeq_rst (a b c d a' b' c' d':_):aeqT NC.P 100 43 (.agg [.str a,.int .i64 b,.int .i64 c,.int .i64 d]) (.agg [.str a',.int .i64 b',.int .i64 c',.int .i64 d'])=some (decide ((⟨a,b,c,d⟩:Rst)=⟨a',b',c',d'⟩)):=by
 have h2:aeqT NC.P 100 43 (.agg [.str a,.int .i64 b,.int .i64 c,.int .i64 d]) (.agg [.str a',.int .i64 b',.int .i64 c',.int .i64 d'])=allOpt (fun i:Nat=>match i with
  | 0=>some (beqL a a')
  | 1=>aeqT NC.P 99 35 (.agg [.int .i64 b,.int .i64 c]) (.agg [.int .i64 b',.int .i64 c'])
  | _=>some (eqI d d')) [0,1,2]:=by kernel_rfl
 have h3:aeqT NC.P 99 35 (.agg [.int .i64 b,.int .i64 c]) (.agg [.int .i64 b',.int .i64 c'])=allOpt (fun i:Nat=>match i with
  | 0=>some (eqI b b')
  | _=>some (eqI c c')) [0,1]:=by kernel_rfl
 rw [h2]
 simp only [allOpt,h3,eqI_iff,beqL_dec]
 by_cases c0:a=a'<;>by_cases c1:b=b'<;>by_cases c2:c=c'<;>by_cases c3:d=d'<;>simp [c0,c1,c2,c3]
attribute [go_sem] eqt_rst aeq_rst
noncomputable def PPF47:FuncId→Option (List AV→Option AV):=addPrim 20 p20 (addPrim 48 p48 (addPrim 44 p44 (addPrim 22 p22 (addPrim 37 p37 (fun _=>none)))))
theorem primsF47:PrimsOk NC PPF47:=primsOk_add (primsOk_add (primsOk_add (primsOk_add (primsOk_add (primsOk_none) (by kernel_rfl) (by kernel_rfl) pok37) (by kernel_rfl) (by kernel_rfl) pok22) (by kernel_rfl) (by kernel_rfl) pok44) (by kernel_rfl) (by kernel_rfl) pok48) (by kernel_rfl) (by kernel_rfl) pok20
theorem enF47_37:En PPF47 37 p37:=enter_prim (by rfl) (by kernel_rfl)
theorem enF47_22:En PPF47 22 p22:=enter_prim (by rfl) (by kernel_rfl)
theorem enF47_44:En PPF47 44 p44:=enter_prim (by rfl) (by kernel_rfl)
theorem enF47_48:En PPF47 48 p48:=enter_prim (by rfl) (by kernel_rfl)
theorem enF47_20:En PPF47 20 p20:=enter_prim (by rfl) (by kernel_rfl)
attribute [go_sem ↓] enF47_37 enF47_22 enF47_44 enF47_48 enF47_20
theorem c47 (m:Msg):∀ lo H,CallOk NC lo 47 [.agg m.row] H (i64 (msgE m)) H:=by
 refine contract saneNC primsF47 (fn:=Tryz.f47) (by kernel_rfl) Tryz.func47 rfl rfl (by rfl) (by first | rfl | (split<;>first | rfl | (split<;>rfl))) ?_
 obtain ⟨num,wd,name,frm,to,speed⟩:=m
 have hrc:=pe22 ⟨name,frm,to,speed⟩
 simp only [Pos.Rst.row] at hrc
 unfold msgE
 generalize hW:withinI num 1 64=W
 by_cases c1:W=0
 · rw [if_neg (by simpa using c1)]
   cases wd
   · simp (config:={ maxDischargeDepth:=12 }) only [go_sem,reduceIte,reduceEqDiff,reduceAdd,reduceMul,reduceSub,reduceLeDiff,reduceLT,Nat.reduceBEq,reduceCtorEq,Pos.Msg.row,hW,c1,hrc]
   · simp (config:={ maxDischargeDepth:=12 }) only [go_sem,reduceIte,reduceEqDiff,reduceAdd,reduceMul,reduceSub,reduceLeDiff,reduceLT,Nat.reduceBEq,reduceCtorEq,Pos.Msg.row,hW,c1]
     simp only [ne_eq,decide_not]
 · rw [if_pos c1]
   simp (config:={ maxDischargeDepth:=12 }) only [go_sem,reduceIte,reduceEqDiff,reduceAdd,reduceMul,reduceSub,reduceLeDiff,reduceLT,Nat.reduceBEq,reduceCtorEq,Pos.Msg.row,hW,c1]
noncomputable def p47:List AV→Option AV:=primOf (α:=(Msg)) (fun x=>[.agg x.row]) (fun x=>True) (fun x=>i64 (msgE x))
theorem pok47:∀ args v,p47 args=some v → ∀ lo H,CallOk NC lo 47 args H v H:=by
 intro args v h
 obtain ⟨x,rfl,hp,rfl⟩:=primOf_inv h
 exact c47 x
theorem pe47 (m:Msg):p47 [.agg m.row]=some (.int .i64 (msgE m)):=primOf_enc (by intro x y h;(simp only [List.cons.injEq,AV.agg.injEq,AV.str.injEq,AV.int.injEq,AV.ps.injEq,AV.bool.injEq,Pos.Rst.row_inj,Pos.Msg.row_inj,rsts_inj,msgs_inj,true_and,and_true] at h;first | simpa only [Prod.ext_iff] using h | simpa only [Prod.ext_iff,and_assoc] using h)) m trivial
attribute [go_sem] pe47
noncomputable def PPF28:FuncId→Option (List AV→Option AV):=fun _=>none
theorem primsF28:PrimsOk NC PPF28:=primsOk_none
theorem c28 (f:List Rst) (g:List Rst) (hp:f.length≤maxRows):∀ lo H,CallOk NC lo 28 [.ps .unk (f.map Pos.Rst.row),.ps .unk (g.map Pos.Rst.row)] H (.bool (decide (f=g))) H:=by
 refine contract saneNC primsF28 (fn:=Tryz.f28) (by kernel_rfl) Tryz.func28 rfl rfl (by rfl) (by first | rfl | (split<;>first | rfl | (split<;>rfl))) ?_
 by_cases hlen:f.length=g.length
 · have hl1:((f.length:Int)=(g.length:Int))=True:=eq_true (by omega)
   simp (config:={ maxDischargeDepth:=12 }) only [go_sem,reduceIte,reduceEqDiff,reduceAdd,reduceMul,reduceSub,reduceLeDiff,reduceLT,Nat.reduceBEq,reduceCtorEq,hl1]
   refine W_for (fun k T H M=>M=[]∧getT T 0=.ps .unk (f.map Pos.Rst.row)∧getT T 1=.ps .unk (g.map Pos.Rst.row)∧getT T 12=i64 (f.length:Nat)∧getT T 13=i64 k∧f.take k=g.take k) f.length ?_ ?_ ?_
   · simp (config:={ maxDischargeDepth:=12 }) only [go_sem,reduceIte,reduceEqDiff,reduceAdd,reduceMul,reduceSub,reduceLeDiff,reduceLT,Nat.reduceBEq,reduceCtorEq]
   · rintro k T H M hk ⟨rfl,g0,g1,g12,g13,ht⟩
     obtain ⟨x,hx⟩:∃ x,f[k]? = some x:=⟨f[k],by simp⟩
     obtain ⟨y,hy⟩:∃ x,g[k]? = some x:=⟨g[k]'(by omega),by simp⟩
     have hw:=wrap_succ hk hp
     have hrx:(f.map Pos.Rst.row)[k]? = some x.row:=map_at hx
     have hry:(g.map Pos.Rst.row)[k]? = some y.row:=map_at hy
     have hkg:k < g.length:=by omega
     obtain ⟨x0,x1,x2,x3⟩:=x
     obtain ⟨y0,y1,y2,y3⟩:=y
     simp only [Pos.Rst.row] at hrx hry
     by_cases c:(⟨x0,x1,x2,x3⟩:Rst)=⟨y0,y1,y2,y3⟩
     · have cd:=decide_eq_true c
       simp (config:={ maxDischargeDepth:=12 }) only [go_sem,reduceIte,reduceEqDiff,reduceAdd,reduceMul,reduceSub,reduceLeDiff,reduceLT,Nat.reduceBEq,reduceCtorEq,g0,g1,g12,g13,hk,hkg,hw,hrx,hry,cd]
       rw [List.take_add_one,List.take_add_one,hx,hy,ht,c]
     · have cd:=decide_eq_false c
       simp (config:={ maxDischargeDepth:=12 }) only [go_sem,reduceIte,reduceEqDiff,reduceAdd,reduceMul,reduceSub,reduceLeDiff,reduceLT,Nat.reduceBEq,reduceCtorEq,g0,g1,g12,g13,hk,hkg,hw,hrx,hry,cd]
       have hne:f ≠ g:=fun he=>by rw [he,hy] at hx;exact c (Option.some.inj hx).symm
       rw [decide_eq_false hne]
   · rintro T H M ⟨rfl,g0,g1,g12,g13,ht⟩
     have he:f=g:=by
      rw [List.take_length,hlen,List.take_length] at ht
      exact ht
     have hd:decide (f=g)=true:=decide_eq_true he
     simp (config:={ maxDischargeDepth:=12 }) only [go_sem,reduceIte,reduceEqDiff,reduceAdd,reduceMul,reduceSub,reduceLeDiff,reduceLT,Nat.reduceBEq,reduceCtorEq,g0,g1,g12,g13,Nat.lt_irrefl,hd]
 · have hl1:((f.length:Int)=(g.length:Int))=False:=eq_false (by omega)
   have hd:decide (f=g)=false:=decide_eq_false (fun he=>hlen (by rw [he]))
   simp (config:={ maxDischargeDepth:=12 }) only [go_sem,reduceIte,reduceEqDiff,reduceAdd,reduceMul,reduceSub,reduceLeDiff,reduceLT,Nat.reduceBEq,reduceCtorEq,hl1,hd]
noncomputable def p28:List AV→Option AV:=primOf (α:=(List Rst) × (List Rst)) (fun x=>[.ps .unk (x.1.map Pos.Rst.row),.ps .unk (x.2.map Pos.Rst.row)]) (fun x=>x.1.length≤maxRows) (fun x=>.bool (decide (x.1=x.2)))
theorem pok28:∀ args v,p28 args=some v → ∀ lo H,CallOk NC lo 28 args H v H:=by
 intro args v h
 obtain ⟨x,rfl,hp,rfl⟩:=primOf_inv h
 exact c28 x.1 x.2 hp
theorem pe28 (f:List Rst) (g:List Rst) (hp:f.length≤maxRows):p28 [.ps .unk (f.map Pos.Rst.row),.ps .unk (g.map Pos.Rst.row)]=some (.bool (decide (f=g))):=primOf_enc (by intro x y h;(simp only [List.cons.injEq,AV.agg.injEq,AV.str.injEq,AV.int.injEq,AV.ps.injEq,AV.bool.injEq,Pos.Rst.row_inj,Pos.Msg.row_inj,rsts_inj,msgs_inj,true_and,and_true] at h;first | simpa only [Prod.ext_iff] using h | simpa only [Prod.ext_iff,and_assoc] using h)) (f,g) hp
attribute [go_sem] pe28
section
variable {P:FuncId→Option (List AV→Option AV)}
theorem strip_mrows {α:Type} {u:α→List AV} (hu:∀ x,(u x).map AV.strip0=u x) (l:List α):(l.map u).map (List.map AV.strip0)=l.map u:=by
 rw [List.map_map]
 exact List.map_congr_left fun q _=>hu q
theorem pure_mrows {α:Type} {u:α→List AV} (hu:∀ x,pureRow (u x)=true) (l:List α):(l.map u).all pureRow=true:=by
 rw [List.all_eq_true]
 intro w hw
 obtain ⟨q,_,rfl⟩:=List.mem_map.1 hw
 exact hu q
theorem all_mrows {α:Type} {u:α→List AV} {n:Nat} (hu:∀ x,(u x).length=n) (l:List α):(l.map u).all (fun r=>decide (r.length=n))=true:=by
 rw [List.all_eq_true]
 intro w hw
 obtain ⟨q,_,rfl⟩:=List.mem_map.1 hw
 simp [hu q]
theorem r_cloneM (x:Msg) (r:List Msg) (hl:(x::r).length≤maxRows) (lo:Nat) (H:Heap) (hlo:lo≤H.n) :
 ∃ v H',R (NC.withPrims P) (.call lo 57 [.ps .unk ((x::r).map Pos.Msg.row)] H)=some (.ofVal v H')∧v=.ps (.tok H.n) ((x::r).map Pos.Msg.row)∧H'=H.push (.row [] 6 86):=by
 refine R_of_body (C:=NC.withPrims P) (f:=57) (lo:=lo) (args:=[.ps .unk ((x::r).map Pos.Msg.row)]) (H:=H) (fn:=Tryz.f57) (Q:=fun v H'=>v=.ps (.tok H.n) ((x::r).map Pos.Msg.row)∧H'=H.push (.row [] 6 86)) (by kernel_rfl) Tryz.func57 rfl rfl ?_
 have h1:([]:List (List AV)).length+((x::r).map Pos.Msg.row).length≤maxRows:=by simpa using hl
 have h2:=pure_mrows (u:=Pos.Msg.row) (fun _=>rfl) (x::r)
 have h4:=strip_mrows (u:=Pos.Msg.row) (fun _=>rfl) (x::r)
 have hone:((x::r).map Pos.Msg.row).all (fun r=>r.all AV.one)=true:=by
  rw [List.all_eq_true]
  intro w hw
  obtain ⟨q,_,rfl⟩:=List.mem_map.1 hw
  rfl
 have hlen:((x::r).map Pos.Msg.row).length=(x::r).length:=List.length_map _
 have hra:=all_mrows (u:=Pos.Msg.row) (n:=6) (fun _=>rfl) (x::r)
 have hnb:isNilB .unk ((x::r).map Pos.Msg.row)=some false:=rfl
 have hap:∀ lo,appP lo H 6 86 (.ps .exact []) ((x::r).map Pos.Msg.row)=some (.ps (.tok H.n) ((x::r).map Pos.Msg.row),H.push (.row [] 6 86)):=by
  intro lo
  unfold appP
  simp only [List.map_cons] at h1 h2 h4 ⊢
  simp only [h1,h2,h4,decide_true,Bool.and_self,Bool.true_and,if_true,List.all_nil]
  rfl
 simp only [List.map_cons] at hap hra hnb ⊢
 have hri:rowsIn H 6 (.ps .unk (Pos.Msg.row x::r.map Pos.Msg.row))=some (Pos.Msg.row x::r.map Pos.Msg.row):=by
  show (if (Pos.Msg.row x::r.map Pos.Msg.row).all (fun r=>decide (r.length=6))=true then some (Pos.Msg.row x::r.map Pos.Msg.row) else none)=_
  rw [if_pos hra]
 generalize hL:Pos.Msg.row x::r.map Pos.Msg.row=L at *
 simp (config:={ maxDischargeDepth:=12 }) only [go_sem,reduceIte,reduceEqDiff,reduceAdd,reduceMul,reduceSub,reduceLeDiff,reduceLT,Nat.reduceBEq,reduceCtorEq,hnb,appO,hra,hap]
 rw [hL]
theorem en_cloneM (hP:P 57=none) {lo:Nat} {args:List AV} {H:Heap} {K:AV→Heap→Prop} (hm:mayBeNil args=false) :
 VO (aenter (NC.withPrims P) (R (NC.withPrims P)) lo 57 args H) K=AO (R (NC.withPrims P) (.call H.n 57 args H)) fun o=>o.val.strip.pure=true∧K o.val.strip H:=by
 have h1:(NC.withPrims P).memo 57 args=none:=rfl
 have h2:(NC.withPrims P).prim 57=none:=by
  show (match NC.prim 57 with | some p=>some p | none=>P 57)=none
  rw [hP];kernel_rfl
 have h3:(NC.withPrims P).hprim 57=none:=by kernel_rfl
 have h4:(NC.withPrims P).mode 57=.pure:=by kernel_rfl
 unfold aenter
 simp only [h1,h2,h3,h4,hm,Bool.and_false,Bool.false_eq_true,if_false]
 cases hr:R (NC.withPrims P) (.call H.n 57 args H) with
 | none=>rfl
 | some o=>cases hpu:o.val.strip.pure<;>simp [VO,AO,hpu]
theorem en_cloneMn (hP:P 57=none) {lo:Nat} {H:Heap} {K:AV→Heap→Prop} :
 VO (aenter (NC.withPrims P) (R (NC.withPrims P)) lo 57 [.ps .unk []] H) K=K (.ps .exact []) H:=by
 have h1:(NC.withPrims P).memo 57 [.ps .unk []]=none:=rfl
 have h2:(NC.withPrims P).prim 57=none:=by
  show (match NC.prim 57 with | some p=>some p | none=>P 57)=none
  rw [hP];kernel_rfl
 have h3:(NC.withPrims P).hprim 57=none:=by kernel_rfl
 have h4:(NC.withPrims P).twice 57=true:=by kernel_rfl
 have h5:mayBeNil [.ps .unk []]=true:=rfl
 obtain ⟨v1,H1,r1,rfl⟩:∃ v H',R (NC.withPrims P) (.call H.n 57 [.ps .nil []] H)=some (.ofVal v H')∧v=.ps .nil []:=by
  refine R_of_body (C:=NC.withPrims P) (f:=57) (lo:=H.n) (args:=[.ps .nil []]) (H:=H) (fn:=Tryz.f57) (Q:=fun v H'=>v=.ps .nil []) (by kernel_rfl) Tryz.func57 rfl rfl ?_
  have hnb:isNilB .nil []=some true:=rfl
  simp (config:={ maxDischargeDepth:=12 }) only [go_sem,reduceIte,reduceEqDiff,reduceAdd,reduceMul,reduceSub,reduceLeDiff,reduceLT,Nat.reduceBEq,reduceCtorEq,hnb]
 obtain ⟨v2,H2,r2,rfl⟩:∃ v H',R (NC.withPrims P) (.call H.n 57 [.ps .nn []] H)=some (.ofVal v H')∧v=.ps .exact []:=by
  refine R_of_body (C:=NC.withPrims P) (f:=57) (lo:=H.n) (args:=[.ps .nn []]) (H:=H) (fn:=Tryz.f57) (Q:=fun v H'=>v=.ps .exact []) (by kernel_rfl) Tryz.func57 rfl rfl ?_
  have hnb:isNilB .nn []=some false:=rfl
  have hap:∀ lo,appP lo H 6 86 (.ps .exact []) []=some (.ps .exact [],H):=fun lo=>rfl
  simp (config:={ maxDischargeDepth:=12 }) only [go_sem,reduceIte,reduceEqDiff,reduceAdd,reduceMul,reduceSub,reduceLeDiff,reduceLT,Nat.reduceBEq,reduceCtorEq,hnb,appO,hap]
 unfold aenter
 simp only [h1,h2,h3,h4,h5,Bool.and_self,if_true,r1,r2,ofVal_v]
 rfl
theorem e_cloneM (hP:P 57=none) (l:List Msg) (hl:l.length≤maxRows):∃ t,∀ (lo:Nat) (H:Heap) (K:AV→Heap→Prop),VO (aenter (NC.withPrims P) (R (NC.withPrims P)) lo 57 [.ps .unk (l.map Pos.Msg.row)] H) K=K (.ps t (l.map Pos.Msg.row)) H:=by
 cases l with
 | nil=>exact ⟨.exact,fun lo H K=>en_cloneMn hP⟩
 | cons x r =>
   refine ⟨.unk,fun lo H K => ?_⟩
   obtain ⟨v,H',h1,rfl,rfl⟩:=r_cloneM (P:=P) x r hl H.n H (Nat.le_refl _)
   rw [en_cloneM hP rfl,h1]
   show ((AV.ps .unk ((x::r).map Pos.Msg.row)).pure=true∧K (.ps .unk ((x::r).map Pos.Msg.row)) H)=_
   have:(AV.ps .unk ((x::r).map Pos.Msg.row)).pure=true:=rfl
   rw [this]
   simp
theorem r_cloneR (x:Rst) (r:List Rst) (hl:(x::r).length≤maxRows) (lo:Nat) (H:Heap) (hlo:lo≤H.n) :
 ∃ v H',R (NC.withPrims P) (.call lo 58 [.ps .unk ((x::r).map Pos.Rst.row)] H)=some (.ofVal v H')∧v=.ps (.tok H.n) ((x::r).map Pos.Rst.row)∧H'=H.push (.row [] 4 43):=by
 refine R_of_body (C:=NC.withPrims P) (f:=58) (lo:=lo) (args:=[.ps .unk ((x::r).map Pos.Rst.row)]) (H:=H) (fn:=Tryz.f58) (Q:=fun v H'=>v=.ps (.tok H.n) ((x::r).map Pos.Rst.row)∧H'=H.push (.row [] 4 43)) (by kernel_rfl) Tryz.func58 rfl rfl ?_
 have h1:([]:List (List AV)).length+((x::r).map Pos.Rst.row).length≤maxRows:=by simpa using hl
 have h2:=pure_mrows (u:=Pos.Rst.row) (fun _=>rfl) (x::r)
 have h4:=strip_mrows (u:=Pos.Rst.row) (fun _=>rfl) (x::r)
 have hone:((x::r).map Pos.Rst.row).all (fun r=>r.all AV.one)=true:=by
  rw [List.all_eq_true]
  intro w hw
  obtain ⟨q,_,rfl⟩:=List.mem_map.1 hw
  rfl
 have hlen:((x::r).map Pos.Rst.row).length=(x::r).length:=List.length_map _
 have hra:=all_mrows (u:=Pos.Rst.row) (n:=4) (fun _=>rfl) (x::r)
 have hnb:isNilB .unk ((x::r).map Pos.Rst.row)=some false:=rfl
 have hap:∀ lo,appP lo H 4 43 (.ps .exact []) ((x::r).map Pos.Rst.row)=some (.ps (.tok H.n) ((x::r).map Pos.Rst.row),H.push (.row [] 4 43)):=by
  intro lo
  unfold appP
  simp only [List.map_cons] at h1 h2 h4 ⊢
  simp only [h1,h2,h4,decide_true,Bool.and_self,Bool.true_and,if_true,List.all_nil]
  rfl
 simp only [List.map_cons] at hap hra hnb ⊢
 have hri:rowsIn H 4 (.ps .unk (Pos.Rst.row x::r.map Pos.Rst.row))=some (Pos.Rst.row x::r.map Pos.Rst.row):=by
  show (if (Pos.Rst.row x::r.map Pos.Rst.row).all (fun r=>decide (r.length=4))=true then some (Pos.Rst.row x::r.map Pos.Rst.row) else none)=_
  rw [if_pos hra]
 generalize hL:Pos.Rst.row x::r.map Pos.Rst.row=L at *
 simp (config:={ maxDischargeDepth:=12 }) only [go_sem,reduceIte,reduceEqDiff,reduceAdd,reduceMul,reduceSub,reduceLeDiff,reduceLT,Nat.reduceBEq,reduceCtorEq,hnb,appO,hra,hap]
 rw [hL]
theorem en_cloneR (hP:P 58=none) {lo:Nat} {args:List AV} {H:Heap} {K:AV→Heap→Prop} (hm:mayBeNil args=false) :
 VO (aenter (NC.withPrims P) (R (NC.withPrims P)) lo 58 args H) K=AO (R (NC.withPrims P) (.call H.n 58 args H)) fun o=>o.val.strip.pure=true∧K o.val.strip H:=by
 have h1:(NC.withPrims P).memo 58 args=none:=rfl
 have h2:(NC.withPrims P).prim 58=none:=by
  show (match NC.prim 58 with | some p=>some p | none=>P 58)=none
  rw [hP];kernel_rfl
 have h3:(NC.withPrims P).hprim 58=none:=by kernel_rfl
 have h4:(NC.withPrims P).mode 58=.pure:=by kernel_rfl
 unfold aenter
 simp only [h1,h2,h3,h4,hm,Bool.and_false,Bool.false_eq_true,if_false]
 cases hr:R (NC.withPrims P) (.call H.n 58 args H) with
 | none=>rfl
 | some o=>cases hpu:o.val.strip.pure<;>simp [VO,AO,hpu]
theorem en_cloneRn (hP:P 58=none) {lo:Nat} {H:Heap} {K:AV→Heap→Prop} :
 VO (aenter (NC.withPrims P) (R (NC.withPrims P)) lo 58 [.ps .unk []] H) K=K (.ps .exact []) H:=by
 have h1:(NC.withPrims P).memo 58 [.ps .unk []]=none:=rfl
 have h2:(NC.withPrims P).prim 58=none:=by
  show (match NC.prim 58 with | some p=>some p | none=>P 58)=none
  rw [hP];kernel_rfl
 have h3:(NC.withPrims P).hprim 58=none:=by kernel_rfl
 have h4:(NC.withPrims P).twice 58=true:=by kernel_rfl
 have h5:mayBeNil [.ps .unk []]=true:=rfl
 obtain ⟨v1,H1,r1,rfl⟩:∃ v H',R (NC.withPrims P) (.call H.n 58 [.ps .nil []] H)=some (.ofVal v H')∧v=.ps .nil []:=by
  refine R_of_body (C:=NC.withPrims P) (f:=58) (lo:=H.n) (args:=[.ps .nil []]) (H:=H) (fn:=Tryz.f58) (Q:=fun v H'=>v=.ps .nil []) (by kernel_rfl) Tryz.func58 rfl rfl ?_
  have hnb:isNilB .nil []=some true:=rfl
  simp (config:={ maxDischargeDepth:=12 }) only [go_sem,reduceIte,reduceEqDiff,reduceAdd,reduceMul,reduceSub,reduceLeDiff,reduceLT,Nat.reduceBEq,reduceCtorEq,hnb]
 obtain ⟨v2,H2,r2,rfl⟩:∃ v H',R (NC.withPrims P) (.call H.n 58 [.ps .nn []] H)=some (.ofVal v H')∧v=.ps .exact []:=by
  refine R_of_body (C:=NC.withPrims P) (f:=58) (lo:=H.n) (args:=[.ps .nn []]) (H:=H) (fn:=Tryz.f58) (Q:=fun v H'=>v=.ps .exact []) (by kernel_rfl) Tryz.func58 rfl rfl ?_
  have hnb:isNilB .nn []=some false:=rfl
  have hap:∀ lo,appP lo H 4 43 (.ps .exact []) []=some (.ps .exact [],H):=fun lo=>rfl
  simp (config:={ maxDischargeDepth:=12 }) only [go_sem,reduceIte,reduceEqDiff,reduceAdd,reduceMul,reduceSub,reduceLeDiff,reduceLT,Nat.reduceBEq,reduceCtorEq,hnb,appO,hap]
 unfold aenter
 simp only [h1,h2,h3,h4,h5,Bool.and_self,if_true,r1,r2,ofVal_v]
 rfl
theorem e_cloneR (hP:P 58=none) (l:List Rst) (hl:l.length≤maxRows):∃ t,∀ (lo:Nat) (H:Heap) (K:AV→Heap→Prop),VO (aenter (NC.withPrims P) (R (NC.withPrims P)) lo 58 [.ps .unk (l.map Pos.Rst.row)] H) K=K (.ps t (l.map Pos.Rst.row)) H:=by
 cases l with
 | nil=>exact ⟨.exact,fun lo H K=>en_cloneRn hP⟩
 | cons x r =>
   refine ⟨.unk,fun lo H K => ?_⟩
   obtain ⟨v,H',h1,rfl,rfl⟩:=r_cloneR (P:=P) x r hl H.n H (Nat.le_refl _)
   rw [en_cloneR hP rfl,h1]
   show ((AV.ps .unk ((x::r).map Pos.Rst.row)).pure=true∧K (.ps .unk ((x::r).map Pos.Rst.row)) H)=_
   have:(AV.ps .unk ((x::r).map Pos.Rst.row)).pure=true:=rfl
   rw [this]
   simp
theorem r_cloneF (x:Rst) (r:List Rst) (hl:(x::r).length≤maxRows) (lo:Nat) (H:Heap) (hlo:lo≤H.n) :
 ∃ v H',R (NC.withPrims P) (.call lo 77 [.ps .unk ((x::r).map Pos.Rst.row)] H)=some (.ofVal v H')∧v=.rs H.n 0 (x::r).length 4 none∧H'=H.push (.row ((x::r).map Pos.Rst.row).flatten 4 43):=by
 refine R_of_body (C:=NC.withPrims P) (f:=77) (lo:=lo) (args:=[.ps .unk ((x::r).map Pos.Rst.row)]) (H:=H) (fn:=Tryz.f77) (Q:=fun v H'=>v=.rs H.n 0 (x::r).length 4 none∧H'=H.push (.row ((x::r).map Pos.Rst.row).flatten 4 43)) (by kernel_rfl) Tryz.func77 rfl rfl ?_
 have h1:([]:List (List AV)).length+((x::r).map Pos.Rst.row).length≤maxRows:=by simpa using hl
 have h2:=pure_mrows (u:=Pos.Rst.row) (fun _=>rfl) (x::r)
 have h4:=strip_mrows (u:=Pos.Rst.row) (fun _=>rfl) (x::r)
 have hone:((x::r).map Pos.Rst.row).all (fun r=>r.all AV.one)=true:=by
  rw [List.all_eq_true]
  intro w hw
  obtain ⟨q,_,rfl⟩:=List.mem_map.1 hw
  rfl
 have hlen:((x::r).map Pos.Rst.row).length=(x::r).length:=List.length_map _
 have hra:=all_mrows (u:=Pos.Rst.row) (n:=4) (fun _=>rfl) (x::r)
 have hnb:isNilB .unk ((x::r).map Pos.Rst.row)=some false:=rfl
 have hap:∀ lo,appR lo H 4 43 (.ps .exact []) ((x::r).map Pos.Rst.row)=some (.rs H.n 0 (x::r).length 4 none,H.push (.row ((x::r).map Pos.Rst.row).flatten 4 43)):=by
  intro lo
  unfold appR
  simp only [List.map_cons] at h1 hone hlen ⊢
  simp only [Tok.full,h1,hl,hone,decide_true,Bool.and_self,Bool.true_and,if_true,List.all_nil,List.nil_append,hlen,List.length_nil,Nat.zero_add]
  rfl
 simp only [List.map_cons] at hap hra hnb ⊢
 have hri:rowsIn H 4 (.ps .unk (Pos.Rst.row x::r.map Pos.Rst.row))=some (Pos.Rst.row x::r.map Pos.Rst.row):=by
  show (if (Pos.Rst.row x::r.map Pos.Rst.row).all (fun r=>decide (r.length=4))=true then some (Pos.Rst.row x::r.map Pos.Rst.row) else none)=_
  rw [if_pos hra]
 generalize hL:Pos.Rst.row x::r.map Pos.Rst.row=L at *
 simp (config:={ maxDischargeDepth:=12 }) only [go_sem,reduceIte,reduceEqDiff,reduceAdd,reduceMul,reduceSub,reduceLeDiff,reduceLT,Nat.reduceBEq,reduceCtorEq,hnb,appO,hra,hap]
 rw [hL]
theorem en_cloneF (hP:P 77=none) {lo:Nat} {args:List AV} {H:Heap} {K:AV→Heap→Prop} (hm:mayBeNil args=false) :
 VO (aenter (NC.withPrims P) (R (NC.withPrims P)) lo 77 args H) K=AO (R (NC.withPrims P) (.call H.n 77 args H)) fun o=>K o.val o.s.H:=by
 have h1:(NC.withPrims P).memo 77 args=none:=rfl
 have h2:(NC.withPrims P).prim 77=none:=by
  show (match NC.prim 77 with | some p=>some p | none=>P 77)=none
  rw [hP];kernel_rfl
 have h3:(NC.withPrims P).hprim 77=none:=by kernel_rfl
 have h4:(NC.withPrims P).mode 77=.fresh:=by kernel_rfl
 unfold aenter
 simp only [h1,h2,h3,h4,hm,Bool.and_false,Bool.false_eq_true,if_false]
 cases R (NC.withPrims P) (.call H.n 77 args H)<;>rfl
theorem en_cloneFn (hP:P 77=none) {lo:Nat} {H:Heap} {K:AV→Heap→Prop} :
 VO (aenter (NC.withPrims P) (R (NC.withPrims P)) lo 77 [.ps .unk []] H) K=K (.ps .exact []) H:=by
 have h1:(NC.withPrims P).memo 77 [.ps .unk []]=none:=rfl
 have h2:(NC.withPrims P).prim 77=none:=by
  show (match NC.prim 77 with | some p=>some p | none=>P 77)=none
  rw [hP];kernel_rfl
 have h3:(NC.withPrims P).hprim 77=none:=by kernel_rfl
 have h4:(NC.withPrims P).twice 77=true:=by kernel_rfl
 have h5:mayBeNil [.ps .unk []]=true:=rfl
 obtain ⟨v1,H1,r1,rfl⟩:∃ v H',R (NC.withPrims P) (.call H.n 77 [.ps .nil []] H)=some (.ofVal v H')∧v=.ps .nil []:=by
  refine R_of_body (C:=NC.withPrims P) (f:=77) (lo:=H.n) (args:=[.ps .nil []]) (H:=H) (fn:=Tryz.f77) (Q:=fun v H'=>v=.ps .nil []) (by kernel_rfl) Tryz.func77 rfl rfl ?_
  have hnb:isNilB .nil []=some true:=rfl
  simp (config:={ maxDischargeDepth:=12 }) only [go_sem,reduceIte,reduceEqDiff,reduceAdd,reduceMul,reduceSub,reduceLeDiff,reduceLT,Nat.reduceBEq,reduceCtorEq,hnb]
 obtain ⟨v2,H2,r2,rfl⟩:∃ v H',R (NC.withPrims P) (.call H.n 77 [.ps .nn []] H)=some (.ofVal v H')∧v=.ps .exact []:=by
  refine R_of_body (C:=NC.withPrims P) (f:=77) (lo:=H.n) (args:=[.ps .nn []]) (H:=H) (fn:=Tryz.f77) (Q:=fun v H'=>v=.ps .exact []) (by kernel_rfl) Tryz.func77 rfl rfl ?_
  have hnb:isNilB .nn []=some false:=rfl
  have hap:∀ lo,appR lo H 4 43 (.ps .exact []) []=some (.ps .exact [],H):=fun lo=>rfl
  simp (config:={ maxDischargeDepth:=12 }) only [go_sem,reduceIte,reduceEqDiff,reduceAdd,reduceMul,reduceSub,reduceLeDiff,reduceLT,Nat.reduceBEq,reduceCtorEq,hnb,appO,hap]
 unfold aenter
 simp only [h1,h2,h3,h4,h5,Bool.and_self,if_true,r1,r2,ofVal_v]
 rfl
end
end Go.Sim
