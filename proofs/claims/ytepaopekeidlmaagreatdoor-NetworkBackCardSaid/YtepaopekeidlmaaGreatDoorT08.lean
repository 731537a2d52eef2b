/-
The parts SimCode, SimStep, SimStep2, SimStep3, SimDraw1, SimDraw2, SimDraw3, SimDraw4, SimDraw5, SimDraw6, SimAll of one proof, joined: each begins with a remark that says what it shows.
-/
import Derived.Test.YtepaopekeidlmaaGreatDoorT07
import Derived.OrdersIn
set_option linter.unusedSimpArgs false
set_option linter.unusedVariables false

/-
What is proved of a run of the abstract interpreter (5): code, calls, rounds.
-/
namespace Go.Sim
open Go
variable {C:Cfg} {g:Gh} {n:Nat} {H:Heap} {w:World}
def DrawOk (C:Cfg) (rec:Rec):Prop :=
 ∀ (ro:Option Nat) (fid:FuncId) (lo:Nat) (ops:Array Oper) (plan:List OpI) (T:TT AV) (H:Heap) (T':TT AV) (H':Heap) (M:List Nat) (g:Gh) (w:World) (a:Act) (Q:Exit→Act→World→Prop),
   planOk C fid ops ops.toList plan 0 0 []=true→(∀ o ∈ ops.toList,∀ d,o.dst=some d→d < a.tmps.size)→lo≤H.n →
   adraw C rec fid lo ops.toList ops.toList plan 0 [] T H 0 []=some (T',H')→Rel C g H w→ARel C lo g H.n T M a →
   (∀ g' a' w',Rel C g' H' w'→Ext lo g H w g' H' w'→ARel C lo g' H'.n T' M a'→a'.tmps.size=a.tmps.size→Q .normal a' w') →
   wpAnyIn (fenceAt ro) 0 C.P .any ops Q ops.size (Array.replicate ops.size false) a w
theorem codeOk_mono {fid:FuncId} {n m:Nat} (hnm:n≤m):∀ (c:Code),codeOk C fid n c=true→codeOk C fid m c=true:=by
 intro c
 induction c with
 | region id ops draw =>
   intro h
   simp only [codeOk,Bool.and_eq_true,Array.all_eq_true'] at h ⊢
   refine ⟨fun o ho => ?_,h.2⟩
   have:=h.1 o ho
   cases hd:o.dst with
   | none=>rfl
   | some d=>simp only [hd,decide_eq_true_eq] at this ⊢;exact Nat.lt_of_lt_of_le this hnm
 | seq a b iha ihb=>intro h;simp only [codeOk,Bool.and_eq_true] at h ⊢;exact ⟨iha h.1,ihb h.2⟩
 | cond c a b iha ihb=>intro h;simp only [codeOk,Bool.and_eq_true] at h ⊢;exact ⟨iha h.1,ihb h.2⟩
 | block id b ih=>intro h;simp only [codeOk] at h ⊢;exact ih h
 | loop b ih=>intro h;simp only [codeOk] at h ⊢;exact ih h
 | scope b ih=>intro h;simp only [codeOk] at h ⊢;exact ih h
 | rangeFunc f ps a b iha ihb =>
   intro h
   simp only [codeOk,Bool.and_eq_true,Array.all_eq_true',decide_eq_true_eq] at h ⊢
   exact ⟨⟨fun p hp=>Nat.lt_of_lt_of_le (h.1.1 p hp) hnm,iha h.1.2⟩,ihb h.2⟩
 | _=>intro _;rfl
theorem CPost.of {lo:Nat} {s:St} {size:Nat} {e:AExit} {T:TT AV} {H':Heap} {M:List Nat} {g':Gh} {a':Act} {w':World} {e':Exit} (he:exitIs e e') (h1:Rel C g' H' w') (h2:Ext lo g s.H w g' H' w') (h3:ARel C lo g' H'.n T M a') (h4:a'.tmps.size=size) :
 CPost C lo g s w size ⟨e,⟨T,H',M⟩⟩ e' a' w':=⟨he,g',h1,h2,h3,h4⟩
theorem CPost.comp {lo:Nat} {s s1:St} {g1:Gh} {w1 w2:World} {o:Out} {e:Exit} {a2:Act} {size size':Nat} (h:CPost C lo g1 s1 w1 size' o e a2 w2) (hE:Ext lo g s.H w g1 s1.H w1) (hs:size'=size):CPost C lo g s w size o e a2 w2:=by
 obtain ⟨h0,g',h1,h2,h3,h4⟩:=h
 exact ⟨h0,g',h1,hE.trans h2,h3,h4.trans hs⟩
theorem setParams_rel {g:Gh} {n:Nat}:∀ {ps:List Tmp} {vs:List AV} {cv:List Value} {T:TT AV} {tmps:Array Value},TRel g n T tmps→VRels g n vs cv→(∀ p ∈ ps,p < tmps.size) →
 TRel g n (setParams ps vs T) ((ps.zip cv).foldl (fun tmps (p:Tmp × Value)=>tmps.setIfInBounds p.1 p.2) tmps)∧((ps.zip cv).foldl (fun tmps (p:Tmp × Value)=>tmps.setIfInBounds p.1 p.2) tmps).size=tmps.size
 | [],vs,cv,T,tmps,hT,_,_=>by simpa [setParams] using hT
 | p::ps,[],cv,T,tmps,hT,hv,_=>by
   have:=hv.nil_left;subst this
   simpa [setParams] using hT
 | p::ps,v::vs,cv,T,tmps,hT,hv,hp=>by
   obtain ⟨c,cv',rfl,h1,h2⟩:=hv.cons_left
   simp only [setParams,List.zip_cons_cons,List.foldl_cons]
   obtain ⟨k1,k2⟩:=setParams_rel (ps:=ps) (hT.set (hp p (by simp)) h1) h2 (fun q hq=>by simpa using hp q (by simp [hq]))
   exact ⟨k1,k2.trans (by simp)⟩
theorem argsT_rel {g:Gh} {n:Nat}:∀ {vs:List AV} {cv:List Value} {i:Nat} {T:TT AV} {tmps:Array Value},(∀ t,(t < i∨i+cv.length≤t)→VRel g n (getT T t) (tmps.getD t undef))→VRels g n vs cv→(∀ j v,cv[j]? = some v→tmps[i+j]? = some v) →
 TRel g n (argsT vs i T) tmps
 | [],cv,i,T,tmps,hT,hv,_=>by
   have:=hv.nil_left;subst this
   exact fun t=>hT t (by simp;omega)
 | v::vs,cv,i,T,tmps,hT,hv,hj=>by
   obtain ⟨c,cv',rfl,h1,h2⟩:=hv.cons_left
   simp only [argsT]
   refine argsT_rel (cv:=cv') (fun t ht => ?_) h2 (fun j v hv=>by have:=hj (j+1) v (by simpa using hv);rw [show i+1+j=i+(j+1) by omega];exact this)
   rw [getT_setT]
   by_cases e:t=i
   · subst e
     rw [if_pos rfl]
     have:=hj 0 c rfl
     simp only [Nat.add_zero] at this
     simp [this,h1]
   · rw [if_neg e];exact hT t (by simp only [List.length_cons];omega)
def resOf (tmps:Array Value):ResultVar→Sem Value
 | .tmp t=>Pure.pure (tmps.getD t undef)
 | .cell a t=>do loadVar t (← asAddr (tmps.getD a undef))
theorem results_eq (fn:Func) (tmps:Array Value):results fn tmps=(do
 let vs ← fn.results.mapM (resOf tmps)
 Pure.pure (if h:vs.size=1 then vs[0] else .tuple vs):Sem Value):=by
 unfold results
 congr 1
theorem Rel.putO (hR:Rel C g H w) {lo id:Nat} (hlo:lo≤id) (hid:id < H.n) (hl:(H.get id).live=true) {o o':Obj} (ho:w.heap[(g.L id).b]? = some o) (hno:∀ c e fz,o ≠ .cells c e fz) {b':ABlk}
 (hb:BRel C g H.n (w.putObj (g.L id).b o') (g.L id) b'):Rel C g (H.set id b') (w.putObj (g.L id).b o')∧Ext lo g H w g (H.set id b') (w.putObj (g.L id).b o') :=
 hR.upd hlo hid hl (fun b hb=>World.putObj_heap_other hb) World.putObj_size rfl rfl rfl hb fun x v hk=>by
  have:=hR.know _ _ _ hk
  unfold World.cell? at this
  rw [ho] at this
  cases o<;>first | exact absurd rfl (hno _ _ _) | simp at this
theorem aresults_ok (hR:Rel C g H w) {T:TT AV} {tmps:Array Value} (hT:TRel g H.n T tmps):∀ {l:List ResultVar} {r:List AV},aresults C H T l=some r →
 ∃ vs:List Value,VRels g H.n r vs∧(l.mapM (resOf tmps)).run C.P w=.ok vs w
 | [],r,h=>by simp [aresults] at h;subst h;exact ⟨[],.nil,by simp⟩
 | x::l,r,h=>by
   unfold aresults at h
   split at h
   · rename_i v hv
     split at h
     · rename_i l' hl'
       simp at h;subst h
       obtain ⟨vs,h1,h2⟩:=aresults_ok hR hT hl'
       cases x with
       | tmp t =>
         simp at hv;subst hv
         refine ⟨tmps.getD t undef::vs,.cons (hT t) h1, ?_⟩
         simp only [List.mapM_cons,resOf,Sem.run_bind,Sem.run_pure,Result.andThen_ok]
         simp only [h2,Result.andThen_ok]
       | cell c t =>
         have hv:aload C.P H t (getT T c)=some v:=hv
         obtain ⟨ad,cv,k1,k2,k3,k4⟩:=aload_rel (P:=C.P) hR hv (hT c)
         refine ⟨cv::vs,.cons k4 h1, ?_⟩
         have ha:(asAddr (.pointer (some ad)):Sem Addr)=Pure.pure ad:=rfl
         simp only [List.mapM_cons,resOf,Sem.run_bind,Sem.run_pure,Result.andThen_ok,k1,ha,k3]
         simp only [h2,Result.andThen_ok]
     · cases h
   · cases h
end Go.Sim

/-
What is proved of a run of the abstract interpreter (6): one step.
-/
namespace Go.Sim
open Go
variable {C:Cfg} {g:Gh} {n:Nat} {H:Heap} {w:World}
theorem loopToo {F:Fence} {n:Nat} {P:Program} {c:Code} {Q:Exit→Act→World→Prop} {a:Act} {w:World} (hc:∀ b,c ≠ .loop b) (h:c.wpIn F n P Q a w) :
 c.wpIn F n P Q a w ∧ ∀ b,c=.loop b→LoopIn F n P b Q a w:=⟨h,fun b e=>absurd e (hc b)⟩
theorem code_ok (S:Sane C) {rec:Rec} (ih:∀ t o,rec t=some o→Sound C t o) (hdraw:DrawOk C rec) {lo:Nat} {fid:FuncId} {rnd:Bool} {c:Code} {s:St} {out:Out} (hc:∀ f p x y,c ≠ .rangeFunc f p x y)
 (h:astep C rec (.code lo fid rnd c s)=some out):Sound C (.code lo fid rnd c s) out:=by
 intro ro g w a hro hlo hR hA hok
 have stay:∀ {e:AExit} {e':Exit},exitIs e e'→out=⟨e,s⟩→CPost C lo g s w a.tmps.size out e' a w:=fun he ho=>by
  subst ho;exact ⟨he,g,hR,.refl _ _ _ _,hA,rfl⟩
 unfold astep at h
 simp only [] at h
 cases c with
 | skip=>simp at h;exact loopToo (by simp) (wpIn_skip (stay (e:=.nrm) trivial h.symm))
 | label l=>simp at h;exact loopToo (by simp) (wpIn_label (stay (e:=.nrm) trivial h.symm))
 | ret=>simp at h;exact loopToo (by simp) (wpIn_ret (stay (e:=.ret) trivial h.symm))
 | exit id=>simp at h;exact loopToo (by simp) (wpIn_exit (stay (e:=.ext id) rfl h.symm))
 | goto l=>simp at h;exact loopToo (by simp) (wpIn_goto (stay (e:=.gto l) rfl h.symm))
 | seq x y =>
   simp only [codeOk,Bool.and_eq_true] at hok
   refine loopToo (by simp) (wpIn_seq ?_)
   simp only [] at h
   split at h
   · rename_i s1 hx
     have h1:=(ih _ _ hx ro g w a hro hlo hR hA hok.1).1
     refine wpIn_mono h1 fun e a1 w1 hp => ?_
     obtain ⟨he,g1,k1,k2,k3,k4⟩:=hp
     cases e<;>simp only [exitIs] at he
     have h2:=(ih _ _ h ro g1 w1 a1 hro (Nat.le_trans hlo k2.n) k1 k3 (by rw [k4];exact hok.2)).1
     exact wpIn_mono h2 fun e a2 w2 hp=>hp.comp k2 k4
   · rename_i hno
     have h1:=(ih _ _ h ro g w a hro hlo hR hA hok.1).1
     refine wpIn_mono h1 fun e a1 w1 hp => ?_
     cases e with
     | normal =>
       obtain ⟨he,_⟩:=hp
       exfalso
       obtain ⟨e,s1⟩:=out
       cases e<;>simp only [exitIs] at he
       exact hno s1 h
     | _=>exact hp
 | cond c x y =>
   simp only [codeOk,Bool.and_eq_true] at hok
   simp only [] at h
   split at h
   · rename_i hv
     have hb:=evalO_rel hA.f hv
     generalize hcv:a.eval c=cv at hb
     cases hb
     exact loopToo (by simp) (wpIn_cond_true hcv (ih _ _ h ro g w a hro hlo hR hA hok.1).1)
   · rename_i hv
     have hb:=evalO_rel hA.f hv
     generalize hcv:a.eval c=cv at hb
     cases hb
     exact loopToo (by simp) (wpIn_cond_false hcv (ih _ _ h ro g w a hro hlo hR hA hok.2).1)
   · cases h
 | block id b =>
   simp only [codeOk] at hok
   refine loopToo (by simp) (wpIn_block ?_)
   simp only [] at h
   split at h
   · rename_i id' s1 hx
     have h1:=(ih _ _ hx ro g w a hro hlo hR hA hok).1
     simp at h;subst h
     refine wpIn_mono h1 fun e a1 w1 hp => ?_
     obtain ⟨he,hrest⟩:=hp
     cases e<;>simp only [exitIs] at he
     rename_i j
     subst he
     simp only [Exit.inBlock]
     split
     · exact ⟨trivial,hrest⟩
     · exact ⟨rfl,hrest⟩
   · rename_i hno
     have h1:=(ih _ _ h ro g w a hro hlo hR hA hok).1
     refine wpIn_mono h1 fun e a1 w1 hp => ?_
     cases e with
     | exit j =>
       obtain ⟨he,_⟩:=hp
       exfalso
       obtain ⟨e,s1⟩:=out
       cases e<;>simp only [exitIs] at he
       exact hno _ s1 h
     | _=>exact hp
 | loop b =>
   simp only [codeOk] at hok
   simp only [] at h
   have key:LoopIn (fenceAt ro) 0 C.P b (CPost C lo g s w a.tmps.size out) a w:=by
    refine LoopIn.round ?_
    split at h
    · rename_i s1 hx
      have h1:=(ih _ _ hx ro g w a hro hlo hR hA hok).1
      refine wpIn_mono h1 fun e a1 w1 hp => ?_
      obtain ⟨he,g1,k1,k2,k3,k4⟩:=hp
      cases e<;>simp only [exitIs] at he
      have h2:=(ih _ _ h ro g1 w1 a1 hro (Nat.le_trans hlo k2.n) k1 k3 (by simp only [codeOk];rw [k4];exact hok)).2 b rfl
      exact h2.mono fun e a2 w2 hp=>hp.comp k2 k4
    · rename_i hno
      have h1:=(ih _ _ h ro g w a hro hlo hR hA hok).1
      refine wpIn_mono h1 fun e a1 w1 hp => ?_
      cases e with
      | normal =>
        obtain ⟨he,_⟩:=hp
        exfalso
        obtain ⟨e,s1⟩:=out
        cases e<;>simp only [exitIs] at he
        exact hno s1 h
      | _=>exact hp
   exact ⟨key.wpIn,fun b' hb'=>by cases hb';exact key⟩
 | scope b =>
   simp only [codeOk] at hok
   simp only [] at h
   refine loopToo (by simp) (wpIn_scope ?_)
   split at h
   · cases h
   · rename_i hno
     have h1:=(ih _ _ h ro g w a hro hlo hR hA hok).1
     refine wpIn_mono h1 fun e a1 w1 hp => ?_
     cases e with
     | goto l =>
       obtain ⟨he,_⟩:=hp
       exfalso
       obtain ⟨e,s1⟩:=out
       cases e<;>simp only [exitIs] at he
       exact hno _ _ h
     | _=>exact hp
 | region id ops draw =>
   simp only [codeOk,Bool.and_eq_true,Array.all_eq_true'] at hok
   have hdst:∀ o ∈ ops.toList,∀ d,o.dst=some d→d < a.tmps.size:=fun o ho d hd=>by
    have:=hok.1 o (by simpa using ho)
    simpa [hd] using this
   have hdst':=hdst
   cases draw with
   | false =>
     simp only [] at h
     split at h
     · rename_i T1 H1 hx
       simp at h;subst h
       refine loopToo (by simp) (wpIn_region ?_)
       have:=aops_ok S ih (ro:=ro) (fid:=fid) (lo:=lo) (ops:=ops) (M:=s.M) (Q:=CPost C lo g s w a.tmps.size ⟨.nrm,⟨T1,H1,s.M⟩⟩) ops.toList 0 s.T s.H g w a rfl (by simp) hlo hx hR hA hdst (fun g' a' w' q1 q2 q3 q4=>⟨trivial,g',q1,q2,q3,q4⟩)
       have e:List.range' 0 ops.toList.length=List.range ops.size:=by rw [List.range_eq_range'];simp
       rw [e] at this
       exact this
     · cases h
   | true =>
     simp only [] at h
     split at h
     · rename_i T1 H1 hx
       simp at h;subst h
       refine loopToo (by simp) (wpIn_region_any S.orders ?_)
       have hR':Rel C g s.H { w with drawn:=w.drawn+1 }:=hR.congr rfl
       refine hdraw ro fid lo ops (C.plans fid id) s.T s.H T1 H1 s.M g _ a _ (by simpa using hok.2) hdst hlo hx hR' hA fun g' a' w' q1 q2 q3 q4 => ?_
       exact ⟨trivial,g',q1,(Ext.ofHeap rfl rfl rfl rfl:Ext lo g s.H w g s.H { w with drawn:=w.drawn+1 }).trans q2,q3,q4⟩
     · cases h
 | rangeFunc f ps x y=>exact absurd rfl (hc f ps x y)
 | _=>simp at h
end Go.Sim

/-
What is proved of a run of the abstract interpreter (7): calls, rounds, ranges over functions.
-/
namespace Go.Sim
open Go
variable {C:Cfg} {g:Gh} {n:Nat} {H:Heap} {w:World}
theorem shut_ok {lo:Nat} {fn:Func} {T:TT AV} {tmps:Array Value} {R:Ending→World→Prop}:∀ {M:List Nat} {ds:List Deferred} {g:Gh} {H H':Heap} {w:World},
 Marks lo g H.n M ds→shutMarks M H=some H'→Rel C g H w→TRel g H.n T tmps →
 (∀ w',Rel C g H' w'→Ext lo g H w g H' w'→TRel g H'.n T tmps→H'.n=H.n → ∃ v,(results fn tmps).run C.P w'=.ok v w'∧R (.returned v) w') →
 LeavesInM Fence.wide 0 C.P fn tmps R ds .returning w
 | [],ds,g,H,H',w,hM,h,hR,hT,hend=>by
   rw [hM.nil_left]
   simp [shutMarks] at h;subst h
   exact hend w hR (.refl _ _ _ _) hT rfl
 | id::M,ds,g,H,H',w,hM,h,hR,hT,hend=>by
   obtain ⟨d,ds',rfl,⟨h0,h1,h2⟩,h3⟩:=hM.cons_left
   unfold shutMarks at h
   split at h
   · rename_i hd
     have hblk:=hR.blk id h1
     rw [hd] at hblk
     have hput:=hR.putO (lo:=lo) (o':=.deferred none) (b':=.dead) h0 h1 (by rw [hd];rfl) hblk (by simp) trivial
     refine ⟨by simp,.inl ⟨_,_,h2,run_takeDeferred hblk, ?_⟩⟩
     refine shut_ok (H:=H.set id .dead) h3 h hput.1 hT fun w' q1 q2 q3 q4 => ?_
     exact hend w' q1 (hput.2.trans q2) q3 q4
   · cases h
theorem frameT_size (args:Array Value) (k:Nat):k≤(args++Array.replicate (k - args.size) undef).size:=by
 simp;omega
theorem ofVal_val (v:AV) (H:Heap):(Out.ofVal v H).val=v:=rfl
theorem call_ok (S:Sane C) {rec:Rec} (ih:∀ t o,rec t=some o→Sound C t o) {lo:Nat} {f:FuncId} {args:List AV} {out:Out}
 (h:astep C rec (.call lo f args H)=some out):Sound C (.call lo f args H) out:=by
 intro hlo
 unfold astep at h
 simp only [] at h
 split at h
 · cases h
 · rename_i hg
   obtain ⟨fn,c,hf,hb,hname,hok⟩:=S.good f hg
   rw [hf] at h
   simp only [hb] at h
   refine ⟨⟨fn,hf,by rw [hb];rfl,hname⟩,fun g w cargs hR hargs => ?_⟩
   split at h
   · rename_i e s hrun
     have hshut:∃ H1 v,shutMarks s.M s.H=some H1∧(e=.nrm∨e=.ret) ∧ ∃ vs,aresults C H1 s.T fn.results.toList=some vs∧out=.ofVal v H1∧(vs=[v]∨(v=.tup vs∧vs.length ≠ 1)):=by
      have:(match shutMarks s.M s.H with
       | some H=>match aresults C H s.T fn.results.toList with
         | some [v]=>some (Out.ofVal v H)
         | some vs=>some (.ofVal (.tup vs) H)
         | none=>none
       | none=>none)=some out∧(e=.nrm∨e=.ret):=by
       cases e<;>simp only [] at h<;>first | exact ⟨h,.inl rfl⟩ | exact ⟨h,.inr rfl⟩ | cases h
      obtain ⟨h,he⟩:=this
      split at h
      · rename_i H1 hs
        split at h
        · rename_i v hv
          simp at h
          exact ⟨H1,v,hs,he,_,hv,h.symm,.inl rfl⟩
        · rename_i vs hno hv
          simp at h
          exact ⟨H1,_,hs,he,vs,hv,h.symm,.inr ⟨rfl,fun hl=>by
           match vs,hl with
           | [x],_=>exact hno x rfl⟩⟩
        · cases h
      · cases h
     obtain ⟨H1,v,hs,he,vs,hv,rfl,hvs⟩:=hshut
     refine callsIn_of_wp_marks hf hb trivial ?_
     have hA:ARel C lo g H.n (argsT args 0 .leaf) [] { tmps:=cargs.toArray++Array.replicate (fn.ntmps - cargs.toArray.size) undef,defers:=[] }:=by
      refine ⟨⟨argsT_rel (cv:=cargs) (i:=0) (fun t ht => ?_) hargs (fun j v hj => ?_),hR.glob⟩,.nil⟩
      · have:(cargs.toArray++Array.replicate (fn.ntmps - cargs.toArray.size) undef).getD t undef=undef:=by
         have ht':cargs.length≤t:=by omega
         rw [Array.getD_eq_getD_getElem?,Array.getElem?_append_right (by simpa using ht')]
         cases hx:(Array.replicate (fn.ntmps - cargs.toArray.size) undef)[t - cargs.toArray.size]? with
         | none=>rfl
         | some v =>
           obtain ⟨_,hx⟩:=Array.getElem?_eq_some_iff.1 hx
           simp at hx
           simp [hx]
        rw [this]
        exact VRel.undef
      · have hlt:=(List.getElem?_eq_some_iff.1 hj).1
        rw [Nat.zero_add,Array.getElem?_append_left (by simpa using hlt)]
        simpa using hj
     have hcode:=(ih _ _ hrun none g w _ rfl hlo hR hA (codeOk_mono (frameT_size _ _) c hok)).1
     refine wpIn_mono hcode fun e' a' w' hp => ?_
     obtain ⟨hex,g',k1,k2,k3,k4⟩:=hp
     have hleave:LeavesInM Fence.wide 0 C.P fn a'.tmps (Post C lo g H w v H1) a'.defers .returning w':=by
      refine shut_ok (lo:=lo) k3.m hs k1 k3.f.t fun w2 q1 q2 q3 q4 => ?_
      obtain ⟨cvs,r1,r2⟩:=aresults_ok q1 q3 hv
      refine ⟨if h:cvs.toArray.size=1 then cvs.toArray[0] else .tuple cvs.toArray, ?_,g',q1,k2.trans q2, ?_⟩
      · rw [results_eq]
        simp only [Sem.run_bind]
        rw [Array.mapM_eq_mapM_toList]
        simp only [Sem.run_bind,map_eq_pure_bind,Sem.run_pure]
        rw [r2]
        simp
      · rcases hvs with rfl | ⟨rfl,hne⟩
        · obtain ⟨cv,m',rfl,r3,r4⟩:=r1.cons_left
          have:=r4.nil_left;subst this
          simpa using r3
        · have hl:=r1.1
          have:¬ (cvs.toArray.size=1):=by simp;omega
          rw [dif_neg this]
          exact VRel.tupOf r1
     cases e' with
     | normal=>exact hleave
     | ret=>exact hleave
     | exit id=>rcases he with rfl | rfl<;>exact hex.elim
     | goto l=>rcases he with rfl | rfl<;>exact hex.elim
     | panic ch=>rcases he with rfl | rfl<;>exact hex.elim
     | outgrown=>rcases he with rfl | rfl<;>exact hex.elim
   · cases h
end Go.Sim

/-
What is proved of a run of the abstract interpreter (8): rounds, ranges over functions.
-/
namespace Go.Sim
open Go
variable {C:Cfg} {g:Gh} {n:Nat} {H:Heap} {w:World}
theorem fold_params (ps:Array Tmp) (cargs:List Value) (tmps:Array Value) :
 (ps.zip cargs.toArray).foldl (fun tmps (x:Tmp × Value)=>match x with | (t,a)=>tmps.setIfInBounds t a) tmps=(ps.toList.zip cargs).foldl (fun tmps (p:Tmp × Value)=>tmps.setIfInBounds p.1 p.2) tmps:=by
 rw [← Array.foldl_toList,Array.toList_zip]
theorem loop_blk (hR:Rel C g H w) {id:Nat} {r:ALoop} (h:H.get id=.loop r):id < H.n∧BRel C g H.n w (g.L id) (.loop r):=by
 have hid:id < H.n:=get_lt hR (by rw [h];rfl)
 have:=hR.blk id hid
 rw [h] at this
 exact ⟨hid,this⟩
theorem yield_ok (S:Sane C) {rec:Rec} (ih:∀ t o,rec t=some o→Sound C t o) {lo l:Nat} {args:List AV} {out:Out}
 (h:astep C rec (.yield lo l args H)=some out):Sound C (.yield lo l args H) out:=by
 intro hlo g w cargs hR hargs hl
 unfold astep at h
 simp only [] at h
 split at h
 · rename_i r0 hr0
   split at h
   · rename_i hcond
     simp only [Bool.and_eq_true,decide_eq_true_eq] at hcond
     obtain ⟨hlen,hlol⟩:=hcond
     obtain ⟨_,c,h1,h2,h3,h4,h5,h6,h7,h8,h9,h10,h11,h12,h13⟩:=loop_blk hR hr0
     have hps:cargs.length=c.params.size:=by
      have:=hargs.1
      have h5':c.params.size=r0.params.length:=by rw [← h5];simp
      omega
     refine ⟨c,h1,hps, ?_⟩
     split at h
     · rename_i s1 hx
       split at h
       · rename_i rc hrc
         split at h
         · rename_i hready
           split at h
           · rename_i e2 s2 hy
             split at h
             · rename_i rc2 hrc2
               have hset:=setParams_rel (ps:=r0.params) h4 hargs (fun p hp=>by
                have:=List.all_eq_true.1 h13 p hp
                simpa using this)
               refine roundIn_of_wpIn (F:=Fence.wide) trivial ?_
               rw [fold_params,h5]
               have hA:ARel C lo g H.n (setParams r0.params args r0.tmps) [] { tmps:=(r0.params.zip cargs).foldl (fun tmps (p:Tmp × Value)=>tmps.setIfInBounds p.1 p.2) c.tmps,defers:=[] }:=⟨⟨hset.1,hR.glob⟩,.nil⟩
               rw [h6]
               have hcode:=(ih _ _ hx (some (g.L l).b) g w _ rfl hlo hR hA (by rw [hset.2];exact h11)).1
               refine wpIn_mono hcode fun e' a1 w1 hp => ?_
               obtain ⟨hex,g1,k1,k2,k3,k4⟩:=hp
               cases e'<;>simp only [exitIs] at hex
               simp only [Exit.then]
               obtain ⟨hid1,c1,i1,i2,i3,i4,i5,i6,i7,i8,i9,i10,i11,i12,i13⟩:=loop_blk k1 hrc
               have hL1:(g1.L l)=(g.L l):=k2.le.L l hl
               rw [hL1] at i1
               refine ⟨_,run_beginRound i1 (by rw [i2];exact hready), ?_⟩
               -- busy
               have hlt1:(g1.L l).b < w1.heap.size:=by rw [hL1];exact (Array.getElem?_eq_some_iff.1 i1).1
               have hput1:=k1.putO (lo:=lo) (o':=.loop { c1 with state:=.busy }) (b':=.loop { rc with state:=.busy }) hlol hid1 (by rw [hrc];rfl) (by rw [hL1];exact i1) (by simp)
                ⟨{ c1 with state:=.busy },World.putObj_heap_same hlt1,rfl,i3,i4,i5,i6,i7,i8,i9,i10,i11,i12,i13⟩
               rw [hL1] at hput1
               rw [h7]
               have hbody:=(ih _ _ hy (some (g.L l).b) g1 _ a1 rfl (Nat.le_trans hlo k2.n) hput1.1 ⟨k3.f,k3.m⟩ (by rw [k4,hset.2];exact h12)).1
               refine wpIn_mono hbody fun e3 a3 w3 hp3 => ?_
               obtain ⟨hex3,g3,m1,m2,m3,m4⟩:=hp3
               obtain ⟨hid3,c3,j1,j2,j3,j4,j5,j6,j7,j8,j9,j10,j11,j12,j13⟩:=loop_blk m1 hrc2
               have hL3:(g3.L l)=(g.L l):=(m2.le.L l hid1).trans hL1
               rw [hL3] at j1
               have hlt3:(g3.L l).b < w3.heap.size:=by rw [hL3];exact (Array.getElem?_eq_some_iff.1 j1).1
               have hE:Ext lo g H w g3 s2.H w3:=k2.trans (hput1.2.trans m2)
               have fin:∀ (jump:Option Code) (st:LoopState) (pend:Option AExit),st=(if jump.isNone then .ready else .done)→jump=pend.bind AExit.code→(pend.isSome → ∀ e,pend=some e→e ≠ .nrm) →
                out=.ofVal (.bool jump.isNone) (s2.H.set l (.loop { rc2 with state:=st,pending:=pend })) → ∃ v w',(Instr.endRound (g.L l).b jump).run C.P w3=.ok v w'∧Post C lo g H w out.val out.s.H (.returned v) w':=by
                intro jump st pend hst hj hpend ho
                subst ho
                refine ⟨_,_,run_endRound jump j1, ?_⟩
                have hput3:=m1.putO (lo:=lo) (o':=.loop { c3 with state:=if jump.isNone then .ready else .done,pending:=jump }) (b':=.loop { rc2 with state:=st,pending:=pend }) hlol hid3 (by rw [hrc2];rfl) (by rw [hL3];exact j1) (by simp)
                 ⟨{ c3 with state:=if jump.isNone then .ready else .done,pending:=jump },World.putObj_heap_same hlt3,hst.symm,hj,j4,j5,j6,j7,j8,j9,hpend,j11,j12,j13⟩
                rw [hL3] at hput3
                exact ⟨g3,hput3.1,hE.trans hput3.2,.bool _⟩
               cases e2 with
               | nrm =>
                 simp at h
                 cases e3<;>simp only [exitIs] at hex3
                 exact fin none .ready none rfl rfl (by simp) h.symm
               | ext i =>
                 simp at h
                 cases e3<;>simp only [exitIs] at hex3
                 subst hex3
                 exact fin (some (.exit i)) .done (some (.ext i)) rfl rfl (by simp) h.symm
               | gto i =>
                 simp at h
                 cases e3<;>simp only [exitIs] at hex3
                 subst hex3
                 exact fin (some (.goto i)) .done (some (.gto i)) rfl rfl (by simp) h.symm
               | ret =>
                 simp at h
                 cases e3<;>simp only [exitIs] at hex3
                 exact fin (some .ret) .done (some .ret) rfl rfl (by simp) h.symm
             · cases h
           · cases h
         · cases h
       · cases h
     · cases h
   · cases h
 · cases h
theorem rangeFunc_ok (S:Sane C) {rec:Rec} (ih:∀ t o,rec t=some o→Sound C t o) {lo:Nat} {fid:FuncId} {rnd:Bool} {gf:Operand} {params:Array Tmp} {assign body:Code} {s:St} {out:Out}
 (h:astep C rec (.code lo fid rnd (.rangeFunc gf params assign body) s)=some out):Sound C (.code lo fid rnd (.rangeFunc gf params assign body) s) out:=by
 intro ro g w a hro hlo hR hA hok
 refine loopToo (by simp) ?_
 simp only [codeOk,Bool.and_eq_true] at hok
 obtain ⟨⟨hok1,hok2⟩,hok3⟩:=hok
 unfold astep at h
 simp only [] at h
 cases rnd with
 | true=>cases h
 | false =>
   simp only [] at h
   have hro':ro=none:=by cases ro<;>simp at hro ⊢
   subst hro'
   split at h
   · rename_i f caps hf
     split at h
     · rename_i o hcall
       -- the two new blocks
       have hv:=evalO_rel hA.f hf
       generalize hcv:a.eval gf=cf at hv
       cases hv with
       | @fn _ _ _ _ fv cv hl hl' hfv hcvv =>
         have hfv0:fv=[]:=List.eq_nil_of_length_eq_zero hl.symm
         subst hfv0
         refine wpIn_rangeFunc fun fn _ => ?_
         obtain ⟨p1,p2⟩:=hR.push lo (.deferred (some [])) .defr 0 0 (fun _=>none) noK rfl (heap_alloc_new:(w.alloc (.deferred (some []))).heap[w.heap.size]? = _)
         generalize hg1:g.fresh s.H.n w.heap.size 0 0 (fun _=>none)=g1 at p1 p2
         have hL1n:g1.L s.H.n=⟨w.heap.size,0,0⟩:=by rw [← hg1];simp [Gh.fresh]
         have hw1:(w.alloc (.deferred (some []))).heap.size=w.heap.size+1:=World.size_alloc ..
         have hle2:=fresh_le p1 0 0 (fun _=>none)
         have hbl:BRel C (g1.fresh (s.H.n+1) (w.alloc (.deferred (some []))).heap.size 0 0 (fun _=>none)) (s.H.n+1+1)
          ((w.alloc (.deferred (some []))).alloc (.loop { state:=.ready,pending:=none,fn:=fn,tmps:=a.tmps,params:=params,assign:=assign,body:=body,defers:=w.heap.size }))
          ⟨(w.alloc (.deferred (some []))).heap.size,0,0⟩ (.loop ⟨fid,s.T,params.toList,assign,body,.ready,none,s.H.n⟩):=by
          refine ⟨_,heap_alloc_new,rfl,rfl,(hA.f.t.mono (Nat.le_succ _) p2.le).mono (Nat.le_succ _) hle2,rfl,rfl,rfl, ?_,by simp only [];omega,by simp,hok2,hok3, ?_⟩
          · have:=hle2.L s.H.n (Nat.lt_succ_self _)
            rw [hL1n] at this
            exact (congrArg Loc.b this).symm
          · simp only [List.all_eq_true,decide_eq_true_eq]
            intro p hp
            have:=Array.all_eq_true'.1 hok1 p (by simpa using hp)
            simpa using this
         obtain ⟨p3,p4⟩:=p1.push lo _ _ 0 0 (fun _=>none) noK rfl hbl
         generalize hg2:g1.fresh (s.H.push .defr).n (w.alloc (.deferred (some []))).heap.size 0 0 (fun _=>none)=g2 at p3 p4
         have hL2n:g2.L s.H.n=⟨w.heap.size,0,0⟩:=by rw [p4.le.L s.H.n (Nat.lt_succ_self _),hL1n]
         have hL2l:g2.L (s.H.n+1)=⟨w.heap.size+1,0,0⟩:=by rw [← hg2];simp [Gh.fresh,hw1]
         have hE2:Ext lo g s.H w g2 _ _:=p2.trans p4
         have hok:=ih _ _ hcall (by simp only [Heap.n_push];omega)
         have hyld:VRel g2 (s.H.n+1+1) (.yld (s.H.n+1)) (.func (.yield (w.heap.size+1)) #[] #[]):=by
          have:VRel g2 (s.H.n+1+1) (.yld (s.H.n+1)) (.func (.yield (g2.L (s.H.n+1)).b) #[] #[]):=.yld (Nat.lt_succ_self _)
          rw [hL2l] at this;exact this
         have hcaps:VRels g2 (s.H.n+1+1) (caps.map AV.strip) cv:=VRels.mono (VRels.strip ⟨hl',hcvv⟩) (by omega) hE2.le
         have hcl:=hok.2 g2 _ (.func (.yield (w.heap.size+1)) #[] #[]::cv) p3 (.cons hyld hcaps)
         refine ⟨w.heap.size+1,[{ target:=.collected w.heap.size,args:=#[] }],_,{ target:=.fn (.func f) cv.toArray,args:=#[.func (.yield (w.heap.size+1)) #[] #[]] },((w.alloc (.deferred (some []))).alloc (.loop { state:=.ready,pending:=none,fn:=fn,tmps:=a.tmps,params:=params,assign:=assign,body:=body,defers:=w.heap.size })),f,_,_,run_enterLoop_outer fn a.tmps params assign body, ?_,fun _ _=>trivial, ?_,fun h=>absurd h (by simp [fenceAt,Fence.wide]),hcl.mono fun e w3 hp => ?_⟩
         · have hev:a.eval (.const (.func (.yield (w.heap.size+1)) #[] #[]))=.func (.yield (w.heap.size+1)) #[] #[]:=rfl
           simp [resolve,rangeCall,hcv,Deferred.ofValue,hev]
         · have:=run_callFunc (w:=(w.alloc (.deferred (some []))).alloc (.loop { state:=.ready,pending:=none,fn:=fn,tmps:=a.tmps,params:=params,assign:=assign,body:=body,defers:=w.heap.size })) hok.1 (.func (.yield (w.heap.size+1)) #[] #[]::cv).toArray
           simpa [invoke] using this
         · obtain ⟨cr,rfl,g3,m1,m2,m3⟩:=hp.returned
           split at h
           · rename_i rc hrc
             obtain ⟨hid3,c3,j1,j2,j3,_⟩:=loop_blk m1 hrc
             have hL3n:g3.L s.H.n=⟨w.heap.size,0,0⟩:=by rw [m2.le.L s.H.n (by simp only [Heap.n_push];omega),hL2n]
             have hL3l:g3.L (s.H.n+1)=⟨w.heap.size+1,0,0⟩:=by rw [m2.le.L (s.H.n+1) (by simp only [Heap.n_push];omega),hL2l]
             rw [hL3l] at j1
             have hn3:s.H.n+2≤o.s.H.n:=m2.n
             have hput:=m1.putO (lo:=lo) (id:=s.H.n+1) (o':=.loop { c3 with state:=.exhausted }) (b':=.dead) (by omega) hid3 (by rw [hrc];rfl) (by rw [hL3l];exact j1) (by simp) trivial
             rw [hL3l] at hput
             have hEall:Ext lo g s.H w g3 (o.s.H.set (s.H.n+1) .dead) (w3.putObj (w.heap.size+1) (.loop { c3 with state:=.exhausted })):=hE2.trans (m2.trans hput.2)
             have hAm:=hA.mono (g':=g3) (n':=o.s.H.n) (by omega) (hE2.trans m2).le
             have hA3:ARel C lo g3 o.s.H.n s.T (s.H.n::s.M) { a with defers:=[{ target:=.collected w.heap.size,args:=#[] }]++a.defers }:=by
              refine ⟨⟨hAm.f.t,hAm.f.glob⟩,.cons ⟨hlo,by omega, ?_⟩ hAm.m⟩
              rw [hL3n]
             have post:∀ {e:AExit} {e':Exit},exitIs e e'→out=⟨e,⟨s.T,o.s.H.set (s.H.n+1) .dead,s.H.n::s.M⟩⟩→CPost C lo g s w a.tmps.size out e' { a with defers:=[{ target:=.collected w.heap.size,args:=#[] }]++a.defers } (w3.putObj (w.heap.size+1) (.loop { c3 with state:=.exhausted })):=by
              intro e e' he ho
              subst ho
              exact ⟨he,g3,hput.1,hEall,hA3,rfl⟩
             split at h
             · cases h
             · rename_i hbusy
               have key:∀ cp,cp=rc.pending.bind AExit.code→(match cp with
                | none=>CPost C lo g s w a.tmps.size out .normal { a with defers:=[{ target:=.collected w.heap.size,args:=#[] }]++a.defers } (w3.putObj (w.heap.size+1) (.loop { c3 with state:=.exhausted }))
                | some (c:Code)=>c.wpIn (fenceAt none) 0 C.P (CPost C lo g s w a.tmps.size out) { a with defers:=[{ target:=.collected w.heap.size,args:=#[] }]++a.defers } (w3.putObj (w.heap.size+1) (.loop { c3 with state:=.exhausted }))):=by
                intro cp hcp
                subst hcp
                split at h
                · rename_i hpend
                  simp at h
                  rw [hpend]
                  exact post (e:=.nrm) (e':=.normal) trivial h.symm
                · rename_i e hpend
                  simp at h
                  rw [hpend]
                  cases e with
                  | nrm=>exact post (e:=.nrm) (e':=.normal) trivial h.symm
                  | ext i=>exact wpIn_exit (post (e:=.ext i) (e':=.exit i) rfl h.symm)
                  | gto i=>exact wpIn_goto (post (e:=.gto i) (e':=.goto i) rfl h.symm)
                  | ret=>exact wpIn_ret (post (e:=.ret) (e':=.ret) trivial h.symm)
               exact ⟨_,_,run_endLoop j1 (by rw [j2];exact hbusy),key _ j3⟩
           · cases h
     · cases h
   · cases h
end Go.Sim

/-
A region that draws its order (1): what an operation depends on, what it leaves.
-/
namespace Go.Sim
open Go
variable {C:Cfg} {rec:Rec} {fid:FuncId} {lo:Nat}
theorem evalOs_congr {T T':TT AV}:∀ {l:List Operand},(∀ x ∈ l,evalO C T x=evalO C T' x)→evalOs C T l=evalOs C T' l
 | [],_=>rfl
 | x::l,h=>by simp only [evalOs,h x (by simp),evalOs_congr (l:=l) fun y hy=>h y (by simp [hy])]
theorem evalParts_congr {T T':TT AV}:∀ {l:List (Nat × Operand)},(∀ x ∈ l.map (·.2),evalO C T x=evalO C T' x)→evalParts C T l=evalParts C T' l
 | [],_=>rfl
 | (i,x)::l,h=>by simp only [evalParts,h x (by simp),evalParts_congr (l:=l) fun y hy=>h y (by simp at hy ⊢;exact .inr hy)]
theorem evalOpt_congr {T T':TT AV} {x:Option Operand} (h:∀ y ∈ x.toArray,evalO C T y=evalO C T' y):evalOpt C T x=evalOpt C T' x:=by
 cases x with
 | none=>rfl
 | some x=>simp only [evalOpt,h x (by simp)]
theorem acall_congr {T T':TT AV} {H:Heap} {c:Call} (h:∀ x ∈ c.operands,evalO C T x=evalO C T' x):acall C rec fid lo c T H=acall C rec fid lo c T' H:=by
 have h1:evalOs C T c.args.toList=evalOs C T' c.args.toList:=evalOs_congr fun x hx=>h x (by unfold Call.operands;cases c.callee<;>simp at hx ⊢ <;> simp [hx])
 unfold acall
 rw [h1]
 cases hc:c.callee with
 | value x =>
   have h2:evalO C T x=evalO C T' x:=h x (by unfold Call.operands;simp [hc])
   simp only [h2]
 | _=>rfl
theorem aop_congr {T T':TT AV} {H:Heap} {o:Oper} (h:∀ x ∈ o.op.operands,evalO C T x=evalO C T' x):aop C rec fid lo o T H=aop C rec fid lo o T' H:=by
 unfold aop
 cases hop:o.op<;>simp only [hop,Op.operands] at h<;>try rfl
 case move x=>simp only [h x (by simp)]
 case assign x=>simp only [h x (by simp)]
 case pick c x y=>simp only [h c (by simp),h x (by simp),h y (by simp)]
 case box t x=>simp only [h x (by simp)]
 case build t ps=>simp only [evalParts_congr (T:=T) (T':=T') (l:=ps.toList) fun x hx=>h x (by simpa using hx)]
 case buildSlice t len ps=>simp only [evalParts_congr (T:=T) (T':=T') (l:=ps.toList) fun x hx=>h x (by simpa using hx)]
 case load t x=>simp only [h x (by simp)]
 case store t x y=>simp only [h x (by simp),h y (by simp)]
 case nilCheck x=>simp only [h x (by simp)]
 case binOp _ _ x y _=>simp only [h x (by simp),h y (by simp)]
 case unOp _ _ x=>simp only [h x (by simp)]
 case convert _ _ x=>simp only [h x (by simp)]
 case makeMap t r=>cases r<;>rfl
 case makeFunc f first caps =>
  cases f<;>first | rfl | skip
  simp only [evalOs_congr (T:=T) (T':=T') (l:=first.toList) fun x hx=>h x (by simp at hx ⊢;exact .inl hx),evalOs_congr (T:=T) (T':=T') (l:=caps.toList) fun x hx=>h x (by simp at hx ⊢;exact .inr hx)]
 case makeSlice t l c=>simp only [h l (by simp),h c (by simp)]
 case slice t x l hi mx =>
  simp only [h x (by simp),evalOpt_congr (T:=T) (T':=T') (x:=l) fun y hy=>h y (by simp at hy ⊢;simp [hy]),evalOpt_congr (T:=T) (T':=T') (x:=hi) fun y hy=>h y (by simp at hy ⊢;simp [hy]),
   evalOpt_congr (T:=T) (T':=T') (x:=mx) fun y hy=>h y (by simp at hy ⊢;simp [hy])]
 case fieldAddr t x f=>simp only [h x (by simp)]
 case field t x f=>simp only [h x (by simp)]
 case indexAddr t x i=>simp only [h x (by simp),h i (by simp)]
 case index t x i=>simp only [h x (by simp),h i (by simp)]
 case lookup t m k ok=>simp only [h m (by simp),h k (by simp)]
 case mapUpdate t m k x=>simp only [h m (by simp),h k (by simp),h x (by simp)]
 case insert t m k x=>simp only [h m (by simp),h k (by simp),h x (by simp)]
 case range t x=>simp only [h x (by simp)]
 case next it s=>simp only [h it (by simp)]
 case extract t i=>simp only [h t (by simp)]
 case call c=>exact acall_congr h
theorem same_at {r:Option AV} {v:AV} {H H1 H':Heap} (h:same H r=some (v,H')):same H1 r=some (v,H1):=by
 obtain ⟨h1,_⟩:=same_eq h
 rw [h1];rfl
theorem aop_data {T:TT AV} {H H' H1:Heap} {o:Oper} {v:AV} (hc:clsOf C fid o=.data) (h:aop C rec fid lo o T H=some (v,H')):aop C rec fid lo o T H1=some (v,H1):=by
 unfold clsOf at hc
 unfold aop at h ⊢
 cases hop:o.op<;>simp only [hop] at h hc ⊢ <;> first | (cases hc;done) | skip
 case move x=>split at hc<;>simp_all;split at h<;>simp_all
 case assign x=>split at hc<;>simp_all;split at h<;>simp_all
 case pick c x y=>split at h<;>first | exact same_at h | cases h
 case build t ps=>split at h<;>first | exact same_at h | cases h
 case buildSlice t len ps =>
  split at hc
  · cases hc
  · rename_i hl
    simp only [if_neg hl] at h ⊢
    split at h<;>first | exact same_at h | cases h
 case nilCheck x=>split at h<;>simp_all
 case binOp _ _ x y _=>split at h<;>first | exact same_at h | cases h
 case unOp _ _ x=>split at h<;>first | exact same_at h | cases h
 case convert _ _ x=>split at h<;>first | exact same_at h | cases h
 case makeFunc f first caps =>
  cases f<;>simp only [] at h ⊢ <;> first | (cases h;done) | skip
  split at h<;>simp_all
 case slice t x l hi mx=>split at h<;>first | exact same_at h | cases h
 case fieldAddr t x f=>split at h<;>first | exact same_at h | cases h
 case field t x f=>split at h<;>first | exact same_at h | cases h
 case indexAddr t x i=>split at h<;>first | exact same_at h | cases h
 case index t x i=>split at h<;>first | exact same_at h | cases h
 case extract t i =>
  split at h<;>first | (cases h;done) | skip
  split at h<;>simp_all
 case call c =>
  unfold acall at h ⊢
  split at h
  · cases h
  · rename_i args hargs
    cases hcal:c.callee with
    | value x =>
      rw [hcal] at hc
      cases x<;>simp only [] at hc<;>first | (cases hc;done) | skip
      split at hc
      · cases hc
      · split at hc
        · split at hc<;>cases hc
        · split at hc<;>cases hc
    | invoke a b=>rw [hcal] at hc;cases hc
    | builtin b =>
      rw [hcal] at hc h
      cases b<;>simp only [] at hc<;>first | (cases hc;done) | skip
      · simp only [] at h ⊢
        split at h<;>simp_all<;>exact same_at h
      · simp only [] at h ⊢
        split at h<;>simp_all<;>exact same_at h
end Go.Sim

/-
A region that draws its order (2): what an operation of a class leaves.
-/
namespace Go.Sim
open Go
variable {C:Cfg} {rec:Rec} {fid:FuncId} {lo:Nat}
theorem clsOf_load {o:Oper} (h:clsOf C fid o=.load):∃ t a,o.op=.load t a:=by
 unfold clsOf at h
 cases hop:o.op<;>simp only [hop] at h<;>first | (cases h;done) | skip
 case load t a=>exact ⟨t,a,rfl⟩
 case move x=>split at h<;>cases h
 case assign x=>split at h<;>cases h
 case buildSlice t len ps=>split at h<;>cases h
 case call c =>
  cases hcal:c.callee with
  | value x =>
    rw [hcal] at h
    cases x<;>simp only [] at h<;>first | (cases h;done) | skip
    split at h
    · cases h
    · split at h
      · split at h<;>cases h
      · split at h<;>cases h
  | invoke a b=>rw [hcal] at h;cases h
  | builtin b=>rw [hcal] at h;cases b<;>cases h
theorem aload_same {P:Program} {H H1:Heap} {t:TypeId} {a:AV} (h:∀ id off,a=.ptr id off→H1.get id=H.get id):aload P H1 t a=aload P H t a:=by
 unfold aload
 have:∀ k,readCells H1 a k=readCells H a k:=fun k=>by
  unfold readCells
  cases a<;>try rfl
  rename_i id off
  simp only [h id off rfl]
 simp only [this]
theorem aop_load {T:TT AV} {H H' H1:Heap} {o:Oper} {v:AV} {n:Nat} (hc:clsOf C fid o=.load) (h:aop C rec fid lo o T H=some (v,H')) (hs:∀ id,accOf C T n .load o=some (.rd id)→H1.get id=H.get id):aop C rec fid lo o T H1=some (v,H1):=by
 obtain ⟨t,a,hop⟩:=clsOf_load hc
 unfold aop at h ⊢
 simp only [hop] at h ⊢
 split at h
 · rename_i x hx
   rw [aload_same (H:=H) (H1:=H1)]
   · exact same_at h
   · intro id off he
     exact hs id (by unfold accOf;simp only [hop,hx,he])
 · cases h
theorem acall_func {o:Oper} {c:Call} {f:FuncId} (hf:c.callee=.value (.func f)) {T:TT AV} {H H':Heap} {v:AV} (h:acall C rec fid lo c T H=some (v,H')) :
 ∃ args,evalOs C T c.args.toList=some args∧aenter C rec lo f ((([]:List AV)++args++[]).map AV.strip) H=some (v,H'):=by
 unfold acall at h
 split at h
 · cases h
 · rename_i args hargs
   rw [hf] at h
   simp only [evalO] at h
   exact ⟨args,hargs,h⟩
theorem aenter_pure {f:FuncId} {args:List AV} {H H':Heap} {v:AV} (hp:(C.prim f).isSome=true∨((C.hprim f).isSome=false∧C.mode f=.pure)) (h:aenter C rec lo f args H=some (v,H')):H'=H:=by
 unfold aenter at h
 split at h
 · simp at h;exact h.2.symm
 · split at h
   · exact (same_eq h).2
   · rename_i hpr
     rcases hp with hp | ⟨hh,hm⟩
     · rw [hpr] at hp;cases hp
     · split at h
       · rename_i p hp;rw [hp] at hh;cases hh
       · split at h
         · split at h
           · split at h
             · simp at h;exact h.2.symm
             · cases h
           · cases h
         · rw [hm] at h
           simp only [] at h
           split at h
           · split at h
             · simp at h;exact h.2.symm
             · cases h
           · cases h
theorem aop_read {T:TT AV} {H H':Heap} {o:Oper} {v:AV} (hc:clsOf C fid o=.read) (h:aop C rec fid lo o T H=some (v,H')):H'=H:=by
 have hc0:=hc
 unfold clsOf at hc
 unfold aop at h
 cases hop:o.op<;>simp only [hop] at h hc<;>first | (cases hc;done) | skip
 case move x=>split at hc<;>cases hc
 case assign x=>split at hc<;>cases hc
 case buildSlice t len ps=>split at hc<;>cases hc
 case lookup t m k ok=>split at h<;>first | exact (same_eq h).2 | cases h
 case call c =>
  cases hcal:c.callee with
  | value x =>
    rw [hcal] at hc
    cases x<;>simp only [] at hc<;>first | (cases hc;done) | skip
    rename_i f
    obtain ⟨args,_,he⟩:=acall_func (o:=o) hcal h
    refine aenter_pure ?_ he
    split at hc
    · rename_i hp;exact .inl hp
    · split at hc
      · split at hc<;>cases hc
      · rename_i hh
        split at hc<;>first | (cases hc;done) | skip
        rename_i hm
        exact .inr ⟨by simpa using hh,hm⟩
  | invoke a b=>rw [hcal] at hc;cases hc
  | builtin b =>
    rw [hcal] at hc
    cases b<;>simp only [] at hc<;>first | (cases hc;done) | skip
    unfold acall at h
    split at h
    · cases h
    · rw [hcal] at h
      simp only [] at h
      split at h<;>first | exact (same_eq h).2 | (simp_all;done) | skip
      all_goals (first | exact (same_eq h).2 | cases h)
theorem aop_fresh {lo':Nat} {T:TT AV} {H:Heap} {o:Oper} (hc:clsOf C fid o=.fresh):aop C rec fid lo o T H=aop C rec fid lo' o T H:=by
 unfold clsOf at hc
 unfold aop
 cases hop:o.op<;>simp only [hop] at hc ⊢ <;> first | (cases hc;done) | skip
 case move x=>split at hc<;>cases hc
 case assign x=>split at hc<;>cases hc
 case makeMap t r=>cases r<;>rfl
 case call c =>
  cases hcal:c.callee with
  | value x =>
    rw [hcal] at hc
    cases x<;>simp only [] at hc<;>first | (cases hc;done) | skip
    rename_i f
    split at hc
    · cases hc
    · rename_i hp
      split at hc
      · split at hc<;>cases hc
      · rename_i hh
        split at hc<;>first | (cases hc;done) | skip
        rename_i hm
        have e1:C.prim f=none:=by simpa using hp
        have e2:C.hprim f=none:=by simpa using hh
        unfold acall
        simp only [hcal,evalO]
        cases evalOs C T c.args.toList with
        | none=>rfl
        | some args=>simp only [aenter,e1,e2,hm]
  | invoke a b=>rw [hcal] at hc;cases hc
  | builtin b =>
    rw [hcal] at hc
    cases b<;>cases hc
theorem get_push_lt {H:Heap} {b:ABlk} {id:Nat} (h:id < H.n):(H.push b).get id=H.get id:=by rw [Heap.get_push,if_neg (Nat.ne_of_lt h)]
theorem aop_writeAt {T:TT AV} {H H':Heap} {o:Oper} {v:AV} {n:Nat} (hat:AtOk C) (hc:clsOf C fid o=.writeAt) (h:aop C rec fid lo o T H=some (v,H')) :
 ∀ id,id < H.n→accOf C T n .writeAt o ≠ some (.wr id)→H'.get id=H.get id:=by
 intro id hid hne
 unfold clsOf at hc
 unfold aop at h
 unfold accOf at hne
 cases hop:o.op<;>simp only [hop] at hc h hne<;>first | (cases hc;done) | skip
 case move x=>split at hc<;>cases hc
 case assign x=>split at hc<;>cases hc
 case buildSlice t len ps=>split at hc<;>cases hc
 case store t a x =>
  split at h
  · rename_i va vx hva hvx
    obtain ⟨h1,_⟩:=onlyHeap_eq h
    unfold astore at h1
    split at h1
    · rename_i id' off k hsz
      rw [hva] at hne
      simp only [] at hne
      split at h1
      · split at h1
        · simp at h1;subst h1
          rw [Heap.get_set,if_neg]
          rintro rfl;exact hne rfl
        · cases h1
      · cases h1
    · cases h1
  · cases h
 case mapUpdate t m k x =>
  split at h
  · rename_i vm vk vx hvm hvk hvx
    obtain ⟨h1,_⟩:=onlyHeap_eq h
    unfold amapUpdate at h1
    split at h1
    · rename_i kt et id' hu
      rw [hvm] at hne
      simp only [] at hne
      have hne':id ≠ id':=by rintro rfl;exact hne rfl
      split at h1
      · split at h1
        · split at h1
          · split at h1
            · simp at h1;subst h1
              rw [Heap.get_set,if_neg hne']
            · cases h1
          · simp at h1;subst h1
            rw [Heap.get_set,if_neg hne']
          · cases h1
        · cases h1
      · cases h1
    · cases h1
  · cases h
 case call c =>
  cases hcal:c.callee with
  | value x =>
    rw [hcal] at hc
    cases x<;>simp only [] at hc<;>first | (cases hc;done) | skip
    rename_i f
    split at hc
    · cases hc
    · rename_i hp
      split at hc
      · rename_i hh
        split at hc
        · rename_i h1
          obtain ⟨args,hargs,he⟩:=acall_func (o:=o) hcal h
          unfold aenter at he
          split at he
          · simp at he;rw [he.2]
          · split at he
            · rename_i p hpp;rw [hpp] at hp;simp at hp
            · split at he
              · rename_i p hhp
                refine hat f p lo _ H v H' h1 hhp he id hid fun off r hc0=>hne ?_
                cases hl:c.args.toList with
                | nil=>rw [hl] at hargs;simp [evalOs] at hargs;subst hargs;simp at hc0
                | cons a0 rest =>
                  rw [hl] at hargs
                  unfold evalOs at hargs
                  split at hargs
                  · rename_i v0 hv0
                    split at hargs
                    · rename_i l' _
                      simp at hargs
                      subst hargs
                      simp at hc0
                      have e0:v0=.ptr id off:=by
                       have h0:=hc0.1
                       cases v0<;>simp [AV.strip] at h0<;>first | (obtain ⟨rfl,rfl⟩:=h0;rfl) | skip
                      simp only [hv0,e0]
                    · cases hargs
                  · cases hargs
              · rename_i hhn;rw [hhn] at hh;simp at hh
        · cases hc
      · split at hc<;>cases hc
  | invoke a b=>rw [hcal] at hc;cases hc
  | builtin b =>
    rw [hcal] at hc
    cases b<;>simp only [] at hc<;>first | (cases hc;done) | skip
    unfold acall at h
    split at h
    · cases h
    · rename_i args hargs
      rw [hcal] at h
      simp only [] at h
      split at h<;>first | (simp_all;done) | skip
      rename_i ts tx s x hts
      -- the first argument
      cases hl:c.args.toList with
      | nil=>rw [hl] at hargs;simp [evalOs] at hargs
      | cons a0 rest =>
        rw [hl] at hargs hne
        unfold evalOs at hargs
        split at hargs
        · rename_i v0 hv0
          split at hargs
          · rename_i l' _
            simp at hargs
            obtain ⟨rfl,rfl⟩:=hargs
            simp only [hv0] at hne
            split at h<;>first | (cases h;done) | skip
            split at h<;>first | (cases h;done) | skip
            split at h<;>first | (cases h;done) | skip
            split at h<;>first | (cases h;done) | skip
            split at h<;>first | (cases h;done) | skip
            rename_i rx _
            split at h
            · unfold appR at h
              split at h
              · rename_i tok rows
                split at h
                · simp at h;rw [← h.2]
                · split at h
                  · simp at h;rw [← h.2];exact get_push_lt hid
                  · cases h
              · rename_i id' off k sz' cap
                have hne':id ≠ id':=by rintro rfl;exact hne rfl
                split at h
                · simp at h;rw [← h.2]
                · split at h
                  · split at h
                    · split at h
                      · split at h
                        · simp at h;rw [← h.2,get_push_lt (by simpa using hid),Heap.get_set,if_neg hne']
                        · split at h
                          · simp only [Option.some.injEq,Prod.mk.injEq] at h;rw [← h.2,Heap.get_set,if_neg hne']
                          · cases h
                      · cases h
                    · cases h
                  · cases h
              · cases h
            · unfold appP at h
              split at h
              · rename_i tok rows
                split at h
                · simp at h;rw [← h.2]
                · split at h
                  · cases tok<;>simp only [] at h<;>first | (cases h;done) | skip
                    · simp at h;rw [← h.2];exact get_push_lt hid
                    · simp at h;rw [← h.2];exact get_push_lt hid
                    · rename_i k
                      have hne':id ≠ k:=by rintro rfl;exact hne rfl
                      split at h
                      · split at h
                        · simp at h;rw [← h.2,get_push_lt (by simpa using hid),Heap.get_set,if_neg hne']
                        · cases h
                      · cases h
                  · cases h
              · cases h
          · cases hargs
        · cases hargs
end Go.Sim

/-
A region that draws its order (3): what the plan tells; the run in the order of the text, state by state.
-/
namespace Go.Sim
open Go
variable {C:Cfg} {rec:Rec} {fid:FuncId} {lo:Nat}
/-! ### The plan -/
def Kc (plan:List OpI):Nat→Nat
 | 0=>0
 | p+1=>match plan[p]? with
   | some s=>if s.c.chain then Kc plan p+1 else Kc plan p
   | none=>Kc plan p
def mAt (plan:List OpI) (p:Nat):Nat:=match plan[p]? with
 | some s=>s.m
 | none=>0
structure PlanAt (C:Cfg) (fid:FuncId) (ops:Array Oper) (plan:List OpI) (p:Nat) (o:Oper) (s:OpI):Prop where
 cls:clsOf C fid o=s.c
 k:s.k≤Kc plan p
 edge:∀ e ∈ o.after.toList,Region.binds .any e=true→e.on < p
 mask:∀ q,s.m.testBit q=true → ∃ e ∈ o.after.toList,Region.binds .any e=true∧(q=e.on∨(mAt plan e.on).testBit q=true)
 pre:∀ q o' s',q < p→ops[q]? = some o'→plan[q]? = some s'→s'.c.chain=true→(s.m.testBit q=true ↔ Kc plan q < s.k)
 loose:∀ q o' s',q < p→ops[q]? = some o'→plan[q]? = some s'→s.m.testBit q=true∨(o'.apart ops o=true∧(meets s'.c s.c=0∨(meets s'.c s.c=1∧q ∈ s.conf)))
structure SeenOk (ops:Array Oper) (plan:List OpI) (i:Nat) (seen:List Seen):Prop where
 is:∀ q ∈ seen,q.i < i∧ops[q.i]? = some q.o∧plan[q.i]? = some q.s∧q.K=Kc plan q.i
 all:∀ j,j < i → ∃ q ∈ seen,q.i=j
theorem maskIn_eq {ops:Array Oper} {plan:List OpI}:∀ {seen:List Seen} {j:Nat},(∀ q ∈ seen,plan[q.i]? = some q.s)→(∃ q ∈ seen,q.i=j)→maskIn seen j=mAt plan j
 | [],j,_,h=>by obtain ⟨q,hq,_⟩:=h;simp at hq
 | x::seen,j,hs,h=>by
   unfold maskIn
   by_cases e:x.i=j
   · have hb:Nat.beq x.i j=true:=by rw [e];exact Nat.beq_refl j
     rw [hb]
     simp only [cond]
     unfold mAt
     rw [← e,hs x (by simp)]
   · have:Nat.beq x.i j=false:=by
      cases hb:Nat.beq x.i j with
      | true=>exact absurd (Nat.eq_of_beq_eq_true hb) e
      | false=>rfl
     rw [this]
     simp only [cond]
     refine maskIn_eq (ops:=ops) (fun q hq=>hs q (by simp [hq])) ?_
     obtain ⟨q,hq,hj⟩:=h
     rcases List.mem_cons.1 hq with rfl | hq
     · exact absurd hj e
     · exact ⟨q,hq,hj⟩
theorem maskOf_bit {seen:List Seen} {q:Nat}:∀ {l:List Edge},(maskOf seen l).testBit q=true → ∃ e ∈ l,Region.binds .any e=true∧(q=e.on∨(maskIn seen e.on).testBit q=true)
 | [],h=>by simp [maskOf] at h
 | e::l,h=>by
   unfold maskOf at h
   split at h
   · rename_i hb
     simp only [Nat.testBit_or,Bool.or_eq_true] at h
     rcases h with (h | h) | h
     · refine ⟨e,by simp,hb,.inl ?_⟩
       rw [Nat.testBit_two_pow] at h
       exact (of_decide_eq_true h).symm
     · exact ⟨e,by simp,hb,.inr h⟩
     · obtain ⟨e',h1,h2⟩:=maskOf_bit h
       exact ⟨e',by simp [h1],h2⟩
   · obtain ⟨e',h1,h2⟩:=maskOf_bit h
     exact ⟨e',by simp [h1],h2⟩
theorem looseOk_spec {all:Array Oper} {o:Oper} {s:OpI}:∀ {seen:List Seen},looseOk all o s seen=true → ∀ q ∈ seen,s.m.testBit q.i=true∨(q.o.apart all o=true∧(meets q.s.c s.c=0∨(meets q.s.c s.c=1∧q.i ∈ s.conf)))
 | [],_,q,hq=>by simp at hq
 | x::seen,h,q,hq=>by
   unfold looseOk at h
   simp only [Bool.and_eq_true,Bool.or_eq_true] at h
   rcases List.mem_cons.1 hq with rfl | hq
   · rcases h.1 with h1 | ⟨h1,h2⟩
     · exact .inl h1
     · refine .inr ⟨h1, ?_⟩
       split at h2
       · rename_i e;exact .inl e
       · rename_i e;exact .inr ⟨e,by simpa using h2⟩
       · cases h2
   · exact looseOk_spec h.2 q hq
theorem planOk_at {ops:Array Oper} {plan:List OpI}:∀ {l:List Oper} {ss:List OpI} {i K:Nat} {seen:List Seen},planOk C fid ops l ss i K seen=true→SeenOk ops plan i seen→K=Kc plan i→ops.toList.drop i=l→plan.drop i=ss →
 (plan.drop i).length=(ops.toList.drop i).length ∧ ∀ p o,i≤p→ops[p]? = some o → ∃ s,plan[p]? = some s∧PlanAt C fid ops plan p o s
 | [],[],i,K,seen,_,_,_,hl,hs=>by
   refine ⟨by simp only [hl,hs,List.length_nil],fun p o hp ho => ?_⟩
   have hlt:p < ops.size:=(Array.getElem?_eq_some_iff.1 ho).1
   have:(ops.toList.drop i).length=0:=by rw [hl];rfl
   simp at this;omega
 | [],_::_,_,_,_,h,_,_,_,_=>by simp [planOk] at h
 | _::_,[],_,_,_,h,_,_,_,_=>by simp [planOk] at h
 | o::l,s::ss,i,K,seen,h,hseen,hK,hl,hs=>by
   have ho:ops[i]? = some o:=by
    have:(ops.toList.drop i)[0]? = some o:=by rw [hl];rfl
    rw [List.getElem?_drop] at this
    simpa using this
   have hsi:plan[i]? = some s:=by
    have:(plan.drop i)[0]? = some s:=by rw [hs];rfl
    rw [List.getElem?_drop] at this
    simpa using this
   unfold planOk at h
   simp only [Bool.and_eq_true] at h
   obtain ⟨h1,h2⟩:=h
   have hd1:ops.toList.drop (i+1)=l:=by rw [← List.drop_drop,hl];rfl
   have hd2:plan.drop (i+1)=ss:=by rw [← List.drop_drop,hs];rfl
   have hseen':SeenOk ops plan (i+1) (⟨i,o,s,K⟩::seen):=by
    refine ⟨fun q hq => ?_,fun j hj => ?_⟩
    · rcases List.mem_cons.1 hq with rfl | hq
      · exact ⟨Nat.lt_succ_self _,ho,hsi,hK⟩
      · obtain ⟨k1,k2⟩:=hseen.is q hq
        exact ⟨by omega,k2⟩
    · rcases Nat.lt_or_ge j i with hlt | hge
      · obtain ⟨q,hq,e⟩:=hseen.all j hlt
        exact ⟨q,by simp [hq],e⟩
      · exact ⟨_,by simp;exact .inl rfl,by simp only [];omega⟩
   have hK':(if s.c.chain then K+1 else K)=Kc plan (i+1):=by
    simp only [Kc,hsi,hK]
   obtain ⟨hlen,hat⟩:=planOk_at h2 hseen' hK' hd1 hd2
   refine ⟨by rw [hl,hs];rw [hd1,hd2] at hlen;simp [hlen],fun p o' hp ho' => ?_⟩
   rcases Nat.eq_or_lt_of_le hp with rfl | hlt
   · rw [ho] at ho'
     simp at ho';subst ho'
     refine ⟨s,hsi, ?_⟩
     unfold planHere at h1
     simp only [Bool.and_eq_true,decide_eq_true_eq,List.all_eq_true,Array.all_eq_true'] at h1
     obtain ⟨⟨⟨⟨⟨p1,p2⟩,p3⟩,p4⟩,p5⟩,p6⟩:=h1
     have hedge:∀ e ∈ o.after.toList,Region.binds .any e=true→e.on < i:=fun e he hb=>by
      have:=p1 e (by simpa using he)
      simp [hb] at this
      exact this
     have find:∀ q o' s',q < i→ops[q]? = some o'→plan[q]? = some s' → ∃ x ∈ seen,x.i=q∧x.o=o'∧x.s=s'∧x.K=Kc plan q:=by
      intro q o' s' hq hqo hqs
      obtain ⟨x,hx,rfl⟩:=hseen.all q hq
      obtain ⟨_,k2,k3,k4⟩:=hseen.is x hx
      rw [hqo] at k2;rw [hqs] at k3
      simp at k2 k3
      exact ⟨x,hx,rfl,k2.symm,k3.symm,k4⟩
     refine ⟨p3, ?_,hedge,fun q hq => ?_,fun q o' s' hq hqo hqs hch => ?_,fun q o' s' hq hqo hqs => ?_⟩
     · rw [← hK];exact Nat.le_of_ble_eq_true p4
     · have hm:maskOf seen o.after.toList=s.m:=Nat.eq_of_beq_eq_true p2
       rw [← hm] at hq
       obtain ⟨e,he,hb,hqe⟩:=maskOf_bit hq
       refine ⟨e,he,hb, ?_⟩
       rw [maskIn_eq (ops:=ops) (fun q hq=>(hseen.is q hq).2.2.1) (hseen.all _ (hedge e he hb))] at hqe
       exact hqe
     · obtain ⟨x,hx,e1,e2,e3,e4⟩:=find q o' s' hq hqo hqs
       have:=p5 x hx
       rw [e1,e3,e4,hch] at this
       simp only [Bool.not_true,Bool.false_or,beq_iff_eq] at this
       rw [this]
       simp [Nat.blt_eq]
     · obtain ⟨x,hx,e1,e2,e3,e4⟩:=find q o' s' hq hqo hqs
       have:=looseOk_spec p6 x hx
       rw [e1,e2,e3] at this
       exact this
   · exact hat p o' hlt ho'
/-! ### The run, state by state -/
structure TS where
 T:TT AV
 H:Heap
 K:Nat
 hs:List Heap
 rd:List (Nat × Acc)
 v:AV
 acc:Option Acc
def stepD (C:Cfg) (rec:Rec) (fid:FuncId) (lo:Nat) (all:List Oper) (o:Oper) (s:OpI) (i:Nat) (x:TS):Option TS :=
 match awanted all x.T o with
 | true=>match s.c.chain with
   | true=>match clashes (accOf C x.T x.H.n s.c o) s.conf x.rd with
     | true=>none
     | false=>match aop C rec fid lo o x.T x.H with
       | some (v,H')=>some ⟨putT x.T o.dst v,H',x.K+1,x.H::x.hs,record i (accOf C x.T x.H.n s.c o) x.rd,v,accOf C x.T x.H.n s.c o⟩
       | none=>none
   | false=>match s.c with
     | .data=>match aop C rec fid lo o x.T x.H with
       | some (v,_)=>some ⟨putT x.T o.dst v,x.H,x.K,x.hs,x.rd,v,none⟩
       | none=>none
     | _=>match clashes (accOf C x.T (backH (x.K - s.k) x.H x.hs).n s.c o) s.conf x.rd || !opsBelow C x.T (backH (x.K - s.k) x.H x.hs).n s.c o with
       | true=>none
       | false=>match aop C rec fid lo o x.T (backH (x.K - s.k) x.H x.hs) with
         | some (v,_)=>some ⟨putT x.T o.dst v,x.H,x.K,x.hs,record i (accOf C x.T (backH (x.K - s.k) x.H x.hs).n s.c o) x.rd,v,accOf C x.T (backH (x.K - s.k) x.H x.hs).n s.c o⟩
         | none=>none
 | false=>match s.c.chain with
   | true=>some ⟨putT x.T o.dst aundef,x.H,x.K+1,x.H::x.hs,x.rd,aundef,none⟩
   | false=>some ⟨putT x.T o.dst aundef,x.H,x.K,x.hs,x.rd,aundef,none⟩
theorem adraw_cons {all:List Oper} {o:Oper} {r:List Oper} {s:OpI} {ss:List OpI} {i:Nat} (x:TS) :
 adraw C rec fid lo all (o::r) (s::ss) i x.rd x.T x.H x.K x.hs=(match stepD C rec fid lo all o s i x with
  | some y=>adraw C rec fid lo all r ss (i+1) y.rd y.T y.H y.K y.hs
  | none=>none):=by
 unfold stepD
 rw [adraw]
 cases awanted all x.T o with
 | false=>cases s.c.chain<;>rfl
 | true =>
   simp only []
   cases hch:s.c.chain with
   | true =>
     simp only []
     cases clashes (accOf C x.T x.H.n s.c o) s.conf x.rd with
     | true=>rfl
     | false =>
       simp only []
       cases aop C rec fid lo o x.T x.H<;>rfl
   | false =>
     simp only []
     cases s.c with
     | data =>
       simp only []
       cases aop C rec fid lo o x.T x.H<;>rfl
     | load =>
       simp only []
       cases clashes (accOf C x.T (backH (x.K - s.k) x.H x.hs).n .load o) s.conf x.rd || !opsBelow C x.T (backH (x.K - s.k) x.H x.hs).n .load o with
       | true=>rfl
       | false =>
         simp only []
         cases aop C rec fid lo o x.T (backH (x.K - s.k) x.H x.hs)<;>rfl
     | read =>
       simp only []
       cases clashes (accOf C x.T (backH (x.K - s.k) x.H x.hs).n .read o) s.conf x.rd || !opsBelow C x.T (backH (x.K - s.k) x.H x.hs).n .read o with
       | true=>rfl
       | false =>
         simp only []
         cases aop C rec fid lo o x.T (backH (x.K - s.k) x.H x.hs)<;>rfl
     | fresh =>
       simp only []
       cases clashes (accOf C x.T (backH (x.K - s.k) x.H x.hs).n .fresh o) s.conf x.rd || !opsBelow C x.T (backH (x.K - s.k) x.H x.hs).n .fresh o with
       | true=>rfl
       | false =>
         simp only []
         cases aop C rec fid lo o x.T (backH (x.K - s.k) x.H x.hs)<;>rfl
     | writeAt =>
       simp only []
       cases clashes (accOf C x.T (backH (x.K - s.k) x.H x.hs).n .writeAt o) s.conf x.rd || !opsBelow C x.T (backH (x.K - s.k) x.H x.hs).n .writeAt o with
       | true=>rfl
       | false =>
         simp only []
         cases aop C rec fid lo o x.T (backH (x.K - s.k) x.H x.hs)<;>rfl
     | write =>
       simp only []
       cases clashes (accOf C x.T (backH (x.K - s.k) x.H x.hs).n .write o) s.conf x.rd || !opsBelow C x.T (backH (x.K - s.k) x.H x.hs).n .write o with
       | true=>rfl
       | false =>
         simp only []
         cases aop C rec fid lo o x.T (backH (x.K - s.k) x.H x.hs)<;>rfl
theorem adraw_states {all:List Oper}:∀ {l:List Oper} {ss:List OpI} {i:Nat} {x:TS} {T':TT AV} {H':Heap},ss.length=l.length→adraw C rec fid lo all l ss i x.rd x.T x.H x.K x.hs=some (T',H') →
 ∃ S:Nat→TS,S i=x∧(S (i+l.length)).T=T'∧(S (i+l.length)).H=H' ∧ ∀ j o s,l[j]? = some o→ss[j]? = some s→stepD C rec fid lo all o s (i+j) (S (i+j))=some (S (i+j+1))
 | [],ss,i,x,T',H',hlen,h=>by
   simp [adraw] at h
   exact ⟨fun _=>x,rfl,h.1,h.2,fun j o s hj=>by simp at hj⟩
 | o::l,[],i,x,T',H',hlen,h=>by simp at hlen
 | o::l,s::ss,i,x,T',H',hlen,h=>by
   rw [adraw_cons] at h
   split at h
   · rename_i y hy
     obtain ⟨S,s1,s2,s3,s4⟩:=adraw_states (by simpa using hlen) h
     refine ⟨fun p=>if p=i then x else S p,by simp, ?_, ?_,fun j o' s' hj hs' => ?_⟩
     · simp only [List.length_cons]
       rw [if_neg (by omega),show i+(l.length+1)=i+1+l.length by omega];exact s2
     · simp only [List.length_cons]
       rw [if_neg (by omega),show i+(l.length+1)=i+1+l.length by omega];exact s3
     · cases j with
       | zero =>
         simp at hj hs'
         subst hj hs'
         simp [s1,hy]
       | succ j =>
         simp at hj hs'
         have:=s4 j o' s' hj hs'
         simp only []
         rw [if_neg (by omega),if_neg (by omega),show i+(j+1)=i+1+j by omega]
         exact this
   · cases h
end Go.Sim

/-
A region that draws its order (4): what the run in the order of the text says of each operation.
-/
namespace Go.Sim
open Go
variable {C:Cfg} {rec:Rec} {fid:FuncId} {lo:Nat}
structure RunF (C:Cfg) (rec:Rec) (fid:FuncId) (lo:Nat) (ops:Array Oper) (plan:List OpI) (T0:TT AV) (H0:Heap) (S:Nat→TS):Prop where
 pl:∀ p o,ops[p]? = some o → ∃ s,plan[p]? = some s∧PlanAt C fid ops plan p o s
 step:∀ p o s,ops[p]? = some o→plan[p]? = some s→stepD C rec fid lo ops.toList o s p (S p)=some (S (p+1))
 T0:(S 0).T=T0
 H0:(S 0).H=H0
 K0:(S 0).K=0
 hs0:(S 0).hs=[]
 rd0:(S 0).rd=[]
 hat:AtOk C
def stageOf (S:Nat→TS) (N c:Nat):Heap:=backH ((S N).K - c) (S N).H (S N).hs
section
variable {ops:Array Oper} {plan:List OpI} {T0:TT AV} {H0:Heap} {S:Nat→TS}
theorem stepD_T {all:List Oper} {o:Oper} {s:OpI} {i:Nat} {x y:TS} (h:stepD C rec fid lo all o s i x=some y):y.T=putT x.T o.dst y.v:=by
 unfold stepD at h
 split at h
 · split at h
   · split at h
     · cases h
     · split at h<;>first | (cases h;done) | (simp at h;rw [← h])
   · split at h
     · split at h<;>first | (cases h;done) | (simp at h;rw [← h])
     · split at h
       · cases h
       · split at h<;>first | (cases h;done) | (simp at h;rw [← h])
 · split at h<;>(simp at h;rw [← h])
theorem stepD_K {all:List Oper} {o:Oper} {s:OpI} {i:Nat} {x y:TS} (h:stepD C rec fid lo all o s i x=some y) :
 (s.c.chain=true→y.K=x.K+1∧y.hs=x.H::x.hs)∧(s.c.chain=false→y.K=x.K∧y.hs=x.hs∧y.H=x.H):=by
 unfold stepD at h
 split at h
 · split at h
   · rename_i hc
     refine ⟨fun _ => ?_,fun h=>(by rw [hc] at h;cases h)⟩
     split at h
     · cases h
     · split at h<;>first | (cases h;done) | (simp at h;rw [← h];exact ⟨rfl,rfl⟩)
   · rename_i hc
     refine ⟨fun h=>(by rw [hc] at h;cases h),fun _ => ?_⟩
     split at h
     · split at h<;>first | (cases h;done) | (simp at h;rw [← h];exact ⟨rfl,rfl,rfl⟩)
     · split at h
       · cases h
       · split at h<;>first | (cases h;done) | (simp at h;rw [← h];exact ⟨rfl,rfl,rfl⟩)
 · split at h
   · rename_i hc
     refine ⟨fun _ => ?_,fun h=>(by rw [hc] at h;cases h)⟩
     simp at h;rw [← h];exact ⟨rfl,rfl⟩
   · rename_i hc
     refine ⟨fun h=>(by rw [hc] at h;cases h),fun _ => ?_⟩
     simp at h;rw [← h];exact ⟨rfl,rfl,rfl⟩
theorem RunF.K (R:RunF C rec fid lo ops plan T0 H0 S):∀ p,p≤ops.size→(S p).K=Kc plan p
 | 0,_=>R.K0
 | p+1,hp=>by
   obtain ⟨o,ho⟩:∃ o,ops[p]? = some o:=⟨ops[p],by simp⟩
   obtain ⟨s,hs,_⟩:=R.pl p o ho
   have hst:=stepD_K (R.step p o s ho hs)
   have ih:=R.K p (by omega)
   simp only [Kc,hs]
   cases hc:s.c.chain with
   | true=>rw [(hst.1 hc).1,ih];rfl
   | false=>rw [(hst.2 hc).1,ih];rfl
theorem backH_succ {n:Nat} {H H1:Heap} {hs:List Heap}:backH (n+1) H1 (H::hs)=backH n H hs:=rfl
theorem Kc_le (p:Nat):Kc plan p≤Kc plan (p+1):=by
 rw [Kc]
 cases plan[p]? with
 | none=>exact Nat.le_refl _
 | some s=>simp only [];split<;>omega
theorem Kc_mono {p q:Nat} (h:p≤q):Kc plan p≤Kc plan q:=by
 induction h with
 | refl=>exact Nat.le_refl _
 | step _ ih=>exact Nat.le_trans ih (Kc_le _)
theorem RunF.stage (R:RunF C rec fid lo ops plan T0 H0 S):∀ (d p:Nat),p+d=ops.size → ∀ c,c≤Kc plan p→backH (Kc plan p - c) (S p).H (S p).hs=stageOf S ops.size c
 | 0,p,hp,c,hc=>by
   have:p=ops.size:=by omega
   subst this
   unfold stageOf
   rw [R.K _ (Nat.le_refl _)]
 | d+1,p,hp,c,hc=>by
   obtain ⟨o,ho⟩:∃ o,ops[p]? = some o:=⟨ops[p],by simp⟩
   obtain ⟨s,hs,_⟩:=R.pl p o ho
   have hst:=stepD_K (R.step p o s ho hs)
   have ih:=R.stage d (p+1) (by omega) c (Nat.le_trans hc (Kc_le p))
   have hK:Kc plan (p+1)=if s.c.chain then Kc plan p+1 else Kc plan p:=by simp only [Kc,hs]
   cases hch:s.c.chain with
   | true =>
     rw [hK,hch,if_pos rfl,(hst.1 hch).2,show Kc plan p+1 - c=(Kc plan p - c)+1 by omega,backH_succ] at ih
     exact ih
   | false =>
     rw [hK,hch,if_neg (by simp),(hst.2 hch).2.1,(hst.2 hch).2.2] at ih
     exact ih
theorem RunF.heap (R:RunF C rec fid lo ops plan T0 H0 S) {p:Nat} (hp:p≤ops.size):(S p).H=stageOf S ops.size (Kc plan p):=by
 have:=R.stage (ops.size - p) p (by omega) (Kc plan p) (Nat.le_refl _)
 rw [Nat.sub_self] at this
 exact this
structure OpF (C:Cfg) (rec:Rec) (fid:FuncId) (lo:Nat) (ops:Array Oper) (plan:List OpI) (S:Nat→TS) (p:Nat) (o:Oper) (s:OpI):Prop where
 off:awanted ops.toList (S p).T o=false→(S (p+1)).v=aundef∧(S (p+1)).acc=none∧(s.c.chain=true→stageOf S ops.size (Kc plan p+1)=stageOf S ops.size (Kc plan p))
 chain:awanted ops.toList (S p).T o=true→s.c.chain=true →
  aop C rec fid lo o (S p).T (stageOf S ops.size (Kc plan p))=some ((S (p+1)).v,stageOf S ops.size (Kc plan p+1)) ∧ ∃ n,(S (p+1)).acc=accOf C (S p).T n s.c o
 data:awanted ops.toList (S p).T o=true→s.c=.data→(S (p+1)).acc=none ∧ ∃ H H',aop C rec fid lo o (S p).T H=some ((S (p+1)).v,H')
 quiet:awanted ops.toList (S p).T o=true→(s.c=.load∨s.c=.read)→(∃ H',aop C rec fid lo o (S p).T (stageOf S ops.size s.k)=some ((S (p+1)).v,H'))∧(S (p+1)).acc=accOf C (S p).T (stageOf S ops.size s.k).n s.c o∧opsBelow C (S p).T (stageOf S ops.size s.k).n s.c o=true
theorem RunF.op (R:RunF C rec fid lo ops plan T0 H0 S) {p:Nat} {o:Oper} {s:OpI} (ho:ops[p]? = some o) (hs:plan[p]? = some s):OpF C rec fid lo ops plan S p o s:=by
 have hp:p < ops.size:=(Array.getElem?_eq_some_iff.1 ho).1
 have hst:=R.step p o s ho hs
 have hK:=stepD_K hst
 have hH:=R.heap (p:=p) (by omega)
 have hH1:=R.heap (p:=p+1) (by omega)
 have hKc:Kc plan (p+1)=if s.c.chain then Kc plan p+1 else Kc plan p:=by simp only [Kc,hs]
 have hSK:=R.K p (by omega)
 obtain ⟨s',hs',hPA⟩:=R.pl p o ho
 rw [hs] at hs';simp at hs';subst hs'
 have hstage:=R.stage (ops.size - p) p (by omega) s.k hPA.k
 refine ⟨fun hw => ?_,fun hw hc => ?_,fun hw hc => ?_,fun hw hc => ?_⟩
 · unfold stepD at hst
   rw [hw] at hst
   simp only [] at hst
   cases hch:s.c.chain with
   | true =>
     rw [hch] at hst hKc
     simp at hst
     have e1:=congrArg TS.v hst
     have e2:=congrArg TS.acc hst
     have e3:=congrArg TS.H hst
     simp only [] at e1 e2 e3
     refine ⟨e1.symm,e2.symm,fun _ => ?_⟩
     rw [if_pos rfl] at hKc
     rw [← hKc,← hH1,← hH,e3]
   | false =>
     rw [hch] at hst
     simp at hst
     have e1:=congrArg TS.v hst
     have e2:=congrArg TS.acc hst
     exact ⟨e1.symm,e2.symm,fun h=>by cases h⟩
 · unfold stepD at hst
   rw [hw,hc] at hst
   simp only [] at hst
   rw [hc,if_pos rfl] at hKc
   split at hst
   · cases hst
   · split at hst
     · rename_i v H' hop
       simp at hst
       have e1:=congrArg TS.v hst
       have e2:=congrArg TS.acc hst
       have e3:=congrArg TS.H hst
       simp only [] at e1 e2 e3
       rw [← hKc,← hH1,← hH,← e1,← e2,← e3]
       exact ⟨hop,_,rfl⟩
     · cases hst
 · have hch:s.c.chain=false:=by rw [hc];rfl
   unfold stepD at hst
   rw [hw,hch] at hst
   simp only [hc] at hst
   split at hst
   · rename_i v H' hop
     simp at hst
     have e1:=congrArg TS.v hst
     have e2:=congrArg TS.acc hst
     simp only [] at e1 e2
     rw [← e1,← e2]
     exact ⟨rfl,_,_,hop⟩
   · cases hst
 · have hch:s.c.chain=false:=by rcases hc with hc | hc<;>rw [hc]<;>rfl
   unfold stepD at hst
   rw [hw,hch] at hst
   rw [hSK] at hst
   rcases hc with hc | hc
   · simp only [hc,hstage] at hst
     split at hst
     · cases hst
     · rename_i hbl
       simp only [Bool.or_eq_false_iff,Bool.not_eq_false'] at hbl
       split at hst
       · rename_i v H' hop
         simp at hst
         have e1:=congrArg TS.v hst
         have e2:=congrArg TS.acc hst
         simp only [] at e1 e2
         rw [← e1,← e2,hc]
         exact ⟨⟨_,hop⟩,rfl,hbl.2⟩
       · cases hst
   · simp only [hc,hstage] at hst
     split at hst
     · cases hst
     · rename_i hbl
       simp only [Bool.or_eq_false_iff,Bool.not_eq_false'] at hbl
       split at hst
       · rename_i v H' hop
         simp at hst
         have e1:=congrArg TS.v hst
         have e2:=congrArg TS.acc hst
         simp only [] at e1 e2
         rw [← e1,← e2,hc]
         exact ⟨⟨_,hop⟩,rfl,hbl.2⟩
       · cases hst
theorem stepD_rd {all:List Oper} {o:Oper} {s:OpI} {i:Nat} {x y:TS} (h:stepD C rec fid lo all o s i x=some y) :
 (∀ e,e ∈ x.rd→e ∈ y.rd)∧(∀ a,y.acc=some a→(i,a) ∈ y.rd)∧(∀ a,y.acc=some a → ∀ q b,q ∈ s.conf→(q,b) ∈ x.rd→a.apart b=true):=by
 have rec1:∀ (acc:Option Acc) (rd:List (Nat × Acc)),(∀ e,e ∈ rd→e ∈ record i acc rd)∧(∀ a,acc=some a→(i,a) ∈ record i acc rd):=fun acc rd=>by
  cases acc with
  | none=>exact ⟨fun _ h=>h,fun a h=>by cases h⟩
  | some b=>exact ⟨fun e h=>by simp [record,h],fun a h=>by cases h;simp [record]⟩
 have cl:∀ (acc:Option Acc) (rd:List (Nat × Acc)),clashes acc s.conf rd=false → ∀ a,acc=some a → ∀ q b,q ∈ s.conf→(q,b) ∈ rd→a.apart b=true:=by
  intro acc rd hc a ha q b hq hb
  subst ha
  unfold clashes at hc
  cases hcf:s.conf with
  | nil=>rw [hcf] at hq;simp at hq
  | cons c0 cr =>
    rw [hcf] at hc
    simp only [List.any_eq_false] at hc
    have:=hc (q,b) hb
    simp only [Bool.and_eq_true,Bool.not_eq_true',not_and] at this
    have h2:=this (by rw [← hcf];simpa using hq)
    simpa using h2
 unfold stepD at h
 split at h
 · split at h
   · split at h
     · cases h
     · rename_i hcl
       split at h
       · simp at h;subst h
         exact ⟨(rec1 _ _).1,(rec1 _ _).2,cl _ _ hcl⟩
       · cases h
   · split at h
     · split at h
       · simp at h;subst h
         exact ⟨fun _ h=>h,fun a h=>(by cases h),fun a h=>(by cases h)⟩
       · cases h
     · split at h
       · cases h
       · rename_i hcl
         simp only [Bool.or_eq_false_iff] at hcl
         split at h
         · simp at h;subst h
           exact ⟨(rec1 _ _).1,(rec1 _ _).2,cl _ _ hcl.1⟩
         · cases h
 · split at h
   · simp at h;subst h
     exact ⟨fun _ h=>h,fun a h=>(by cases h),fun a h=>(by cases h)⟩
   · simp at h;subst h
     exact ⟨fun _ h=>h,fun a h=>(by cases h),fun a h=>(by cases h)⟩
theorem RunF.rd (R:RunF C rec fid lo ops plan T0 H0 S):∀ p,p≤ops.size → ∀ q,q < p → ∀ a,(S (q+1)).acc=some a→(q,a) ∈ (S p).rd
 | 0,_,q,hq,_,_=>by omega
 | p+1,hp,q,hq,a,ha=>by
   obtain ⟨o,ho⟩:∃ o,ops[p]? = some o:=⟨ops[p],by simp⟩
   obtain ⟨s,hs,_⟩:=R.pl p o ho
   obtain ⟨h1,h2,_⟩:=stepD_rd (R.step p o s ho hs)
   rcases Nat.lt_or_ge q p with hlt | hge
   · exact h1 _ (R.rd p (by omega) q hlt a ha)
   · have:q=p:=by omega
     subst this
     exact h2 a ha
theorem RunF.apart (R:RunF C rec fid lo ops plan T0 H0 S) {p q:Nat} {o:Oper} {s:OpI} (ho:ops[p]? = some o) (hs:plan[p]? = some s) (hq:q < p) (hc:q ∈ s.conf) {a b:Acc} (ha:(S (p+1)).acc=some a) (hb:(S (q+1)).acc=some b):a.apart b=true :=
 have hp:p < ops.size:=(Array.getElem?_eq_some_iff.1 ho).1
 (stepD_rd (R.step p o s ho hs)).2.2 a ha q b hc (R.rd p (by omega) q hq b hb)
end
end Go.Sim

/-
A region that draws its order (5): whatever order is drawn, it comes to what the order of the text comes to.
-/
namespace Go.Sim
open Go
variable {C:Cfg} {rec:Rec} {fid:FuncId} {lo:Nat}
section
variable {ops:Array Oper} {plan:List OpI} {T0:TT AV} {H0:Heap} {S:Nat→TS}
def Dn (listed:Array Bool) (q:Nat):Prop:=listed[q]? = some true
def dstAt (ops:Array Oper) (q:Nat):Option Tmp:=(ops[q]?).bind (·.dst)
def CurIs (ops:Array Oper) (S:Nat→TS) (T0:TT AV) (D:Nat→Prop) (t:Tmp) (v:AV):Prop :=
 (∃ q,D q∧dstAt ops q=some t∧(∀ q',D q'→dstAt ops q'=some t→q'≤q)∧v=(S (q+1)).v)∨((∀ q,D q→dstAt ops q ≠ some t)∧v=getT T0 t)
theorem CurIs.congr {D D':Nat→Prop} {t:Tmp} {v:AV} (hD:∀ q,dstAt ops q=some t→(D q ↔ D' q)) (h:CurIs ops S T0 D t v):CurIs ops S T0 D' t v:=by
 rcases h with ⟨q,h1,h2,h3,h4⟩ | ⟨h1,h2⟩
 · exact .inl ⟨q,(hD q h2).1 h1,h2,fun q' h5 h6=>h3 q' ((hD q' h6).2 h5) h6,h4⟩
 · exact .inr ⟨fun q h3 h4=>h1 q ((hD q h4).2 h3) h4,h2⟩
theorem getT_putT (T:TT AV) (dst:Option Tmp) (v:AV) (t:Tmp):getT (putT T dst v) t=if dst=some t then v else getT T t:=by
 cases dst with
 | none=>simp [putT]
 | some d =>
   simp only [putT,getT_setT,Option.some.injEq]
   by_cases e:t=d
   · subst e;simp
   · rw [if_neg e,if_neg (Ne.symm e)]
theorem RunF.cur (R:RunF C rec fid lo ops plan T0 H0 S):∀ p,p≤ops.size → ∀ t,CurIs ops S T0 (· < p) t (getT (S p).T t)
 | 0,_,t=>.inr ⟨fun q h=>by simp at h,by rw [R.T0]⟩
 | p+1,hp,t=>by
   obtain ⟨o,ho⟩:∃ o,ops[p]? = some o:=⟨ops[p],by simp⟩
   obtain ⟨s,hs,_⟩:=R.pl p o ho
   rw [stepD_T (R.step p o s ho hs),getT_putT]
   have hd:dstAt ops p=o.dst:=by simp [dstAt,ho]
   split
   · rename_i e
     exact .inl ⟨p,Nat.lt_succ_self p,by rw [hd,e],fun q' h1 _=>by omega,rfl⟩
   · rename_i e
     refine (R.cur p (by omega) t).congr fun q hq=>⟨fun h=>by omega,fun h => ?_⟩
     rcases Nat.lt_or_ge q p with h' | h'
     · exact h'
     · have:q=p:=by omega
       subst this
       rw [hd] at hq;exact absurd hq e
theorem Kc_chain {c i:Nat} {s:OpI} (hs:plan[c]? = some s) (hc:s.c.chain=true) (h:c < i):Kc plan c < Kc plan i:=by
 have h1:Kc plan (c+1)=Kc plan c+1:=by simp only [Kc,hs,hc,if_true]
 have h2:Kc plan (c+1)≤Kc plan i:=Kc_mono (by omega)
 omega
theorem Kc_inj {c i:Nat} {s s':OpI} (hs:plan[c]? = some s) (hc:s.c.chain=true) (hs':plan[i]? = some s') (hc':s'.c.chain=true) (h:Kc plan c=Kc plan i):c=i:=by
 rcases Nat.lt_trichotomy c i with h1 | h1 | h1
 · have:=Kc_chain (plan:=plan) hs hc h1;omega
 · exact h1
 · have:=Kc_chain (plan:=plan) hs' hc' h1;omega
theorem Kc_surj:∀ {i k:Nat},k < Kc plan i → ∃ c s,c < i∧plan[c]? = some s∧s.c.chain=true∧Kc plan c=k
 | 0,k,h=>by simp [Kc] at h
 | i+1,k,h=>by
   rw [Kc] at h
   cases hs:plan[i]? with
   | none =>
     rw [hs] at h
     obtain ⟨c,s,h1,h2⟩:=Kc_surj h
     exact ⟨c,s,by omega,h2⟩
   | some s =>
     rw [hs] at h
     simp only [] at h
     split at h
     · rename_i hc
       by_cases e:k=Kc plan i
       · exact ⟨i,s,by omega,hs,hc,e.symm⟩
       · obtain ⟨c,s',h1,h2⟩:=Kc_surj (show k < Kc plan i by omega)
         exact ⟨c,s',by omega,h2⟩
     · obtain ⟨c,s',h1,h2⟩:=Kc_surj h
       exact ⟨c,s',by omega,h2⟩
theorem Acc.apart_comm (a b:Acc):a.apart b=b.apart a:=by
 cases a<;>cases b<;>rfl
structure Inv (C:Cfg) (lo:Nat) (ops:Array Oper) (plan:List OpI) (T0:TT AV) (S:Nat→TS) (M:List Nat) (size:Nat) (g0:Gh) (H0:Heap) (w0:World) (listed:Array Bool) (j:Nat) (g:Gh) (w:World) (Tc:TT AV) (a:Act):Prop where
 lsz:listed.size=ops.size
 closed:∀ p s q,Dn listed p→plan[p]? = some s→s.m.testBit q=true→Dn listed q
 stage:∀ c s,plan[c]? = some s→s.c.chain=true→(Dn listed c ↔ Kc plan c < j)
 surj:∀ c,c < j → ∃ x s,plan[x]? = some s∧s.c.chain=true∧Dn listed x∧Kc plan x=c
 rel:Rel C g (stageOf S ops.size j) w
 ext:Ext lo g0 H0 w0 g (stageOf S ops.size j) w
 marks:Marks lo g (stageOf S ops.size j).n M a.defers
 tsz:a.tmps.size=size
 frame:TRel g (stageOf S ops.size j).n Tc a.tmps
 cur:∀ t v,CurIs ops S T0 (Dn listed) t v→getT Tc t=v
 mono:∀ c,c < j→(stageOf S ops.size c).n≤(stageOf S ops.size (c+1)).n
 past:∀ c,c≤j→lo≤(stageOf S ops.size c).n∧(stageOf S ops.size c).n≤(stageOf S ops.size j).n ∧ ∃ gc wc,Rel C gc (stageOf S ops.size c) wc∧Gh.le (stageOf S ops.size c).n gc g
 keep:∀ x s,Dn listed x→plan[x]? = some s→s.c=.fresh → ∀ id,id < (stageOf S ops.size (Kc plan x)).n→(stageOf S ops.size (Kc plan x+1)).get id=(stageOf S ops.size (Kc plan x)).get id
theorem dn_set {listed:Array Bool} {i q:Nat} (hi:i < listed.size):Dn (listed.setIfInBounds i true) q ↔ (q=i∨Dn listed q):=by
 unfold Dn
 by_cases e:q=i
 · subst e;simp [hi]
 · rw [Array.getElem?_setIfInBounds_ne (Ne.symm e)]
   simp [e]
section step
variable {M:List Nat} {size:Nat} {g0:Gh} {w0:World} {listed:Array Bool} {j:Nat} {g:Gh} {w:World} {Tc:TT AV} {a:Act}
theorem Inv.later (I:Inv C lo ops plan T0 S M size g0 H0 w0 listed j g w Tc a) (R:RunF C rec fid lo ops plan T0 H0 S) {i q:Nat} {o oq:Oper} {s sq:OpI} (hni:¬ Dn listed i) (ho:ops[i]? = some o) (hs:plan[i]? = some s) (hq:Dn listed q) (hiq:i < q)
 (hoq:ops[q]? = some oq) (hsq:plan[q]? = some sq):o.apart ops oq=true∧(meets s.c sq.c=0∨(meets s.c sq.c=1∧i ∈ sq.conf)):=by
 obtain ⟨s',hs',hP⟩:=R.pl q oq hoq
 rw [hsq] at hs';simp at hs';subst hs'
 rcases hP.loose i o s hiq ho hs with h | h
 · exact absurd (I.closed q _ i hq hsq h) hni
 · exact h
theorem Inv.looks (I:Inv C lo ops plan T0 S M size g0 H0 w0 listed j g w Tc a) (R:RunF C rec fid lo ops plan T0 H0 S) {i:Nat} {o:Oper} {s:OpI} (hni:¬ Dn listed i) (ho:ops[i]? = some o) (hs:plan[i]? = some s) (hm:∀ q,s.m.testBit q=true→Dn listed q)
 {t:Tmp} (ht:t ∈ o.looksAt ops):getT (S i).T t=getT Tc t:=by
 have hi:i < ops.size:=(Array.getElem?_eq_some_iff.1 ho).1
 refine (I.cur t _ ((R.cur i (by omega) t).congr fun q hq => ?_)).symm
 have hqs:q < ops.size:=by
  unfold dstAt at hq
  cases hoq:ops[q]? with
  | none=>rw [hoq] at hq;simp at hq
  | some oq=>exact (Array.getElem?_eq_some_iff.1 hoq).1
 obtain ⟨oq,hoq⟩:∃ oq,ops[q]? = some oq:=⟨ops[q],by simp⟩
 have hqd:oq.dst=some t:=by simpa [dstAt,hoq] using hq
 constructor
 · intro hlt
   obtain ⟨s',hs',hP⟩:=R.pl i o ho
   rw [hs] at hs';simp at hs';subst hs'
   obtain ⟨sq,hsq,_⟩:=R.pl q oq hoq
   rcases hP.loose q oq sq hlt hoq hsq with h | ⟨h,_⟩
   · exact hm q h
   · exact absurd ht ((Oper.apart_spec h).1 t hqd)
 · intro hdn
   rcases Nat.lt_or_ge q i with h | h
   · exact h
   · rcases Nat.eq_or_lt_of_le h with e | h
     · subst e;exact absurd hdn hni
     · obtain ⟨sq,hsq,_⟩:=R.pl q oq hoq
       have:=(I.later R hni ho hs hdn h hoq hsq).1
       exact absurd ht ((Oper.apart_spec this).2.2 t hqd)
theorem Inv.number (I:Inv C lo ops plan T0 S M size g0 H0 w0 listed j g w Tc a) (R:RunF C rec fid lo ops plan T0 H0 S) {i:Nat} {o:Oper} {s:OpI} (hni:¬ Dn listed i) (ho:ops[i]? = some o) (hs:plan[i]? = some s) (hm:∀ q,s.m.testBit q=true→Dn listed q)
 (hc:s.c.chain=true):Kc plan i=j:=by
 have h1:¬ Kc plan i < j:=fun h=>hni ((I.stage i s hs hc).2 h)
 rcases Nat.lt_or_ge j (Kc plan i) with h2 | h2
 · obtain ⟨c,sc,h3,h4,h5,h6⟩:=Kc_surj h2
   obtain ⟨s',hs',hP⟩:=R.pl i o ho
   rw [hs] at hs';simp at hs';subst hs'
   have hi:i < ops.size:=(Array.getElem?_eq_some_iff.1 ho).1
   obtain ⟨oc,hoc⟩:∃ oc,ops[c]? = some oc:=⟨ops[c],by simp⟩
   have hd:Dn listed c:=by
    rcases hP.loose c oc sc h3 hoc h4 with h | ⟨_,h | ⟨h,_⟩⟩
    · exact hm c h
    · exfalso;revert h hc h5;cases sc.c<;>cases s.c<;>simp [meets,Cls.chain]
    · exfalso;revert h hc h5;cases sc.c<;>cases s.c<;>simp [meets,Cls.chain]
   have:=(I.stage c sc h4 h5).1 hd
   omega
 · omega
theorem Inv.same (I:Inv C lo ops plan T0 S M size g0 H0 w0 listed j g w Tc a) (R:RunF C rec fid lo ops plan T0 H0 S) {i:Nat} {o:Oper} {s:OpI} (hni:¬ Dn listed i) (ho:ops[i]? = some o) (hs:plan[i]? = some s) (hm:∀ q,s.m.testBit q=true→Dn listed q)
 (hc:s.c=.load∨s.c=.read) {ai:Acc} (hai:(S (i+1)).acc=some ai) {id:Nat} (hid:∀ x,ai.apart (.wr x)=true→x ≠ id):∀ d c,s.k≤c→c+d=j→id < (stageOf S ops.size c).n→(stageOf S ops.size j).get id=(stageOf S ops.size c).get id
 | 0,c,_,hd,_=>by rw [show c=j by omega]
 | d+1,c,hk,hd,hlt=>by
   have hcj:c < j:=by omega
   have hnext:=I.same R hni ho hs hm hc hai hid d (c+1) (by omega) (by omega) (Nat.lt_of_lt_of_le hlt (I.mono c hcj))
   rw [hnext]
   obtain ⟨x,sx,hsx,hch,hdx,hKx⟩:=I.surj c hcj
   have hi:i < ops.size:=(Array.getElem?_eq_some_iff.1 ho).1
   have hxs:x < ops.size:=by
    have:=(Array.getElem?_eq_some_iff.1 hdx).1
    rw [I.lsz] at this;exact this
   obtain ⟨ox,hox⟩:∃ ox,ops[x]? = some ox:=⟨ops[x],by simp⟩
   obtain ⟨s',hs',hP⟩:=R.pl i o ho
   rw [hs] at hs';simp at hs';subst hs'
   have hF:=R.op hox hsx
   obtain ⟨sx',hsx',hPx⟩:=R.pl x ox hox
   rw [hsx] at hsx';simp at hsx';subst hsx'
   have hne:x ≠ i:=fun e=>hni (e ▸ hdx)
   -- the two are not ordered
   have loose:∃ n,(n=0∨n=1)∧(n=1 → ∀ b,(S (x+1)).acc=some b→ai.apart b=true)∧(meets sx.c s.c=n∨meets s.c sx.c=n):=by
    rcases Nat.lt_or_gt_of_ne hne with h | h
    · rcases hP.loose x ox sx h hox hsx with h1 | ⟨_,h1 | ⟨h1,h2⟩⟩
      · have:=(hP.pre x ox sx h hox hsx hch).1 h1
        omega
      · exact ⟨0,.inl rfl,fun h=>by omega,.inl h1⟩
      · exact ⟨1,.inr rfl,fun _ b hb=>R.apart ho hs h h2 hai hb,.inl h1⟩
    · obtain ⟨_,h1 | ⟨h1,h2⟩⟩:=I.later R hni ho hs hdx h hox hsx
      · exact ⟨0,.inl rfl,fun h=>by omega,.inr h1⟩
      · exact ⟨1,.inr rfl,fun _ b hb=>by rw [Acc.apart_comm];exact R.apart hox hsx h h2 hb hai,.inr h1⟩
   obtain ⟨n,hn,hap,hmt⟩:=loose
   subst hKx
   cases hcx:sx.c with
   | data=>rw [hcx] at hch;cases hch
   | load=>rw [hcx] at hch;cases hch
   | read=>rw [hcx] at hch;cases hch
   | fresh=>exact I.keep x sx hdx hsx hcx id hlt
   | write =>
     exfalso
     rw [hcx] at hmt
     rcases hc with hc | hc<;>rw [hc] at hmt<;>simp [meets] at hmt<;>omega
   | writeAt =>
     cases hw:awanted ops.toList (S x).T ox with
     | false=>rw [(hF.off hw).2.2 hch]
     | true =>
       obtain ⟨hop,m,hacc⟩:=hF.chain hw hch
       have hn1:n=1:=by
        rw [hcx] at hmt
        rcases hc with hc | hc<;>rw [hc] at hmt<;>simp [meets] at hmt<;>omega
       refine aop_writeAt (n:=m) R.hat (hPx.cls.trans hcx) hop id hlt fun e => ?_
       rw [hcx] at hacc
       have:=hap hn1 (.wr id) (by rw [hacc,e])
       exact hid id this rfl
end step
end
end Go.Sim

/-
A region that draws its order (6): one operation, all of them.
-/
namespace Go.Sim
open Go
variable {C:Cfg} {rec:Rec} {fid:FuncId} {lo:Nat}
section
variable {ops:Array Oper} {plan:List OpI} {T0:TT AV} {H0:Heap} {S:Nat→TS}
variable {M:List Nat} {size:Nat} {g0:Gh} {w0:World} {listed:Array Bool} {j:Nat} {g:Gh} {w:World} {Tc:TT AV} {a:Act}
theorem Inv.put (I:Inv C lo ops plan T0 S M size g0 H0 w0 listed j g w Tc a) (R:RunF C rec fid lo ops plan T0 H0 S) {i:Nat} {o:Oper} {s:OpI} (hni:¬ Dn listed i) (ho:ops[i]? = some o) (hs:plan[i]? = some s) (hm:∀ q,s.m.testBit q=true→Dn listed q)
 (hdst:∀ d,o.dst=some d→d < size) {g':Gh} {w':World} {j':Nat} (hj:(s.c.chain=true→j'=j+1)∧(s.c.chain=false→j'=j)) (hR:Rel C g' (stageOf S ops.size j') w') (hE:Ext lo g (stageOf S ops.size j) w g' (stageOf S ops.size j') w')
 {cv:Value} (hv:VRel g' (stageOf S ops.size j').n (S (i+1)).v cv) (hkeep:s.c=.fresh → ∀ id,id < (stageOf S ops.size j).n→(stageOf S ops.size j').get id=(stageOf S ops.size j).get id) :
 Inv C lo ops plan T0 S M size g0 H0 w0 (listed.setIfInBounds i true) j' g' w' (putT Tc o.dst (S (i+1)).v) (a.put o.dst cv):=by
 have hi:i < ops.size:=(Array.getElem?_eq_some_iff.1 ho).1
 have hil:i < listed.size:=by rw [I.lsz];exact hi
 have hnum:s.c.chain=true→Kc plan i=j:=fun hc=>I.number R hni ho hs hm hc
 refine ⟨by simp [I.lsz], ?_, ?_, ?_,hR,I.ext.trans hE, ?_,by rw [put_size];exact I.tsz, ?_, ?_, ?_, ?_, ?_⟩
 · intro p sp q hp hsp hq
   rw [dn_set hil] at hp ⊢
   rcases hp with rfl | hp
   · rw [hs] at hsp;simp at hsp;subst hsp
     exact .inr (hm q hq)
   · exact .inr (I.closed p sp q hp hsp hq)
 · intro c sc hsc hcc
   rw [dn_set hil]
   cases hch:s.c.chain with
   | true =>
     rw [hj.1 hch]
     constructor
     · rintro (rfl | h)
       · have:=hnum hch;omega
       · have:=(I.stage c sc hsc hcc).1 h;omega
     · intro h
       rcases Nat.lt_or_ge (Kc plan c) j with h1 | h1
       · exact .inr ((I.stage c sc hsc hcc).2 h1)
       · exact .inl (Kc_inj hsc hcc hs hch (by have:=hnum hch;omega))
   | false =>
     rw [hj.2 hch]
     constructor
     · rintro (rfl | h)
       · rw [hs] at hsc;simp at hsc;subst hsc;rw [hch] at hcc;cases hcc
       · exact (I.stage c sc hsc hcc).1 h
     · intro h;exact .inr ((I.stage c sc hsc hcc).2 h)
 · intro c hc
   have old:c < j → ∃ x s,plan[x]? = some s∧s.c.chain=true∧Dn (listed.setIfInBounds i true) x∧Kc plan x=c:=fun h=>by
    obtain ⟨x,sx,h1,h2,h3,h4⟩:=I.surj c h
    exact ⟨x,sx,h1,h2,(dn_set hil).2 (.inr h3),h4⟩
   cases hch:s.c.chain with
   | true =>
     rw [hj.1 hch] at hc
     rcases Nat.lt_or_ge c j with h | h
     · exact old h
     · exact ⟨i,s,hs,hch,(dn_set hil).2 (.inl rfl),by have:=hnum hch;omega⟩
   | false =>
     rw [hj.2 hch] at hc
     exact old hc
 · have:=I.marks.mono hE.n hE.le
   cases o.dst<;>exact this
 · have hT:=I.frame.mono hE.n hE.le
   cases hd:o.dst with
   | none=>exact hT
   | some d=>exact hT.set (by rw [I.tsz];exact hdst d hd) hv
 · intro t v hcur
   rw [getT_putT]
   have hd:dstAt ops i=o.dst:=by simp [dstAt,ho]
   split
   · rename_i e
     rcases hcur with ⟨q,h1,h2,h3,h4⟩ | ⟨h1,_⟩
     · rw [h4]
       have hq:q=i:=by
        have h5:=h3 i ((dn_set hil).2 (.inl rfl)) (by rw [hd,e])
        rcases (dn_set hil).1 h1 with h6 | h6
        · exact h6
        · exfalso
          have hqi:i < q:=by
           rcases Nat.eq_or_lt_of_le h5 with h7 | h7
           · exact absurd (h7 ▸ h6) hni
           · exact h7
          have hqs:q < ops.size:=by
           have:=(Array.getElem?_eq_some_iff.1 h6).1
           rw [I.lsz] at this;exact this
          obtain ⟨oq,hoq⟩:∃ oq,ops[q]? = some oq:=⟨ops[q],by simp⟩
          obtain ⟨sq,hsq,_⟩:=R.pl q oq hoq
          have:=(I.later R hni ho hs h6 hqi hoq hsq).1
          refine (Oper.apart_spec this).2.1 t e ?_
          simpa [dstAt,hoq] using h2
       rw [hq]
     · exact absurd (by rw [hd,e]) (h1 i ((dn_set hil).2 (.inl rfl)))
   · rename_i e
     refine I.cur t v (hcur.congr fun q hq => ?_)
     rw [dn_set hil]
     constructor
     · rintro (rfl | h)
       · rw [hd] at hq;exact absurd hq e
       · exact h
     · exact .inr
 · intro c hc
   cases hch:s.c.chain with
   | true =>
     rw [hj.1 hch] at hc hE
     rcases Nat.lt_or_ge c j with h | h
     · exact I.mono c h
     · have:c=j:=by omega
       subst this
       exact hE.n
   | false =>
     rw [hj.2 hch] at hc
     exact I.mono c hc
 · intro c hc
   have old:c≤j→lo≤(stageOf S ops.size c).n∧(stageOf S ops.size c).n≤(stageOf S ops.size j').n ∧ ∃ gc wc,Rel C gc (stageOf S ops.size c) wc∧Gh.le (stageOf S ops.size c).n gc g':=fun h=>by
    obtain ⟨h1,h2,gc,wc,h3,h4⟩:=I.past c h
    exact ⟨h1,Nat.le_trans h2 hE.n,gc,wc,h3,h4.trans hE.le h2⟩
   rcases Nat.lt_or_ge j c with h | h
   · have:c=j':=by
      cases hch:s.c.chain with
      | true=>have:=hj.1 hch;omega
      | false=>have:=hj.2 hch;omega
     subst this
     exact ⟨Nat.le_trans (I.past j (Nat.le_refl _)).1 hE.n,Nat.le_refl _,g',w',hR,.refl _ _⟩
   · exact old h
 · intro x sx hx hsx hcx id hid
   rcases (dn_set hil).1 hx with rfl | hx
   · rw [hs] at hsx;simp at hsx;subst hsx
     have hch:s.c.chain=true:=by rw [hcx];rfl
     have hKj:=hnum hch
     rw [hKj] at hid ⊢
     rw [← hj.1 hch]
     exact hkeep hcx id hid
   · exact I.keep x sx hx hsx hcx id hid
theorem underAll_get {n:Nat}:∀ {l:List AV},underAll n l=true → ∀ (i:Nat) (v:AV),l[i]? = some v→v.under n=true
 | [],_,i,v,h=>by simp at h
 | x::l,hb,i,v,h=>by
   simp only [underAll,Bool.and_eq_true] at hb
   cases i with
   | zero=>simp at h;subst h;exact hb.1
   | succ i=>exact underAll_get hb.2 i v (by simpa using h)
theorem VRel.under {g:Gh} {n:Nat} {v:AV} {cv:Value} (h:VRel g n v cv):∀ {k:Nat},v.under k=true→VRel g k v cv:=by
 induction h with
 | bool b=>intro _ _;exact .bool b
 | int k i=>intro _ _;exact .int k i
 | str h=>intro _ _;exact .str h
 | nilp=>intro _ _;exact .nilp
 | ptr _=>intro _ hb;exact .ptr (by simpa [AV.under,Nat.blt_eq] using hb)
 | pptr vals hl hk hv _=>intro _ _;exact .pptr vals hl hk hv
 | @ps n tok rows b o cap sz vals hsz hl hk hv hcap htok _ =>
   intro k hb
   refine .ps vals hsz hl hk hv hcap ?_
   cases tok with
   | tok t=>exact ⟨by simpa [AV.under,Nat.blt_eq] using hb,htok.2⟩
   | _=>exact htok
 | psnil h=>intro _ _;exact .psnil h
 | psz h=>intro _ _;exact .psz h
 | rs _ h1 h2=>intro _ hb;exact .rs (by simpa [AV.under,Nat.blt_eq] using hb) h1 h2
 | nilm=>intro _ _;exact .nilm
 | map _=>intro _ hb;exact .map (by simpa [AV.under,Nat.blt_eq] using hb)
 | fn hl hl' hf hc ihf ihc =>
   intro k hb
   simp only [AV.under,Bool.and_eq_true] at hb
   exact .fn hl hl' (fun i c v h1 h2=>ihf i c v h1 h2 (underAll_get hb.1 i c h1)) (fun i c v h1 h2=>ihc i c v h1 h2 (underAll_get hb.2 i c h1))
 | yld _=>intro _ hb;exact .yld (by simpa [AV.under,Nat.blt_eq] using hb)
 | nilf=>intro _ _;exact .nilf
 | nili=>intro _ _;exact .nili
 | agg hl hv ih=>intro k hb;exact .agg hl fun i c v h1 h2=>ih i c v h1 h2 (underAll_get (by simpa [AV.under] using hb) i c h1)
 | tup hl hv ih=>intro k hb;exact .tup hl fun i c v h1 h2=>ih i c v h1 h2 (underAll_get (by simpa [AV.under] using hb) i c h1)
def onlyT (T:TT AV):List Tmp→TT AV
 | []=>.leaf
 | t::l=>setT (onlyT T l) t (getT T t)
theorem getT_onlyT (T:TT AV) (t:Tmp):∀ l,getT (onlyT T l) t=if t ∈ l then getT T t else aundef
 | []=>by simp [onlyT,getT,TT.get]
 | x::l=>by
   simp only [onlyT,getT_setT,getT_onlyT T t l,List.mem_cons]
   by_cases e:t=x
   · subst e;simp
   · simp [e]
def onlyA (a:Act) (l:List Tmp):Act:={ a with tmps:=Array.ofFn (n:=a.tmps.size) fun t=>if t.val ∈ l then a.tmps.getD t undef else undef }
theorem onlyA_get (a:Act) (l:List Tmp) (t:Tmp):(onlyA a l).tmps.getD t undef=if t ∈ l then a.tmps.getD t undef else undef:=by
 simp only [onlyA,Array.getD_eq_getD_getElem?,Array.getElem?_ofFn]
 by_cases h:t < a.tmps.size
 · simp [h]
 · rw [dif_neg h]
   have:a.tmps[t]? = none:=Array.getElem?_eq_none (Nat.le_of_not_lt h)
   simp [this]
theorem put_inj {a a':Act} (hs:a.tmps.size=a'.tmps.size) {dst:Option Tmp} (hd:∀ d,dst=some d→d < a.tmps.size) {v cv:Value} (h:a'.put dst cv=a'.put dst v):a.put dst v=a.put dst cv:=by
 cases dst with
 | none=>rfl
 | some d =>
   have h1:(a'.tmps.setIfInBounds d cv)[d]? = (a'.tmps.setIfInBounds d v)[d]?:=congrArg (fun x:Act=>x.tmps[d]?) h
   have:d < a'.tmps.size:=by rw [← hs];exact hd d rfl
   simp [this] at h1
   rw [h1]
theorem wpIn_swap {F : Fence} {P : Program} {o : Oper} {a a' : Act} {w : World} {next next' : Act → World → Prop} {Q : Exit → Act → World → Prop} (hsel : ∀ cs b, o.op ≠ .select cs b) (hdef : ∀ c, o.op ≠ .defer c) (he : ∀ x ∈ o.op.operands, a.eval x = a'.eval x)
    (hn0 : ∀ x w', next' x w' → x.defers = a'.defers) (hn : ∀ v w', next' (a'.put o.dst v) w' → next (a.put o.dst v) w') (h : o.wpIn F 0 P a' w next' (fun _ _ _ => False)) : o.wpIn F 0 P a w next Q := by
  have e1 : execOp a.eval o = execOp a'.eval o := execOp_congr o hsel he
  have e2 : o.about P w a.eval = o.about P w a'.eval := about_congr o w he
  refine ⟨fun f hf => h.1 f (by rw [← e2]; exact hf), ?_⟩
  have h2 := h.2
  rw [Oper.semAt_eq _ _ _ hdef] at h2 ⊢
  rw [e1]
  generalize (execOp a'.eval o).run P w = r at h2
  have lets : LetsOut (fun (_ : Exit) (_ : Act) (_ : World) => False) → False := fun ⟨_, _, h⟩ => h
  cases r with
  | ok x w' =>
    cases x <;> simp only [Oper.uponIn] at h2 ⊢
    case value v => exact hn _ _ h2
    case skip => exact hn _ _ h2
    case defer d =>
      have := hn0 _ _ h2
      exfalso
      have e : (({ a' with defers := d :: a'.defers } : Act).put o.dst undef).defers = d :: a'.defers := by cases o.dst <;> rfl
      rw [e] at this
      have := congrArg List.length this
      simp at this
    case enter f args => exact ⟨h2.1, h2.2.mono fun e w'' he => by cases e <;> first | exact hn _ _ he | exact he.elim | exact (lets he).elim⟩
    case row r args => exact ⟨h2.1, h2.2.mono fun v w'' he => hn _ _ he⟩
    case round l f tmps as bd => exact ⟨h2.1, h2.2.mono fun e w'' he => by cases e <;> first | exact hn _ _ he | exact he.elim | exact (lets he).elim⟩
  | halt x w' => cases x <;> simp only [Oper.uponIn] at h2 ⊢
theorem Inv.run (Sa : Sane C) (ih : ∀ t o, rec t = some o → Sound C t o) (I : Inv C lo ops plan T0 S M size g0 H0 w0 listed j g w Tc a) (R : RunF C rec fid lo ops plan T0 H0 S) {i : Nat} {o : Oper} {s : OpI} (hni : ¬ Dn listed i) (ho : ops[i]? = some o) (hs : plan[i]? = some s) (hm : ∀ q, s.m.testBit q = true → Dn listed q)
 (hdst : ∀ d, o.dst = some d → d < size) {ro : Option Nat} {K : Act → World → Prop} {Q : Exit → Act → World → Prop}
 (hK : ∀ j' g' w' Tc' a', Inv C lo ops plan T0 S M size g0 H0 w0 (listed.setIfInBounds i true) j' g' w' Tc' a' → K a' w') : wpOpIn (fenceAt ro) 0 C.P ops Q i K a w := by
 have hF := R.op ho hs
 obtain ⟨s', hs', hP⟩ := R.pl i o ho
 rw [hs] at hs'; simp at hs'; subst hs'
 have hlooks : ∀ t, t ∈ o.looksAt ops → getT (S i).T t = getT Tc t := fun t ht => I.looks R hni ho hs hm ht
 have hops : ∀ x ∈ o.op.operands, evalO C (S i).T x = evalO C Tc x := by
  intro x hx
  cases x with
  | tmp t => simp only [evalO]; rw [hlooks t (List.mem_append_left _ (List.mem_filterMap.2 ⟨.tmp t, by simpa using hx, rfl⟩))]
  | _ => rfl
 have hcong : ∀ lo' H, aop C rec fid lo' o (S i).T H = aop C rec fid lo' o Tc H := fun lo' H => aop_congr hops
 have haw : awanted ops.toList (S i).T o = awanted ops.toList Tc o := by
  unfold awanted
  cases hg : o.guard with
  | none => rfl
  | some p =>
    obtain ⟨gj, want⟩ := p
    simp only []
    cases hd : dstOf ops.toList gj with
    | none => rfl
    | some d =>
      simp only []
      rw [hlooks d]
      refine List.mem_append_right _ ?_
      rw [hg]
      simp only []
      rw [dstOf_eq, Array.getElem?_toList] at hd
      rw [hd]; simp
 have hlo : lo ≤ (stageOf S ops.size j).n := (I.past j (Nat.le_refl _)).1
 have hfr : FRel C g (stageOf S ops.size j).n Tc a := ⟨I.frame, I.rel.glob⟩
 unfold wpOpIn
 rw [ho]
 simp only []
 rw [← wanted_eq I.frame, ← haw]
 cases hw : awanted ops.toList (S i).T o with
 | false =>
   simp only [Bool.false_eq_true, if_false]
   refine ⟨fun _ _ => trivial, ?_⟩
   obtain ⟨h1, _, h3⟩ := hF.off hw
   have key : ∀ j', (s.c.chain = true → j' = j + 1) → (s.c.chain = false → j' = j) → stageOf S ops.size j' = stageOf S ops.size j → K (a.put o.dst undef) w := fun j' e1 e2 e3 => by
    refine hK j' g w _ _ (I.put R hni ho hs hm hdst (j' := j') ⟨e1, e2⟩ (by rw [e3]; exact I.rel) (by rw [e3]; exact .refl _ _ _ _) (cv := undef) (by rw [h1]; exact VRel.undef) (fun _ id _ => by rw [e3]))
   cases hch : s.c.chain with
   | true =>
     have hKj := I.number R hni ho hs hm hch
     have e := h3 hch
     rw [hKj] at e
     exact key (j + 1) (fun _ => rfl) (fun h => by rw [hch] at h; cases h) e
   | false => exact key j (fun h => by rw [hch] at h; cases h) (fun _ => rfl) rfl
 | true =>
   simp only [if_true]
   -- nothing is made or written
   have quiet : s.c.chain = false → ∀ g' w' cv, Rel C g' (stageOf S ops.size j) w' → Ext lo g (stageOf S ops.size j) w g' (stageOf S ops.size j) w' → VRel g' (stageOf S ops.size j).n (S (i + 1)).v cv → K (a.put o.dst cv) w' := fun hch g' w' cv r1 r2 r3 =>
    hK j g' w' _ _ (I.put R hni ho hs hm hdst (j' := j) ⟨fun h => (by rw [hch] at h; cases h), fun _ => rfl⟩ r1 r2 r3 (fun h => by rw [h] at hch; cases hch))
   cases hc : s.c with
   | data =>
     obtain ⟨_, H1, H2, hop⟩ := hF.data hw hc
     have hop' := aop_data (H1 := stageOf S ops.size j) (hP.cls.trans hc) hop
     rw [hcong] at hop'
     exact aop_ok Sa ih hlo hop' I.rel hfr fun cv w' ⟨g', r1, r2, r3⟩ => quiet (by rw [hc]; rfl) g' w' cv r1 r2 r3
   | load =>
     obtain ⟨⟨H', hop⟩, hacc, _⟩ := hF.quiet hw (.inl hc)
     have hkj : s.k ≤ j := by
      rcases Nat.lt_or_ge j s.k with h | h
      · exfalso
        -- the operation that is ordered before is done
        obtain ⟨c, sc, h1, h2, h3, h4⟩ := Kc_surj (Nat.lt_of_lt_of_le h hP.k)
        have hi : i < ops.size := (Array.getElem?_eq_some_iff.1 ho).1
        obtain ⟨oc, hoc⟩ : ∃ oc, ops[c]? = some oc := ⟨ops[c], by simp⟩
        have hb := (hP.pre c oc sc h1 hoc h2 h3).2 (by omega)
        have := (I.stage c sc h2 h3).1 (hm c hb)
        omega
      · exact h
     have hop' := aop_load (H1 := stageOf S ops.size j) (n := (stageOf S ops.size s.k).n) (hP.cls.trans hc) hop fun id hid => by
      rw [hc, hid] at hacc
      obtain ⟨_, _, gk, wk, hRk, _⟩ := I.past s.k hkj
      have hlive : id < (stageOf S ops.size s.k).n := by
       rcases Nat.lt_or_ge id (stageOf S ops.size s.k).n with h | h
       · exact h
       · exfalso
         have hdead := hRk.out id h
         obtain ⟨t, x, hopc⟩ := clsOf_load (hP.cls.trans hc)
         unfold aop at hop
         simp only [hopc] at hop
         unfold accOf at hid
         simp only [hopc] at hid
         cases hx : evalO C (S i).T x with
         | none => rw [hx] at hid; cases hid
         | some vx =>
           rw [hx] at hid hop
           cases vx <;> simp only [] at hid <;> first | (cases hid; done) | skip
           simp at hid
           subst hid
           simp only [] at hop
           obtain ⟨h1, _⟩ := same_eq hop
           unfold aload at h1
           split at h1
           · unfold readCells at h1
             simp only [hdead, blkCells] at h1
             cases h1
           · cases h1
      exact I.same R hni ho hs hm (.inl hc) hacc (fun x hx => by simp [Acc.apart] at hx; exact fun e => hx e.symm) (j - s.k) s.k (Nat.le_refl _) (by omega) hlive
     rw [hcong] at hop'
     exact aop_ok Sa ih hlo hop' I.rel hfr fun cv w' ⟨g', r1, r2, r3⟩ => quiet (by rw [hc]; rfl) g' w' cv r1 r2 r3
   | read =>
     obtain ⟨⟨H', hop⟩, hacc, hbelow⟩ := hF.quiet hw (.inr hc)
     have hkj : s.k ≤ j := by
      rcases Nat.lt_or_ge j s.k with h | h
      · exfalso
        obtain ⟨c, sc, h1, h2, h3, h4⟩ := Kc_surj (Nat.lt_of_lt_of_le h hP.k)
        have hi : i < ops.size := (Array.getElem?_eq_some_iff.1 ho).1
        obtain ⟨oc, hoc⟩ : ∃ oc, ops[c]? = some oc := ⟨ops[c], by simp⟩
        have hb := (hP.pre c oc sc h1 hoc h2 h3).2 (by omega)
        have := (I.stage c sc h2 h3).1 (hm c hb)
        omega
      · exact h
     have e := aop_read (hP.cls.trans hc) hop
     subst e
     rw [hc] at hacc
     have hget : ∀ id, id < (stageOf S ops.size s.k).n → (stageOf S ops.size j).get id = (stageOf S ops.size s.k).get id := fun id hid =>
      I.same R hni ho hs hm (.inr hc) (ai := .all (stageOf S ops.size s.k).n) hacc (fun x hx => by simp [Acc.apart] at hx; omega) (j - s.k) s.k (Nat.le_refl _) (by omega) hid
     obtain ⟨hlk, hnk, gk, wk, hRk, hlek⟩ := I.past s.k hkj
     have hRb := hRk.back I.rel hlek hnk hget
     -- an activation that holds the operands alone
     have hopc : ∀ x ∈ o.op.operands, ∀ v, evalO C Tc x = some v → VRel g (stageOf S ops.size s.k).n v (a.eval x) := fun x hx v hv => by
      have hr := evalO_rel hfr hv
      rw [hc] at hbelow
      unfold opsBelow at hbelow
      simp only [List.all_eq_true] at hbelow
      have := hbelow x (by simpa using hx)
      rw [hops x hx, hv] at this
      exact hr.under this
     let l := o.op.operands.toList.filterMap fun | .tmp t => some t | _ => none
     have hmem : ∀ t, t ∈ l ↔ .tmp t ∈ o.op.operands := fun t => by
      simp only [l, List.mem_filterMap]
      constructor
      · rintro ⟨x, hx, he⟩
        cases x <;> simp at he
        subst he; simpa using hx
      · intro h; exact ⟨_, by simpa using h, rfl⟩
     have hTk : TRel g (stageOf S ops.size s.k).n (onlyT Tc l) (onlyA a l).tmps := fun t => by
      rw [getT_onlyT, onlyA_get]
      split
      · rename_i ht
        exact hopc (.tmp t) ((hmem t).1 ht) _ rfl
      · exact VRel.undef
     have hopk : aop C rec fid lo o (onlyT Tc l) (stageOf S ops.size s.k) = some ((S (i + 1)).v, stageOf S ops.size s.k) := by
      rw [← hop, hcong]
      refine aop_congr fun x hx => ?_
      cases x with
      | tmp t => simp only [evalO]; rw [getT_onlyT, if_pos ((hmem t).2 hx)]
      | _ => rfl
     have hsize : a.tmps.size = (onlyA a l).tmps.size := by simp [onlyA]
     have hno : (∀ cs b, o.op ≠ .select cs b) ∧ ∀ c, o.op ≠ .defer c := by
      constructor
      · intro cs b e; unfold aop at hop; rw [e] at hop; cases hop
      · intro c e; unfold aop at hop; rw [e] at hop; cases hop
     refine wpIn_swap (a' := onlyA a l) (next' := fun x w' => x.defers = (onlyA a l).defers ∧ ∀ v, x = (onlyA a l).put o.dst v → K (a.put o.dst v) w') hno.1 hno.2 (fun x hx => ?_) (fun x w' h => h.1) (fun v w' h => h.2 v rfl)
      (aop_ok Sa ih hlk hopk hRb ⟨hTk, hRb.glob⟩ fun cv w' ⟨g', r1, r2, r3⟩ => ⟨by cases o.dst <;> rfl, fun v hv => ?_⟩)
     · cases x with
       | tmp t =>
         show a.tmps.getD t undef = (onlyA a l).tmps.getD t undef
         rw [onlyA_get, if_pos ((hmem t).2 hx)]
       | _ => rfl
     · rw [put_inj hsize (fun d hd => by rw [I.tsz]; exact hdst d hd) hv]
       obtain ⟨q1, q2, q3⟩ := I.rel.join hnk hget r1 r2 lo
       exact quiet (by rw [hc]; rfl) _ w' cv q1 q2 (q3 _ _ r3)
   | fresh =>
     have hch : s.c.chain = true := by rw [hc]; rfl
     obtain ⟨hop, _⟩ := hF.chain hw hch
     rw [I.number R hni ho hs hm hch, hcong, aop_fresh (lo' := (stageOf S ops.size j).n) (hP.cls.trans hc)] at hop
     refine aop_ok Sa ih (Nat.le_refl _) hop I.rel hfr fun cv w' ⟨g', r1, r2, r3⟩ => ?_
     exact hK (j + 1) g' w' _ _ (I.put R hni ho hs hm hdst (j' := j + 1) ⟨fun _ => rfl, fun h => by rw [hch] at h; cases h⟩ r1 (r2.lower hlo) r3 (fun _ id hid => r2.keep id hid hid))
   | writeAt =>
     have hch : s.c.chain = true := by rw [hc]; rfl
     obtain ⟨hop, _⟩ := hF.chain hw hch
     rw [I.number R hni ho hs hm hch, hcong] at hop
     refine aop_ok Sa ih hlo hop I.rel hfr fun cv w' ⟨g', r1, r2, r3⟩ => ?_
     exact hK (j + 1) g' w' _ _ (I.put R hni ho hs hm hdst (j' := j + 1) ⟨fun _ => rfl, fun h => by rw [hch] at h; cases h⟩ r1 r2 r3 (fun h => by rw [hc] at h; cases h))
   | write =>
     have hch : s.c.chain = true := by rw [hc]; rfl
     obtain ⟨hop, _⟩ := hF.chain hw hch
     rw [I.number R hni ho hs hm hch, hcong] at hop
     refine aop_ok Sa ih hlo hop I.rel hfr fun cv w' ⟨g', r1, r2, r3⟩ => ?_
     exact hK (j + 1) g' w' _ _ (I.put R hni ho hs hm hdst (j' := j + 1) ⟨fun _ => rfl, fun h => by rw [hch] at h; cases h⟩ r1 r2 r3 (fun h => by rw [hc] at h; cases h))
end
end Go.Sim

/-
What a run of the abstract interpreter says: all of it.
-/
namespace Go.Sim
open Go
variable {C:Cfg} {rec:Rec}
theorem dn_iff {listed:Array Bool} {q:Nat} (hq:q < listed.size):¬ Dn listed q ↔ listed[q]? = some false:=by
 unfold Dn
 have:listed[q]? = some listed[q]:=Array.getElem?_eq_getElem hq
 rw [this]
 cases listed[q]<;>simp
theorem mem_ready {md:Region.Mode} {ops:Array Oper} {listed:Array Bool} {i:Nat} (hsz:listed.size=ops.size):i ∈ Region.ready md ops listed ↔
 ∃ o,ops[i]? = some o ∧ ¬ Dn listed i ∧ ∀ e ∈ o.after.toList,Region.binds md e=true→Dn listed e.on:=by
 unfold Region.ready
 simp only [List.mem_filter,List.mem_range,Bool.and_eq_true]
 constructor
 · rintro ⟨h1,h2,h3⟩
   obtain ⟨o,ho⟩:∃ o,ops[i]? = some o:=⟨ops[i],by simp⟩
   refine ⟨o,ho, ?_,fun e he hb => ?_⟩
   · rw [dn_iff (by omega)]
     have:listed[i]? = some listed[i]:=Array.getElem?_eq_getElem (by omega)
     rw [Array.getD_eq_getD_getElem?,this] at h2
     rw [this]
     simpa using h2
   · rw [ho] at h3
     simp only [Option.map_some,Option.getD_some,Array.all_eq_true'] at h3
     have:=h3 e (by simpa using he)
     rw [hb] at this
     simp only [Bool.not_true,Bool.false_or] at this
     unfold Dn
     rw [Array.getD_eq_getD_getElem?] at this
     cases hx:listed[e.on]? with
     | none=>rw [hx] at this;simp at this
     | some b=>rw [hx] at this;simp at this;rw [this]
 · rintro ⟨o,ho,h1,h2⟩
   have hi:i < ops.size:=(Array.getElem?_eq_some_iff.1 ho).1
   refine ⟨hi, ?_, ?_⟩
   · rw [dn_iff (by omega)] at h1
     rw [Array.getD_eq_getD_getElem?,h1];rfl
   · rw [ho]
     simp only [Option.map_some,Option.getD_some,Array.all_eq_true']
     intro e he
     cases hb:Region.binds md e with
     | false=>rfl
     | true =>
       have:=h2 e (by simpa using he) hb
       unfold Dn at this
       rw [Array.getD_eq_getD_getElem?,this];rfl
theorem draw_ok (Sa:Sane C) (ih:∀ t o,rec t=some o→Sound C t o):DrawOk C rec:=by
 intro ro fid lo ops plan T H T' H' M g0 w0 a0 Q hplan hdst hlo hrun hR0 hA0 hQ
 have hat:=planOk_at (C:=C) (fid:=fid) (ops:=ops) (plan:=plan) (i:=0) (seen:=[]) hplan ⟨fun q hq=>by simp at hq,fun j hj=>by omega⟩ rfl rfl rfl
 have hplen:plan.length=ops.size:=by have:=hat.1;simpa using this
 obtain ⟨S,s1,s2,s3,s4⟩:=adraw_states (i:=0) (x:=⟨T,H,0,[],[],aundef,none⟩) (by rw [hplen];simp) hrun
 have R:RunF C rec fid lo ops plan T H S:=by
  refine ⟨fun p o ho=>hat.2 p o (Nat.zero_le _) ho,fun p o s ho hs => ?_,by rw [s1],by rw [s1],by rw [s1],by rw [s1],by rw [s1],Sa.at1⟩
  have:=s4 p o s (by rw [Array.getElem?_toList];exact ho) hs
  simpa using this
 have hst0:stageOf S ops.size 0=H:=by
  have:=R.heap (p:=0) (Nat.zero_le _)
  rw [R.H0] at this
  exact this.symm
 have hN:(0+ops.toList.length)=ops.size:=by simp
 rw [hN] at s2 s3
 -- whatever is left
 have main:∀ (fuel:Nat) (listed:Array Bool) (j:Nat) (g:Gh) (w:World) (Tc:TT AV) (a:Act),Inv C lo ops plan T S M a0.tmps.size g0 H w0 listed j g w Tc a→listed.toList.count false≤fuel→wpAnyIn (fenceAt ro) 0 C.P .any ops Q fuel listed a w:=by
  have done:∀ (listed:Array Bool) (j:Nat) (g:Gh) (w:World) (Tc:TT AV) (a:Act),Inv C lo ops plan T S M a0.tmps.size g0 H w0 listed j g w Tc a→Region.ready .any ops listed=[]→Q .normal a w:=by
   intro listed j g w Tc a I hr
   have hall:∀ p,p < ops.size→Dn listed p:=by
    intro p
    induction p using Nat.strongRecOn with
    | _ p ihp =>
      intro hp
      by_cases h:Dn listed p
      · exact h
      · exfalso
        obtain ⟨o,ho⟩:∃ o,ops[p]? = some o:=⟨ops[p],by simp⟩
        obtain ⟨s,hs,hP⟩:=R.pl p o ho
        have:p ∈ Region.ready .any ops listed:=(mem_ready I.lsz).2 ⟨o,ho,h,fun e he hb=>ihp e.on (hP.edge e he hb) (by have:=hP.edge e he hb;omega)⟩
        rw [hr] at this
        simp at this
   have hj:j=Kc plan ops.size:=by
    rcases Nat.lt_trichotomy j (Kc plan ops.size) with h | h | h
    · obtain ⟨c,s,h1,h2,h3,h4⟩:=Kc_surj h
      have:=(I.stage c s h2 h3).1 (hall c h1)
      omega
    · exact h
    · obtain ⟨x,s,h1,h2,h3,h4⟩:=I.surj _ h
      have hx:x < ops.size:=by
       have:=(Array.getElem?_eq_some_iff.1 h3).1
       rw [I.lsz] at this;exact this
      have:=Kc_chain (plan:=plan) h1 h2 hx
      omega
   have hH':stageOf S ops.size j=H':=by
    have:=R.heap (p:=ops.size) (Nat.le_refl _)
    rw [s3] at this
    rw [hj,this]
   have hT':TRel g H'.n T' a.tmps:=fun t=>by
    have h1:=I.cur t _ ((R.cur ops.size (Nat.le_refl _) t).congr fun q hq=>⟨fun h=>hall q h,fun h=>by
     have:=(Array.getElem?_eq_some_iff.1 h).1
     rw [I.lsz] at this;exact this⟩)
    have h2:=I.frame t
    rw [h1,s2,hH'] at h2
    exact h2
   have hrel:=I.rel
   have hext:=I.ext
   have hmk:=I.marks
   rw [hH'] at hrel hext hmk
   exact hQ g a w hrel hext ⟨⟨hT',hrel.glob⟩,hmk⟩ I.tsz
  intro fuel
  induction fuel with
  | zero =>
    intro listed j g w Tc a I hc
    have hr:Region.ready .any ops listed=[]:=by
     rw [List.eq_nil_iff_forall_not_mem]
     intro i hi
     obtain ⟨o,ho,hn,_⟩:=(mem_ready I.lsz).1 hi
     have hil:i < listed.size:=by rw [I.lsz];exact (Array.getElem?_eq_some_iff.1 ho).1
     rw [dn_iff hil] at hn
     have:false ∈ listed.toList:=by
      rw [List.mem_iff_getElem?]
      exact ⟨i,by rw [Array.getElem?_toList];exact hn⟩
     have:=List.count_pos_iff.2 this
     omega
    exact ⟨hr,done listed j g w Tc a I hr⟩
  | succ fuel ihf =>
    intro listed j g w Tc a I hc
    refine ⟨fun hr=>done listed j g w Tc a I hr,fun i hi => ?_⟩
    obtain ⟨o,ho,hn,hed⟩:=(mem_ready I.lsz).1 hi
    obtain ⟨s,hs,hP⟩:=R.pl i o ho
    have hio:i < ops.size:=(Array.getElem?_eq_some_iff.1 ho).1
    have hil:i < listed.size:=by rw [I.lsz];exact hio
    have hm:∀ q,s.m.testBit q=true→Dn listed q:=fun q hq=>by
     obtain ⟨e,he,hb,h⟩:=hP.mask q hq
     have hde:=hed e he hb
     rcases h with rfl | h
     · exact hde
     · unfold mAt at h
       cases hse:plan[e.on]? with
       | none=>rw [hse] at h;simp at h
       | some se =>
         rw [hse] at h
         exact I.closed e.on se q hde hse h
    refine I.run Sa ih R hn ho hs hm (fun d hd=>hdst o (by rw [List.mem_iff_getElem?];exact ⟨i,by rw [Array.getElem?_toList];exact ho⟩) d hd) fun j' g' w' Tc' a' I' => ?_
    refine ihf _ j' g' w' Tc' a' I' ?_
    have hfalse:listed.toList[i]'(by simpa using hil)=false:=by
     rw [dn_iff hil] at hn
     have:=Array.getElem?_eq_getElem hil
     rw [hn] at this
     simpa using this.symm
    have hpos:0 < listed.toList.count false:=List.count_pos_iff.2 (by rw [← hfalse];exact List.getElem_mem _)
    rw [Array.toList_setIfInBounds,List.count_set (by simpa using hil),hfalse]
    simp
    have:listed.toList.count false=listed.count false:=by simp
    omega
 refine main ops.size _ 0 g0 w0 T a0 ?_ (by simp)
 refine ⟨by simp,fun p s q hp _ _ => ?_,fun c s _ _ => ?_,fun c hc=>by omega,by rw [hst0];exact hR0,by rw [hst0];exact .refl _ _ _ _,by rw [hst0];exact hA0.m,rfl,by rw [hst0];exact hA0.f.t,fun t v hcur => ?_,fun c hc=>by omega,fun c hc => ?_,fun x s hx _ _ => ?_⟩
 · exfalso
   unfold Dn at hp
   rw [Array.getElem?_replicate] at hp
   split at hp<;>simp at hp
 · constructor
   · intro hp
     exfalso
     unfold Dn at hp
     rw [Array.getElem?_replicate] at hp
     split at hp<;>simp at hp
   · intro h;omega
 · rcases hcur with ⟨q,h1,_⟩ | ⟨_,h2⟩
   · exfalso
     unfold Dn at h1
     rw [Array.getElem?_replicate] at h1
     split at h1<;>simp at h1
   · exact h2.symm
 · have:c=0:=by omega
   subst this
   rw [hst0]
   exact ⟨hlo,Nat.le_refl _,g0,w0,hR0,.refl _ _⟩
 · exfalso
   unfold Dn at hx
   rw [Array.getElem?_replicate] at hx
   split at hx<;>simp at hx
theorem step_ok (Sa:Sane C) (ih:∀ t o,rec t=some o→Sound C t o) (t:Task) (o:Out) (h:astep C rec t=some o):Sound C t o:=by
 cases t with
 | call lo f args H=>exact call_ok Sa ih h
 | yield lo l args H=>exact yield_ok Sa ih h
 | code lo fid rnd c s =>
   by_cases hc:∃ f p x y,c=.rangeFunc f p x y
   · obtain ⟨f,p,x,y,rfl⟩:=hc
     exact rangeFunc_ok Sa ih h
   · exact code_ok Sa ih (draw_ok Sa ih) (fun f p x y e=>hc ⟨f,p,x,y,e⟩) h
theorem run_ok (Sa:Sane C):∀ (k:Nat) (t:Task) (o:Out),run C k t=some o→Sound C t o
 | 0,t,o,h=>by simp [run] at h
 | k+1,t,o,h=>step_ok Sa (run_ok Sa k) t o h
end Go.Sim
